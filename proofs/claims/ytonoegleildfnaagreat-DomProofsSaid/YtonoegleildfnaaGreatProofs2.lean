/- Part 2. -/
import Derived.Test.YtonoegleildfnaaGreatProofs1
import Derived.IntWalk
import Derived.ProofKit
import Derived.RangeFuncRecord
import Derived.Scope
import Derived.Test.YtonoegleildfnaaGreatChecked
import Derived.Test.YtonoegleildfnaaGreatProg
set_option linter.all false
namespace Go.Abs
section
variable{P:Program}{F:Nat->Prop}
theorem QE{β β':Pla}{w:World}{m:Mem}(hm:MSim P F m β w){i:Nat}{cs:List D}{e:TypeId}(ax:m i=some (.cells cs e))(hβ:β'=up β i (some .dead)){d:D}{v:Value}(h:R F β w d v):
 R F β' w (fz0 i cs (P.cellsOf e) d) v:=by
 have hs:Step β w β' w:=by rw[hβ];exact step_dead β w i
 have X:=h.step hs;obtain⟨p,hp,hr⟩:=hm.row i _ ax;unfold fz0;split
 .rename_i j off n;split
  .rename_i dm;subst dm;cases h with
   |rsd _ _ _ _ h1 _=>
    rw[h1] at hp;cases hp;cases hr
   |rsn _ a h1=>
    rw[h1] at hp;cases hp;cases hr;simp only[List.drop_nil,List.take_nil];exact .sln a 0
   |rsz _ _ a b o len room sz h1=>
    simp only[Nat.zero_mul,List.take_zero];exact .sln a 0
   |rs _ _ _ cap b o len room sz h1 hn fT h2 h3=>
    rw[h1] at hp;cases hp;have J:β j=some (.cells b o len room sz):=h1;obtain⟨dK,hl,cE,_⟩:=hr.rd;have M:=(dK.drop off).take (n*P.cellsOf e);obtain⟨us,u1,u2⟩:=M;refine .sl _ n b (o+off) cap us (hm.nf j _ b J rfl) ?_ (hm.lt j _ b J rfl) hn fT u1 fun k d hk=>(u2 k d hk).step hs;rw[hβ];intro k q hq;by_cases C:k=j
    .subst C;rw[up_same] at hq;cases hq;simp[Pl.blk]
    .rw[up_ne _ _ C] at hq;exact hm.free_other J rfl hq C
  .exact X
 .rename_i j off;split
  .rename_i dm;subst dm;cases h with
   |rpd _ _ _ h1 _=>
    rw[h1] at hp;cases hp;cases hr
   |rp _ _ b o len room sz h1=>
    rw[h1] at hp;cases hp;obtain⟨dK,hl,cE,_⟩:=hr.rd;obtain⟨us,u1,u2⟩:=dK.drop off;refine .pt _ b (o+off) us (hm.nf j _ b h1 rfl) ?_ (hm.lt j _ b h1 rfl) u1 fun k d hk=>(u2 k d hk).step hs;rw[hβ];intro k q hq;by_cases C:k=j
    .subst C;rw[up_same] at hq;cases hq;simp[Pl.blk]
    .rw[up_ne _ _ C] at hq;exact hm.free_other h1 rfl hq C
  .exact X
 .exact X
theorem abJ{β β':Pla}{w:World}{m:Mem}(hm:MSim P F m β w){i:Nat}{es:List (Value×D)}(ax:m i=some (.map es))(M:β'=up β i (some .dead)){d:D}{v:Value}(h:R F β w d v):R F β' w (fm0 i es d) v:=by
 have hs:Step β w β' w:=by rw[M];exact step_dead β w i
 unfold fm0;split
 .rename_i j;split
  .rename_i X;subst X;obtain⟨r,ms,clock,h1,rfl,h3,h4,h5,J⟩:=h.mp_inv hm ax;refine .im es r ms clock (hm.nf j _ r h1 rfl) ?_ h3 h4 h5 (fun k x m hx hm=>(J k x m hx hm).1) fun k x m hx hm=>(J k x m hx hm).2.step hs;rw[M];intro k q hq;by_cases C:k=j
   .subst C;rw[up_same] at hq;cases hq;simp[Pl.blk]
   .rw[up_ne _ _ C] at hq;exact hm.free_other h1 rfl hq C
  .exact h.step hs
 .exact h.step hs
section subst
variable{σ:D->D}{β β':Pla}{w:World}
theorem PR(C:∀ {d v},R F β w d v->R F β' w (σ d) v){d:D}{v:Value}(h:R F β w d v):R F β' w (sub1 σ d) v:=by
 unfold sub1;split
 .rename_i ds;obtain⟨vs,rfl,hl,J⟩:=h.agg_inv;refine .agg _ vs (by simpa using hl) fun k d v hd hv=>?_;simp only[List.getElem?_map,dw] at hd;obtain⟨d',M,rfl⟩:=hd;exact C (J k d' v M hv)
 .cases h with
  |opt c d _ h1 h2=>exact .opt _ _ v (fun hc=>C (h1 hc)) h2
 .exact C h
theorem J7(J:∀ {d v},R F β w d v->R F β' w (σ d) v){d:D}{v:Value}(h:R F β w d v):R F β' w (sub σ d) v:=by
 have map:∀ (ds:List D) (vs:List Value),(∀ (k:Nat) (d:D) (v:Value),ds[k]? =some d->vs[k]? =some v->R F β w d v)->
  ∀ (k:Nat) (d:D) (v:Value),(ds.map (sub1 σ))[k]? =some d->vs[k]? =some v->R F β' w d v:=fun ds vs C k d v hd hv=>by
  simp only[List.getElem?_map,dw] at hd;obtain⟨d',M,rfl⟩:=hd;exact PR J (C k d' v M hv)
 unfold sub;split
 .rename_i ds;obtain⟨vs,rfl,hl,C⟩:=h.tup_inv;exact .tup _ vs (by simpa using hl) (map ds vs C)
 .rename_i f fs ds;cases h with
  |fn _ _ _ us vs hl jW h1 h2=>exact .fn f _ _ us vs (by simpa using hl) (by simpa using jW) (map fs us h1) (map ds vs h2)
 .exact PR J h
theorem adi(X:∀ {d v},R F β w d v->R F β' w (σ d) v)(hs:Step β w β' w){r:Row}{p:Pl}(h:RowR P F β w r p):RowR P F β' w (r.sub σ) p:=by
 cases h with
 |nil C=>exact .nil C
 |cells ds C b o room sz c hc hr hlen cE J=>
  have:=RowR.cells (P:=P) (F:=F) (β:=β') (w:=w) (ds.map (Abs.sub σ)) C b o room sz c hc hr (by simpa using hlen) cE fun k d hk=>by
   simp only[List.getElem?_map,dw] at hk;obtain⟨d',pf,rfl⟩:=hk;obtain⟨v,h1,h2,h3⟩:=J k d' pf;exact⟨v,h1,J7 X h2,h3⟩
  simpa[Row.sub] using this
 |map es r ms clock hc hl cR J=>
  refine .map _ r ms clock hc (by simpa using hl) (by simpa[List.map_map,Function.comp_def] using cR) fun k x mm hk M=>?_;simp only[List.getElem?_map,dw] at hk;obtain⟨x',pg,rfl⟩:=hk;obtain⟨h1,h2⟩:=J k x' mm pg M;exact⟨h1,J7 X h2⟩
 |raw r o hc=>exact .raw r o hc
 |ren f r _ F₂ h1 h2 h=>exact(RowR.ren f r p F₂ h1 h2 h).step hs fun _ _=>rfl
end subst
theorem Pf{σ:D->D}{env:Env}{m:Mem}{nx i:Nat}{row:Row}(h:m i=some row){w:World}{a:Act}{β:Pla}(hs:fL P F ⟨env,m,nx⟩ β w a)(X:∀ {d v},R F β w d v->R F (up β i (some .dead)) w (σ d) v):
 ∃ β',fL P F ⟨fun t=>sub σ (env t),fun j=>if j=i then none else(m j).map (Row.sub σ),nx⟩ β' w a/\jk nx β w a ⟨fun t=>sub σ (env t),fun j=>if j=i then none else(m j).map (Row.sub σ),nx⟩ β' w a:=by
 have M:=step_dead β w i;have hm:=hs.m;simp only at hm
 have J:∀ j q b,up β i (some .dead) j=some q->q.blk=some b->j≠i/\β j=some q:=fun j q b hq e=>by
  by_cases hj:j=i
  .subst hj;rw[up_same] at hq;cases hq;simp[Pl.blk] at e
  .rw[up_ne _ _ hj] at hq;exact⟨hj,hq⟩
 have hi:∃ p,β i=some p:=by
  obtain⟨p,hp,_⟩:=hm.row i _ h;exact⟨p,hp⟩
 refine⟨up β i (some .dead),⟨fun t=>J7 X (hs.e t),⟨fun j r hj=>?_,fun j k q q' b hq iM e1 e2=>hm.inj j k q q' b (J j q b hq e1).2 (J k q' b iM e2).2 e1 e2,
  fun j q b hq e1=>hm.lt j q b (J j q b hq e1).2 e1,fun j q b hq e1=>hm.nf j q b (J j q b hq e1).2 e1,hm.fb⟩,fun j hj=>?_⟩,⟨M,bF _,fun j hj hn=>?_,rfl,rfl⟩⟩
 .simp only at hj;by_cases C:j=i
  .rw[if_pos C] at hj;cases hj
  .rw[if_neg C] at hj;simp only[dw] at hj;obtain⟨r',jq,rfl⟩:=hj;obtain⟨q,hq,ax⟩:=hm.row j r' jq;exact⟨q,by rw[up_ne _ _ C];exact hq,adi X M ax⟩
 .have C:j≠i:=fun e1=>by
   subst e1;obtain⟨p,hp⟩:=hi;rw[hs.n j hj] at hp;cases hp
  rw[up_ne _ _ C];exact hs.n j hj
 .have C:j≠i:=fun e1=>by
   subst e1;obtain⟨p,hp⟩:=hi;rw[hn] at hp;cases hp
  rw[up_ne _ _ C];exact hn
theorem abK{β:Pla}{w:World}{cs cs':List D}{e:TypeId}{p:Pl}(hl:cs'.length=cs.length)(M:∀ (k:Nat) (d d':D),cs[k]? =some d->cs'[k]? =some d'->Wk d d')(h:RowR P F β w (.cells cs e) p):RowR P F β w (.cells cs' e) p:=by
 cases h with
 |nil _=>
  have:cs'=[]:=List.length_eq_zero_iff.1 (by simpa using hl);subst this;exact .nil e
 |cells _ _ b o room sz c hc hr hlen cE J=>
  rw[<- hl];refine .cells cs' e b o room sz c hc hr oG cE fun k d' C=>?_;have hk:k<cs.length:=by rw[<- hl];exact(bw.1 C).1
  obtain⟨v,h1,h2,h3⟩:=J k cs[k] (by simp[hk]);exact⟨v,h1,M k cs[k] d' (by simp[hk]) C _ _ _ _ h2,h3⟩
theorem Pg{st st':St}(h:Ghost P st st'){w:World}{a:Act}:∀ {β:Pla},fL P F st β w a->∃ β',fL P F st' β' w a/\jk st.nx β w a st' β' w a:=by
 induction h with
 |refl st=>exact fun {β} hs=>⟨β,hs,jk.refl st β w a⟩
 |trans _ _ X ih₂=>
  intro β hs;obtain⟨β₁,h1,h2⟩:=X hs;obtain⟨β₂,h3,h4⟩:=ih₂ h1;exact⟨β₂,h3,h2.trans h4⟩
 |forget env env' m nx h=>
  intro β hs;refine⟨β,⟨fun t=>?_,hs.m,hs.n⟩,⟨Step.refl β w,bF _,fun _ _ h=>h,rfl,rfl⟩⟩;rcases h t with h1|h1
  .simp only[h1];exact hs.e t
  .simp only[h1];exact .u _
 |drop env m m' nx h=>
  intro β hs;refine⟨β,⟨hs.e,⟨fun i r hi=>?_,hs.m.inj,hs.m.lt,hs.m.nf,hs.m.fb⟩,hs.n⟩,⟨Step.refl β w,bF _,fun _ _ h=>h,rfl,rfl⟩⟩;rcases h i with h1|h1
  .exact hs.m.row i r (h1.symm.trans hi)
  .simp only at hi;rw[h1] at hi;cases hi
 |weak env env' m m' nx h fW=>
  intro β hs;refine⟨β,⟨fun t=>h t _ _ _ _ (hs.e t),⟨fun i r hi=>?_,hs.m.inj,hs.m.lt,hs.m.nf,hs.m.fb⟩,hs.n⟩,⟨Step.refl β w,bF _,fun _ _ h=>h,rfl,rfl⟩⟩;rcases fW i with h1|⟨cs,cs',e,h1,h2,h3,h4⟩
  .exact hs.m.row i r (h1.symm.trans hi)
  .simp only at hi;rw[h2] at hi;cases hi;obtain⟨p,hp,hr⟩:=hs.m.row i _ h1;exact⟨p,hp,abK h3 h4 hr⟩
 |freeze env m nx i cs e h=>
  intro β hs;exact Pf h hs fun hr=>QE hs.m h rfl hr
 |freezeM env m nx i es h=>
  intro β hs;exact Pf h hs fun hr=>abJ hs.m h rfl hr
 |nilrow env m nx t e h=>
  intro β hs;have hm:=hs.m;have hn:β nx=none:=hs.n nx (bF _);simp only at hm
  have C:∀ j q b,up β nx (some .nil) j=some q->q.blk=some b->j≠nx/\β j=some q:=fun j q b hq e=>by
   by_cases hj:j=nx
   .subst hj;rw[up_same] at hq;cases hq;simp[Pl.blk] at e
   .rw[up_ne _ _ hj] at hq;exact⟨hj,hq⟩
  have J:Step β w (up β nx (some .nil)) w:=by
   refine⟨bF _,fun b _ hf=>⟨rfl,fun j q hq e1=>?_⟩,fun j q hq=>.inl ?_,rfl,rfl⟩
   .exact hf j q (C j q b hq e1).2 e1
   .rw[up_ne _ _ (fun e1=>by rw[e1,hn] at hq;cases hq)];exact hq
  refine⟨up β nx (some .nil),⟨fun u=>?_,⟨fun j r hj=>?_,fun j k q q' b hq iM e1 e2=>hm.inj j k q q' b (C j q b hq e1).2 (C k q' b iM e2).2 e1 e2,
   fun j q b hq e1=>hm.lt j q b (C j q b hq e1).2 e1,fun j q b hq e1=>hm.nf j q b (C j q b hq e1).2 e1,hm.fb⟩,fun j hj=>?_⟩,⟨J,Nat.le_succ _,fun j hj hb=>?_,rfl,rfl⟩⟩
  .by_cases hu:u=t
   .subst hu;have h1:=hs.e u;simp only at h1;rw[h] at h1;obtain⟨x,hx⟩:=h1.z_inv;simp only[up_same,hx];exact .rsn nx x (up_same _ _ _)
   .simp only[up_ne _ _ hu];exact(hs.e u).step J
  .simp only at hj;by_cases M:j=nx
   .subst M;rw[up_same] at hj;cases hj;exact⟨.nil,up_same _ _ _,.nil e⟩
   .rw[up_ne _ _ M] at hj;obtain⟨q,hq,ax⟩:=hm.row j r hj;exact⟨q,by rw[up_ne _ _ M];exact hq,ax.step J fun _ _=>rfl⟩
  .simp only at hj;rw[up_ne _ _ (show j≠nx by omega)];exact hs.n j (by simp only;omega)
  .simp only at hj;rw[up_ne _ _ (show j≠nx by omega)];exact hb
def ll(N:Nat):Code->Bool
 | .region _ ops _=>Ap N ops
 | .seq a b=>ll N a&&ll N b
 | .cond _ a b=>ll N a&&ll N b
 | .block _ b=>ll N b
 | .loop b=>ll N b
 | .scope b=>ll N b
 | .rangeFunc _ ps a b=>(ps.toList.all fun t=>Nat.blt t N)&&(ll N a&&ll N b)
 |_=>true
theorem Y5{Fc:Fence}{n:Nat}{Q:Exit->Act->World->Prop}{c:Code}(J:Nat->Act->World->Prop){j₀:Nat}{a:Act}{w:World}(h₀:J j₀ a w)
 (round:∀ j a w,J j a w->c.wpIn Fc n P (Exit.then (fun a' w'=>∃ j',j'<j/\J j' a' w') Q) a w):(Code.loop c).wpIn Fc n P Q a w:=by
 intro b k cs Nk hb hr
 have key:∀ j a w,J j a w->
  ∃ e a' w',Q e a' w'/\ArrivesIn (Machine.fenced P Fc) P (lone (b.atR a (.code c::.inLoop c::k)) cs w) b k cs e a' w':=by
  intro j
  induction j using Nat.strongRecOn with
  |_ j ih=>
   intro a w hI;obtain⟨e,M,X,hq,C⟩:=round j a w hI b (.inLoop c::k) cs Nk hb hr;cases e with
   |normal=>
    obtain⟨j',ao,hI₁⟩:=hq;obtain⟨e₂,a₂,w₂,hq₂,afq⟩:=ih j' ao M X hI₁;exact⟨e₂,a₂,w₂,hq₂,.of_steps (StepsIn.trans C (.one (fenced_calm hb hr rfl) stepR_inLoop)) afq⟩
   |exit id=>exact⟨_,M,X,hq,.pass (x:=.inLoop c) rfl (fun _ _=>.inl oS) C⟩
   |goto l=>exact⟨_,M,X,hq,.pass (x:=.inLoop c) rfl (fun _ _=>.inl oS) C⟩
   |ret=>exact⟨_,M,X,hq,.pass (x:=.inLoop c) rfl (fun _ _=>.inl oS) C⟩
   |panic ch=>exact⟨_,M,X,hq,.pass (x:=.inLoop c) rfl (fun _ _=>.inl oS) C⟩
   |outgrown=>exact⟨_,M,X,hq,.pass (x:=.inLoop c) rfl (fun _ _=>.inl oS) C⟩
 obtain⟨e,a',w',hq,C⟩:=key _ a w h₀;exact⟨e,a',w',hq,.of_steps (.one (fenced_calm hb hr rfl) stepR_loop) C⟩
def mark(b:Nat):Deferred:={ target:=.collected b,args:= #[] }
def Marks(β:Pla)(w:World)(lo:Nat):List Deferred->Nat->Prop
 |[],_=>True
 |d::ds,hi=>∃ b,d=mark b/\lo<=b/\b<hi/\w.heap[b]? =some (.deferred (some []))/\β.free b/\Marks β w lo ds b
theorem Marks.step{β β':Pla}{w w':World}(hs:Step β w β' w'){lo:Nat}:∀ {ds:List Deferred} {hi:Nat},hi<=w.heap.size->Marks β w lo ds hi->Marks β' w' lo ds hi
 |[],_,_,_=>trivial
 |d::ds,hi,hle,⟨b,h1,h2,h3,h4,h5,h6⟩=>by
  obtain⟨C,J⟩:=hs.imm b oG h5;exact⟨b,h1,h2,h3,C.trans h4,J,Marks.step hs oG h6⟩
theorem Marks.mono{β:Pla}{w:World}{lo hi C:Nat}(h:hi<=C):∀ {ds:List Deferred},Marks β w lo ds hi->Marks β w lo ds C
 |[],_=>trivial
 |_::_,⟨b,h1,h2,h3,h4⟩=>⟨b,h1,h2,oG,h4⟩
theorem Marks.append{β:Pla}{w:World}{lo mid:Nat}(J:lo<=mid){C:List Deferred}:∀ {ds:List Deferred} {hi:Nat},mid<=hi->Marks β w mid ds hi->Marks β w lo C mid->Marks β w lo (ds++C) hi
 |[],_,hle,_,h'=>Marks.mono hle h'
 |_::_,_,_,⟨b,h1,h2,h3,h4,h5,h6⟩,h'=>⟨b,h1,oG,h3,h4,h5,Marks.append J h2 h6 h'⟩
structure sP(N:Nat)(β:Pla)(w:World)(a:Act)(st':St)(β':Pla)(w':World)(a':Act):Prop where
 step:Step β w β' w'
 le:N<=st'.nx
 grow:∀ i,i<N->β i=none->β' i=none
 size:a'.tmps.size=a.tmps.size
 defers:∃ ds,a'.defers=ds++a.defers/\Marks β' w' w.heap.size ds w'.heap.size
theorem jk.IB{N:Nat}{β β':Pla}{w w':World}{a a':Act}{st':St}(h:jk N β w a st' β' w' a'):sP N β w a st' β' w' a':=
 ⟨h.step,h.le,h.grow,h.size,[],h.defers,trivial⟩
theorem sP.trans{N:Nat}{β β₁ β₂:Pla}{w M X:World}{a C J:Act}{zm zn:St}(h:sP N β w a zm β₁ M C)(k:sP zm.nx β₁ M C zn β₂ X J):sP N β w a zn β₂ X J:=by
 obtain⟨ds,e1,h1⟩:=h.defers;obtain⟨zl,e2,h2⟩:=k.defers
 exact⟨h.step.trans k.step,Nat.le_trans h.le k.le,fun i hi hn=>k.grow i (Nat.lt_of_lt_of_le hi h.le) (h.grow i hi hn),k.size.trans h.size,zl++ds,by rw[e2,e1,List.append_assoc],
  Marks.append h.step.size k.step.size h2 (h1.step k.step (bF _))⟩
theorem sP.since{N:Nat}{β β₁ β₂:Pla}{w M X:World}{a C J:Act}{zm zn:St}(h:sP N β w a zm β₁ M C)(k:jk zm.nx β₁ M C zn β₂ X J):sP N β w a zn β₂ X J:=h.trans k.IB
def afr(P:Program)(F:Nat->Prop)(N:Nat)(β:Pla)(w:World)(a:Act)(Q:Exit->St->Prop)(e:Exit)(a':Act)(w':World):Prop:=
 ∃ st' β',Q e st'/\fL P F st' β' w' a'/\sP N β w a st' β' w' a'
theorem YCall.base{J:Pla}{C:World}{β:Pla}{w:World}(hs:Step J C β w){l:Nat}{args:List D}{m:Mem}{nx:Nat}{K:D->Mem->Nat->Prop}(h:YCall P F J C l args m nx K):YCall P F β w l args m nx K:=
 fun β' w' us M=>h β' w' us (hs.trans M)
theorem free_other{β:Pla}{i:Nat}{p:Option Pl}{b:Nat}(h:β.free b)(hp:∀ q,p=some q->q.blk≠some b):Pla.free (up β i p) b:=fun j q hq=>by
 by_cases hj:j=i
 .subst hj;rw[up_same] at hq;exact hp q hq
 .rw[up_ne _ _ hj] at hq;exact h j q hq
theorem R.vg{β:Pla}{w:World}{l:Nat}(hF:F l)(o:Obj){d:D}{v:Value}(h:R F β w d v):R F β (w.putObj l o) d v:=
 h.gen oS (fun b _ hb hf=>⟨same_of (World.putObj_heap_other fun e=>hb (e▸hF)),hf,hb⟩) fun _ _ _ h=>.inl h
theorem RowR.vg{β:Pla}{w:World}{l:Nat}(hF:F l)(o:Obj){r:Row}{p:Pl}(hp:∀ b,p.blk=some b->b≠l)(h:RowR P F β w r p):RowR P F β (w.putObj l o) r p:=
 h.gen oS (fun b _ hb hf=>⟨same_of (World.putObj_heap_other fun e=>hb (e▸hF)),hf,hb⟩) (fun _ _ _ h=>.inl h) fun b hb=>World.putObj_heap_other (hp b hb)
theorem MSim.vg{m:Mem}{β:Pla}{w:World}{l:Nat}(hF:F l)(o:Obj)(h:MSim P F m β w):MSim P F m β (w.putObj l o):=
 ⟨fun i r hi=>by
  obtain⟨p,hp,hr⟩:=h.row i r hi
  exact⟨p,hp,hr.vg hF o fun b hb e=>h.nf i p b hp hb (e▸hF)⟩,h.inj,fun i p b hp hb=>by simpa using h.lt i p b hp hb,h.nf,fun b hb=>by simpa using h.fb b hb⟩
theorem fL.vg{st:St}{β:Pla}{w:World}{a:Act}{l:Nat}(hF:F l)(o:Obj)(h:fL P F st β w a):fL P F st β (w.putObj l o) a:=
 ⟨fun t=>(h.e t).vg hF o,h.m.vg hF o,h.n⟩
theorem R.weak{F':Nat->Prop}(hF:∀ b,F' b->F b){β:Pla}{w:World}{d:D}{v:Value}(h:R F β w d v):R F' β w d v:=
 h.gen (bF _) (fun b _ hb hf=>⟨SameB.refl w b,hf,fun e=>hb (hF b e)⟩) fun _ _ _ h=>.inl h
theorem MSim.weak{F':Nat->Prop}(hF:∀ b,F' b->F b){m:Mem}{β:Pla}{w:World}(h:MSim P F m β w):MSim P F' m β w:=
 ⟨fun i r hi=>by
  obtain⟨p,hp,hr⟩:=h.row i r hi
  exact⟨p,hp,hr.gen (bF _) (fun b _ hb hf=>⟨SameB.refl w b,hf,fun e=>hb (hF b e)⟩) (fun _ _ _ h=>.inl h) fun _ _=>rfl⟩,h.inj,h.lt,fun i p b hp hb e=>h.nf i p b hp hb (hF b e),fun b hb=>h.fb b (hF b hb)⟩
theorem QF{β:Pla}{b:Nat}(h:¬ β.free b):∃ i p,β i=some p/\p.blk=some b:=by
 unfold Pla.free at h;simp only[Classical.not_forall] at h;obtain⟨i,p,hp,hb⟩:=h;exact⟨i,p,hp,Decidable.not_not.1 hb⟩
structure View(il n₀:Nat)(f:Nat->Option Nat)(mc:Mem)(nc:Nat)(m:Mem)(nx:Nat):Prop where
 low:n₀<=nc
 lt:il<nx
 id:∀ i,i<n₀->f i=some i
 vJ:∀ i,i<nc->∃ j,f i=some j/\j<nx/\j≠il
 out:∀ i,nc<=i->f i=none
 inj:∀ i i' j,f i=some j->f i'=some j->i=i'
 rows:∀ i r,mc i=some r->∃ j,f i=some j/\m j=some (r.renB f)
theorem View.y4{il n₀:Nat}{f:Nat->Option Nat}{mc:Mem}{nc:Nat}{m:Mem}{nx:Nat}(h:View il n₀ f mc nc m nx){i j:Nat}(hf:f i=some j):i<nc/\j<nx/\j≠il:=by
 rcases Nat.lt_or_ge i nc with ao|C
 .obtain⟨j',h1,h2,h3⟩:=h.vJ i ao;rw[hf] at h1;cases h1;exact⟨ao,h2,h3⟩
 .rw[h.out i C] at hf;cases hf
theorem View.ext{il n₀:Nat}{f:Nat->Option Nat}{mc:Mem}{nc:Nat}{m m':Mem}{nx nx':Nat}(h:View il n₀ f mc nc m nx)(C:nx<=nx')(he:∀ i,i<nx->m' i=m i):View il n₀ f mc nc m' nx':=
 ⟨h.low,Nat.lt_of_lt_of_le h.lt C,h.id,fun i hi=>by
  obtain⟨j,h1,h2,h3⟩:=h.vJ i hi;exact⟨j,h1,oG,h3⟩,h.out,h.inj,fun i r hi=>by
  obtain⟨j,h1,h2⟩:=h.rows i r hi
  exact⟨j,h1,(he j (h.y4 h1).2.1).trans h2⟩⟩
theorem aao{f:Nat->Option Nat}{m:Mem}{β:Pla}{w:World}(hm:MSim P F m β w){b:Nat}(h:hidden F β f b):b<w.heap.size:=by
 rcases h with h|⟨h,_⟩
 .exact hm.fb b h
 .obtain⟨i,p,hp,hb⟩:=QF h;exact hm.lt i p b hp hb
theorem View.enter{il n₀:Nat}{f:Nat->Option Nat}{mc:Mem}{nc:Nat}{m:Mem}{nx:Nat}(h:View il n₀ f mc nc m nx){β:Pla}{w:World}(hm:MSim P F m β w):
 MSim P (hidden F β f) mc (β.via f) w/\∀ i,nc<=i->(β.via f) i=none:=by
 have look:∀ i p,(β.via f) i=some p->∃ j,f i=some j/\β j=some p:=fun i p hp=>Option.bind_eq_some_iff.1 hp;refine⟨⟨fun i r hi=>?_,fun i i' p q b hp hq e C=>?_,fun i p b hp e=>?_,fun i p b hp e hF=>?_,fun b hb=>aao hm hb⟩,fun i hi=>?_⟩
 .obtain⟨j,h1,h2⟩:=h.rows i r hi;obtain⟨p,hp,hr⟩:=hm.row j _ h2;exact⟨p,by simp[Pla.via,h1,hp],hr.seen⟩
 .obtain⟨j,h1,h2⟩:=look i p hp;obtain⟨j',h3,h4⟩:=look i' q hq;have:=hm.inj j j' p q b h2 h4 e C;subst this;exact h.inj i i' j h1 h3
 .obtain⟨j,h1,h2⟩:=look i p hp;exact hm.lt j p b h2 e
 .obtain⟨j,h1,h2⟩:=look i p hp;rcases hF with hF|⟨_,hF⟩
  .exact hm.nf j p b h2 e hF
  .exact hF i p hp e
 .simp[Pla.via,h.out i hi]
theorem MSim.B6{m:Mem}{β:Pla}{w:World}{i l:Nat}{o:Obj}(h:MSim P F m β w)(hm:m i=some (.raw l o)):β i=some (.raw l)/\w.heap[l]? =some o/\¬ F l/\l<w.heap.size:=by
 obtain⟨p,hp,hr⟩:=h.row i _ hm;cases hr with
 |raw _ _ hc=>exact⟨hp,hc,h.nf i _ l hp rfl,h.lt i _ l hp rfl⟩
theorem View.Hc{il n₀:Nat}{f:Nat->Option Nat}{mc:Mem}{nc:Nat}{m:Mem}{nx:Nat}(h:View il n₀ f mc nc m nx){β:Pla}{w:World}(hm:MSim P F m β w){j:Nat}{p:Pl}{b:Nat}(hj:∀ i,f i≠some j)(hp:β j=some p)(hb:p.blk=some b):
 (β.via f).free b/\hidden F β f b:=by
 have C:(β.via f).free b:=fun i q hq e=>by
  obtain⟨j',h1,h2⟩:=Option.bind_eq_some_iff.1 hq;exact hj i (hm.inj j' j q p b h2 hp e hb▸h1)
 exact⟨C,.inr ⟨fun e=>e j p hp hb,C⟩⟩
structure u7(l:Nat)(β:Pla)(w:World)(β':Pla)(w':World):Prop where
 size:w.heap.size<=w'.heap.size
 imm:∀ b,b<w.heap.size->b≠l->β.free b->w'.heap[b]? =w.heap[b]? /\β'.free b
 keep:∀ i p,β i=some p->β' i=some p\/β' i=some .dead
 out:Out w w'
theorem Step.x{β β':Pla}{w w':World}(h:Step β w β' w')(l:Nat):u7 l β w β' w':=⟨h.size,fun b hb _=>h.imm b hb,h.keep,h.out⟩
theorem u7.trans{l:Nat}{β₁ β₂ β₃:Pla}{J M X:World}(h:u7 l β₁ J β₂ M)(k:u7 l β₂ M β₃ X):u7 l β₁ J β₃ X:=by
 refine⟨Nat.le_trans h.size k.size,fun b hb C hf=>?_,fun i p hp=>?_,h.out.trans k.out⟩
 .obtain⟨h1,h2⟩:=h.imm b hb C hf;obtain⟨k1,k2⟩:=k.imm b (Nat.lt_of_lt_of_le hb h.size) C h2;exact⟨k1.trans h1,k2⟩
 .rcases h.keep i p hp with h1|h1
  .exact k.keep i p h1
  .right;rcases k.keep i _ h1 with h2|h2<;>exact h2
theorem u7.put(l:Nat)(β:Pla)(w:World)(o:Obj):u7 l β w β (w.putObj l o):=⟨oS,fun b _ C hf=>⟨World.putObj_heap_other C,hf⟩,fun _ _ h=>.inl h,rfl,rfl⟩
theorem PS{n j:Nat}{f:Nat->Option Nat}(C:∀ i i' j,f i=some j->f i'=some j->i=i'):
 (∀ i,(List.range n).find? (fun i=>f i==some j)=some i->f i=some j/\i<n)/\(∀ i,i<n->f i=some j->(List.range n).find? (fun i=>f i==some j)=some i):=by
 refine⟨fun i hi=>⟨by simpa using List.find?_some hi,by simpa using List.mem_of_find?_eq_some hi⟩,fun i hi hf=>?_⟩;cases h:(List.range n).find? (fun i=>f i==some j) with
 |none=>
  have:=List.find?_eq_none.1 h i (by simpa using hi);simp[hf] at this
 |some k=>rw[C i k j hf (by simpa using List.find?_some h)]
theorem View.afs{il n₀:Nat}{f:Nat->Option Nat}{mc:Mem}{nc:Nat}{m:Mem}{nx:Nat}(h:View il n₀ f mc nc m nx){β:Pla}{w:World}(hm:MSim P F m β w)(hn:∀ i,nx<=i->β i=none){l:Nat}{o o':Obj}(hl:m il=some (.raw l o))
 {m':Mem} {M:Nat} {β':Pla} {w':World} (ja:MSim P (hidden F β f) m' β' w') (hs:u7 l (β.via f) w β' w') (dn:∀ i,M<=i->β' i=none) (hle:nc<=M) (hg:∀ i,i<nc->(β.via f) i=none->β' i=none) (ho:w'.heap[l]? =some o'):
 ∃ C X sA J,View il n₀ C m' M X sA/\X il=some (.raw l o')/\MSim P F X J w'/\(∀ i,sA<=i->J i=none)/\Step β w J w'/\nx<=sA/\∀ i,i<nx->β i=none->J i=none:=by
 obtain⟨Nl,oe,Nm,ao⟩:=hm.B6 hl
 let C:Nat->Option Nat:=fun i=>if i<nc then f i else if i<M then some (nx+(i - nc)) else none
 have EI:∀ i,i<nc->C i=f i:=fun i hi=>by simp[C,hi]
 have Lz:∀ i,nc<=i->i<M->C i=some (nx+(i - nc)):=fun i h1 h2=>by simp[C,h2,Nat.not_lt.2 h1]
 have T':∀ i,M<=i->C i=none:=fun i h1=>by simp[C,Nat.not_lt.2 h1,Nat.not_lt.2 (Nat.le_trans hle h1)]
 have Ab:∀ i j,C i=some j->(f i=some j/\i<nc/\j<nx)\/(nc<=i/\i<M/\j=nx+(i - nc)):=fun i j hf=>by
  rcases Nat.lt_or_ge i nc with h1|h1
  .rw[EI i h1] at hf;exact .inl ⟨hf,h.y4 hf |>.1,(h.y4 hf).2.1⟩
  .rcases Nat.lt_or_ge i M with h2|h2
   .rw[Lz i h1 h2] at hf;cases hf;exact .inr ⟨h1,h2,rfl⟩
   .rw[T' i h2] at hf;cases hf
 have LA:∀ i i' j,C i=some j->C i'=some j->i=i':=fun i i' j h1 h2=>by
  rcases Ab i j h1 with⟨a1,a2,a3⟩|⟨a1,a2,a3⟩<;>rcases Ab i' j h2 with⟨b1,b2,b3⟩|⟨b1,b2,b3⟩
  .exact h.inj i i' j a1 b1
  .omega
  .omega
  .omega
 let inv:Nat->Option Nat:=fun j=>(List.range M).find? fun i=>C i==some j
 have Az:∀ i j,inv j=some i->C i=some j:=fun i j hi=>((PS LA).1 i hi).1;have Ms:∀ i j,C i=some j->inv j=some i:=fun i j hf=>(PS LA).2 i (by rcases Ab i j hf with h1|h1<;>omega) hf
 have aiP:∀ j,inv j=none->∀ i,f i≠some j:=fun j hj i hf=>by
  have:=Ms i j (by rw[EI i (h.y4 hf).1];exact hf);rw[hj] at this;cases this
 let J:Pla:=fun j=>match inv j with|some i=>β' i|none=>β j
 let X:Mem:=fun j=>match inv j with|some i=>(m' i).map (Row.renB C)|none=>if j=il then some (.raw l o') else m j
 have βs:∀ i j,C i=some j->J j=β' i:=fun i j hf=>by simp[J,Ms i j hf]
 have βn:∀ j,inv j=none->J j=β j:=fun j hj=>by simp[J,hj]
 have aet:inv il=none:=by
  cases hi:inv il with
  |none=>rfl
  |some i=>
   rcases Ab i il (Az i il hi) with⟨a1,a2,a3⟩|⟨a1,a2,a3⟩
   .exact absurd rfl (h.y4 a1).2.2
   .have:=h.lt;omega
 have via:J.via C=β':=by
  funext i;simp only[Pla.via];cases hf:C i with
  |some j=>exact βs i j hf
  |none=>
   rcases Nat.lt_or_ge i M with h1|h1
   .rcases Nat.lt_or_ge i nc with h2|h2
    .obtain⟨j,h3,_⟩:=h.vJ i h2;rw[EI i h2,h3] at hf;cases hf
    .rw[Lz i h2 h1] at hf;cases hf
   .exact(dn i h1).symm
 have look:∀ j p,J j=some p->(∃ i,inv j=some i/\C i=some j/\β' i=some p)\/(inv j=none/\β j=some p):=fun j p hp=>by
  cases hi:inv j with
  |some i=>exact .inl ⟨i,rfl,Az i j hi,by rw[<- βs i j (Az i j hi)];exact hp⟩
  |none=>exact .inr ⟨rfl,by rw[<- βn j hi];exact hp⟩
 have aiQ:∀ b,β.free b->b≠l:=fun b hb e=>hb il _ Nl (e▸rfl)
 have imm:∀ b,b<w.heap.size->β.free b->w'.heap[b]? =w.heap[b]? /\J.free b:=fun b hb hf=>by
  obtain⟨h1,h2⟩:=hs.imm b hb (aiQ b hf) (Pla.free_via hf f);refine⟨h1,fun j p hp=>?_⟩;rcases look j p hp with⟨i,_,_,h4⟩|⟨_,h4⟩
  .exact h2 i p h4
  .exact hf j p h4
 have keep:∀ j p,β j=some p->J j=some p\/J j=some .dead:=fun j p hp=>by
  cases hi:inv j with
  |none=>exact .inl ((βn j hi).trans hp)
  |some i=>
   have hf:=Az i j hi;rw[βs i j hf];rcases Ab i j hf with⟨a1,a2,a3⟩|⟨a1,a2,a3⟩
   .exact hs.keep i p (by simp[Pla.via,a1,hp])
   .rw[hn j oG] at hp;cases hp
 have own:∀ j p b,inv j=none->β j=some p->p.blk=some b->hidden F β f b/\(b≠l->b<w.heap.size/\w'.heap[b]? =w.heap[b]?):=fun j p b hj hp hb=>by
  obtain⟨h1,h2⟩:=h.Hc hm (aiP j hj) hp hb;exact⟨h2,fun aE=>⟨hm.lt j p b hp hb,(hs.imm b (hm.lt j p b hp hb) aE h1).1⟩⟩
 refine⟨C,X,nx+(M - nc),J,⟨Nat.le_trans h.low hle,by have:=h.lt;omega,fun i hi=>?_,fun i hi=>?_,T',LA,fun i r hi=>?_⟩,?_,⟨fun j r hj=>?_,fun i j p q b hp hq e e'=>?_,fun j p b hp e=>?_,fun j p b hp e hF=>?_,fun b hb=>?_⟩,fun i hi=>?_,⟨hs.size,imm,keep,hs.out⟩,oG,fun i hi hb=>?_⟩
 .rw[EI i (Nat.lt_of_lt_of_le hi h.low)];exact h.id i hi
 .rcases Nat.lt_or_ge i nc with h1|h1
  .obtain⟨j,h2,h3,h4⟩:=h.vJ i h1;exact⟨j,by rw[EI i h1];exact h2,oG,h4⟩
  .exact⟨_,Lz i h1 hi,oG,by have:=h.lt;omega⟩
 .obtain⟨p,hp,_⟩:=ja.row i r hi
  have:∃ j,C i=some j:=by
   rw[<- via] at hp;obtain⟨j,h1,_⟩:=Option.bind_eq_some_iff.1 hp;exact⟨j,h1⟩
  obtain⟨j,hj⟩:=this;exact⟨j,hj,by simp[X,Ms i j hj,hi]⟩
 .simp[X,aet]
 .cases hi:inv j with
  |some i=>
   simp only[X,hi,dw] at hj;obtain⟨r0,AS,rfl⟩:=hj;obtain⟨p,hp,hr⟩:=ja.row i r0 AS;refine⟨p,(βs i j (Az i j hi)).trans hp,RowR.hide (F':=hidden F β f) (by rw[via];exact hr) (fun b hb=>.inl hb) fun b g1 g2=>?_⟩;obtain⟨k,q,hq,XB⟩:=QF g1;rcases look k q hq with⟨i',_,_,h4⟩|⟨h3,h4⟩
   .exact absurd XB (g2 i' q (by rw[via];exact h4))
   .exact(own k q b h3 h4 XB).1
  |none=>
   simp only[X,hi] at hj;split at hj
   .rename_i e;subst e;cases hj;exact⟨.raw l,(βn j hi).trans Nl,.raw l o' ho⟩
   .rename_i aE;obtain⟨p,hp,hr⟩:=hm.row j r hj;refine⟨p,(βn j hi).trans hp,hr.gen hs.size (fun b hb g1 g2=>⟨same_of (imm b hb g2).1,(imm b hb g2).2,g1⟩) (fun i p _=>keep i p) fun b hb=>?_⟩;exact((own j p b hi hp hb).2 fun e=>aE (hm.inj j il p _ b hp Nl hb (e▸rfl))).2
 .rcases look i p hp with⟨i',a1,a2,a3⟩|⟨a1,a2⟩<;>rcases look j q hq with⟨j',b1,b2,b3⟩|⟨b1,b2⟩
  .have:=ja.inj i' j' p q b a3 b3 e e';subst this;rw[a2] at b2;cases b2;rfl
  .exact absurd (own j q b b1 b2 e').1 (ja.nf i' p b a3 e)
  .exact absurd (own i p b a1 a2 e).1 (ja.nf j' q b b3 e')
  .exact hm.inj i j p q b a2 b2 e e'
 .rcases look j p hp with⟨i',a1,a2,a3⟩|⟨a1,a2⟩
  .exact ja.lt i' p b a3 e
  .exact Nat.lt_of_lt_of_le (hm.lt j p b a2 e) hs.size
 .rcases look j p hp with⟨i',a1,a2,a3⟩|⟨a1,a2⟩
  .exact ja.nf i' p b a3 e (.inl hF)
  .exact hm.nf j p b a2 e hF
 .exact Nat.lt_of_lt_of_le (hm.fb b hb) hs.size
 .cases eE:inv i with
  |none=>exact(βn i eE).trans (hn i oG)
  |some i0=>
   rcases Ab i0 i (Az i0 i eE) with⟨a1,a2,a3⟩|⟨a1,a2,a3⟩<;>omega
 .cases eE:inv i with
  |none=>exact(βn i eE).trans hb
  |some i0=>
   have hf:=Az i0 i eE;rw[βs i0 i hf];rcases Ab i0 i hf with⟨a1,a2,a3⟩|⟨a1,a2,a3⟩
   .exact hg i0 a2 (by simp[Pla.via,a1,hb])
   .omega
theorem Pt{β:Pla}{w:World}:∀ (ts:List Tmp) (ds:List D) (vs:List Value) (env:Env) (tmps:Array Value),vs.length=ds.length->(∀ (k:Nat) (d:D) (v:Value),ds[k]? =some d->vs[k]? =some v->R F β w d v)->
 (∀ t,t∈ts->t<tmps.size)->ESim F β w env { tmps:=tmps,defers:=[] }->
 ESim F β w (setAll env ts ds) { tmps:=(ts.zip vs).foldl (fun tmps (t,a)=>tmps.setIfInBounds t a) tmps,defers:=[] }/\((ts.zip vs).foldl (fun tmps (t,a)=>tmps.setIfInBounds t a) tmps).size=tmps.size
 |[],_,_,env,tmps,_,_,_,h=>by simpa[setAll] using h
 |_::_,[],[],env,tmps,_,_,_,h=>by simpa[setAll] using h
 |_::_,[],_::_,_,_,hl,_,_,_=>by simp at hl
 |_::_,_::_,[],_,_,hl,_,_,_=>by simp at hl
 |t::ts,d::ds,v::vs,env,tmps,hl,hR,ao,h=>by
  have h1:ESim F β w (up env t d) { tmps:=tmps.setIfInBounds t v,defers:=[] }:=by
   have:=h.put (some t) d v (hR 0 d v rfl rfl) (fun u C=>by cases C;exact ao t oS);simpa[Act.put,up] using this
  have:=Pt ts ds vs (up env t d) (tmps.setIfInBounds t v) (by simpa using hl) (fun k d v hd hv=>hR (k+1) d v (by simpa using hd) (by simpa using hv)) (fun u C=>by simpa using ao u (by simp[C])) h1;simp only[setAll,List.zip_cons_cons,List.foldl_cons];exact⟨this.1,by rw[this.2];simp⟩
theorem Du{c:Code}{b:Frame}{a:Act}{k:List Item}{cs:List Frame}{w:World}:step P (lone (b.atR a (.code (.scope c)::k)) cs w)=.next (lone (b.atR a (.code c::.inScope c::k)) cs w):=
 step_lone_go (by simp[stepG,stepG.exec,Frame.atR])
theorem Y6{c:Code}{b:Frame}{a:Act}{k:List Item}{cs:List Frame}{w:World}:step P (lone (b.atR a (.inScope c::k)) cs w)=.next (lone (b.atR a k) cs w):=
 step_lone_go (by simp[stepG,stepG.exec,Frame.atR])
theorem Gk{I:Machine->Prop}{m:Machine}{b:Frame}{c:Code}{k:List Item}{cs:List Frame}{e:Exit}{a:Act}{w:World}
 (hn:e≠ .normal) (hg:∀ l,e≠ .goto l) (h:ArrivesIn I P m b (.inScope c::k) cs e a w):ArrivesIn I P m b k cs e a w:=by
 cases e with
 |normal=>exact absurd rfl hn
 |exit id=>exact⟨fun C hk=>h.1 C (by simp[exitTo,hk]),fun hr hk=>h.2 hr (by simp[exitTo,hk])⟩
 |goto l=>exact absurd rfl (hg l)
 |ret=>exact h
 |panic chain=>exact h
 |outgrown=>exact h
theorem Zz{X:Fence}{n:Nat}{Q:Exit->Act->World->Prop}{a:Act}{w:World}{c:Code}(h:c.wpIn X n P (Exit.noGoto Q) a w):(Code.scope c).wpIn X n P Q a w:=by
 intro b k cs Nk hb hr;have h0:(lone (b.atR a (.code (.scope c)::k)) cs w).fenced P X:=fenced_calm hb hr rfl;obtain⟨e,C,M,hq,J⟩:=h b (.inScope c::k) cs Nk hb hr;cases e with
 |normal=>exact⟨.normal,C,M,hq,.head h0 Du (StepsIn.trans J (.one (fenced_calm hb hr rfl) Y6))⟩
 |goto l=>exact hq.elim
 |exit id=>exact⟨.exit id,C,M,hq,.of_steps (.one h0 Du) (Gk (c:=c) oS oS J)⟩
 |ret=>exact⟨.ret,C,M,hq,.of_steps (.one h0 Du) (Gk (c:=c) oS oS J)⟩
 |panic ch=>exact⟨.panic ch,C,M,hq,.of_steps (.one h0 Du) (Gk (c:=c) oS oS J)⟩
 |outgrown=>exact⟨.outgrown,C,M,hq,.of_steps (.one h0 Du) (Gk (c:=c) oS oS J)⟩
def Jump(env:Env)(Q:Exit->St->Prop):Code->Mem->Nat->Prop
 | .ret,m,nx=>Q .ret ⟨env,m,nx⟩
 | .exit id,m,nx=>Q (.exit id) ⟨env,m,nx⟩
 |_,_,_=>False
def BT(il l:Nat)(n₀:Nat)(o:Obj)(I:Mem->Nat->Prop)(m:Mem)(nx:Nat):Prop:=∃ f mc nc,View il n₀ f mc nc m nx/\m il=some (.raw l o)/\I mc nc
theorem BT.closed{il l n₀:Nat}{o:Obj}{I:Mem->Nat->Prop}:Closed (BT il l n₀ o I):=by
 rintro m nx m' nx' ⟨f,mc,nc,h1,h2,h3⟩ C he;exact⟨f,mc,nc,h1.ext C he,(he il h1.lt).trans h2,h3⟩
theorem aap(ps:Array Tmp)(us:Array Value)(tmps:Array Value):
 (ps.zip us).foldl (fun tmps (t,a)=>tmps.setIfInBounds t a) tmps=(ps.toList.zip us.toList).foldl (fun tmps (t,a)=>tmps.setIfInBounds t a) tmps:=by
 rw[<- Array.foldl_toList];simp
theorem Y7{β:Pla}{w:World}{a:Act}{g:Operand}{f:FuncId}{fs cs:List D}(hR:R F β w (.fn (.func f) fs cs) (a.eval g))(he:enterOk P f=true)(l:Nat)(w':World):
 ∃ (us vs:List Value) (d:Deferred),us.length=fs.length/\vs.length=cs.length/\(∀ (k:Nat) (d:D) (v:Value),fs[k]? =some d->us[k]? =some v->R F β w d v)/\(∀ (k:Nat) (d:D) (v:Value),cs[k]? =some d->vs[k]? =some v->R F β w d v)/\
  (resolve a.eval (rangeCall g l) 0).run P w'=.ok d w'/\(invoke d.target d.args).run P w'=.ok (.enter f (us.toArray++ #[.func (.yield l) #[] #[]]++vs.toArray)) w':=by
 generalize hv:a.eval g=v at hR;cases hR with
 |fn _ _ _ us vs hl jW J C=>
 refine⟨us,vs,{ target:=.fn (.func f) vs.toArray,args:=us.toArray++ #[.func (.yield l) #[] #[]] },hl,jW,J,C,?_,?_⟩
 .simp only[resolve,hv,Sem.run_bind,Deferred.ofValue];simp[go_sem]
 .simp only[invoke];unfold callFunc;unfold enterOk at he;simp only[Sem.run_bind,run_program,Result.andThen_ok];split at he
  .rename_i fn M;simp only[aO,Bool.not_eq_true'] at he
   have hb:fn.body.isNone=false:=by
    cases X:fn.body<;>simp_all
   rw[M];simp only[he.1,hb,Bool.false_eq_true,if_false,Sem.run_pure]
  .cases he
theorem Rs.append{β:Pla}{w:World}{aS bs:List D}{xs ys:Array Value}(h:Rs F β w aS xs)(k:Rs F β w bs ys):Rs F β w (aS++bs) (xs++ys):=by
 refine⟨by simp[h.1,k.1],fun j d v hd hv=>?_⟩;rcases Nat.lt_or_ge j aS.length with hj|hj
 .rw[List.getElem?_append_left hj] at hd;rw[Array.getElem?_append_left (by rw[h.1];exact hj)] at hv;exact h.2 j d v hd hv
 .rw[List.getElem?_append_right hj] at hd;rw[Array.getElem?_append_right (by rw[h.1];exact hj),h.1] at hv;exact k.2 _ d v hd hv
theorem abL(mZ:P.follows .mixedOrders=true):∀ (c:Code) (F:Nat->Prop) (r:Option Nat) (n:Nat) (Y:YSpec) (rf:Bool) (N₀:Nat) (β₀:Pla) (w₀:World) (a₀:Act),(rf=true->r=none)->
 (∀ l args m nx K,Y l args m nx K->YCall P F β₀ w₀ l args m nx K)->ll a₀.tmps.size c=true->∀ (Q:Exit->St->Prop) (st:St) (β:Pla) (w:World) (a:Act),
 AW P Y rf c Q st->fL P F st β w a->sP N₀ β₀ w₀ a₀ st β w a->c.wpIn (Fe r) n P (afr P F N₀ β₀ w₀ a₀ Q) a w:=by
 intro c
 induction c with
 |skip=>exact fun F r n Y rf N₀ β₀ w₀ a₀ X M _ Q st β w a h hs J=>wpIn_skip ⟨st,β,h,hs,J⟩
 |ret=>exact fun F r n Y rf N₀ β₀ w₀ a₀ X M _ Q st β w a h hs J=>wpIn_ret ⟨st,β,h,hs,J⟩
 |exit id=>exact fun F r n Y rf N₀ β₀ w₀ a₀ X M _ Q st β w a h hs J=>wpIn_exit ⟨st,β,h,hs,J⟩
 |label l=>exact fun F r n Y rf N₀ β₀ w₀ a₀ X M _ Q st β w a h hs J=>wpIn_label ⟨st,β,h,hs,J⟩
 |region id ops draw=>
  intro F r n Y rf N₀ β₀ w₀ a₀ X M ao Q st β w a h hs J;have AA:Ap a.tmps.size ops=true:=by rw[J.size];exact ao
  cases draw with
  |false=>
   refine wpIn_mono (Zl (N:=st.nx) (β₀:=β) (w₀:=w) (a₀:=a) (fun l args m nx K hy=>(M l args m nx K hy).base J.step) AA h hs (jk.refl st β w a)) fun e a' w' hp=>?_;obtain⟨st',β',hq,eZ,iK⟩:=hp;exact⟨st',β',hq,eZ,J.since iK⟩
  |true=>
   simp only[AW] at h;split at h
   .rename_i cf rA;refine wpIn_mono (Zm (N₀:=st.nx) (β₀:=β) (w₀:=w) (a₀:=a) mZ rA AA h hs (jk.refl st β w a)) fun e a' w' hp=>?_;obtain⟨st',β',hq,eZ,iK⟩:=hp;exact⟨st',β',hq,eZ,J.since iK⟩
   .exact h.elim
 |seq x y IC ID=>
  intro F r n Y rf N₀ β₀ w₀ a₀ X M ao Q st β w a h hs J;simp only[ll,aO] at ao;refine wpIn_seq (wpIn_mono (IC F r n Y rf N₀ β₀ w₀ a₀ X M ao.1 _ st β w a h hs J) fun e a' w' hp=>?_);obtain⟨st',β',hq,eZ,iK⟩:=hp;cases e with
  |normal=>
   obtain⟨jS,hg,hy⟩:=hq;obtain⟨kB,AB,LB⟩:=Pg hg eZ;exact ID F r n Y rf N₀ β₀ w₀ a₀ X M ao.2 Q jS kB w' a' hy AB (iK.since LB)
  |_=>exact⟨st',β',hq,eZ,iK⟩
 |cond c x y IC ID=>
  intro F r n Y rf N₀ β₀ w₀ a₀ X M ao Q st β w a h hs J;simp only[ll,aO] at ao;obtain⟨ha,h⟩:=h;have hR:=(hs.e.opd c).core_of _ ha;split at h
  .rename_i t ht;rw[ht] at hR;exact wpIn_cond_split hR.s_inv.1 (fun e=>IC F r n Y rf N₀ β₀ w₀ a₀ X M ao.1 Q st β w a (h.1 e) hs J) fun e=>ID F r n Y rf N₀ β₀ w₀ a₀ X M ao.2 Q st β w a (h.2 e) hs J
  .rename_i ht;rw[ht] at hR;obtain⟨b,hb⟩:=hR.ub_inv;exact wpIn_cond_split hb (fun _=>IC F r n Y rf N₀ β₀ w₀ a₀ X M ao.1 Q st β w a h.1 hs J) fun _=>ID F r n Y rf N₀ β₀ w₀ a₀ X M ao.2 Q st β w a h.2 hs J
  .exact h.elim
 |scope b ih=>
  intro F r n Y rf N₀ β₀ w₀ a₀ X M ao Q st β w a h hs J;refine Zz (wpIn_mono (ih F r n Y rf N₀ β₀ w₀ a₀ X M ao _ st β w a h hs J) fun e a' w' hp=>?_);obtain⟨st',β',hq,eZ,iK⟩:=hp;cases e with
  |goto l=>exact hq.elim
  |_=>exact⟨st',β',hq,eZ,iK⟩
 |block id b ih=>
  intro F r n Y rf N₀ β₀ w₀ a₀ X M ao Q st β w a h hs J;refine wpIn_block (wpIn_mono (ih F r n Y rf N₀ β₀ w₀ a₀ X M ao _ st β w a h hs J) fun e a' w' hp=>?_);obtain⟨st',β',hq,eZ,iK⟩:=hp;cases e with
  |exit i=>
   simp only[blockQ] at hq;simp only[Exit.inBlock];split at hq
   .rename_i hi;rw[if_pos hi];exact⟨st',β',hq,eZ,iK⟩
   .rename_i hi;rw[if_neg hi];exact⟨st',β',hq,eZ,iK⟩
  |_=>exact⟨st',β',hq,eZ,iK⟩
 |loop b ih=>
  intro F r n Y rf N₀ β₀ w₀ a₀ X M ao Q st β w a h hs J;obtain⟨I,μ,hI,BU⟩:=h;refine Y5 (fun j a w=>∃ st β,I st/\μ st=j/\fL P F st β w a/\sP N₀ β₀ w₀ a₀ st β w a) ⟨st,β,hI,rfl,hs,J⟩ ?_;rintro j a w ⟨st,β,hI,hμ,hs,J⟩;refine wpIn_mono (ih F r n Y rf N₀ β₀ w₀ a₀ X M ao _ st β w a (BU st hI) hs J) fun e a' w' hp=>?_;obtain⟨st',β',hq,eZ,iK⟩:=hp;cases e with
  |normal=>
   obtain⟨kU,hg,rB,aou⟩:=hq;obtain⟨kB,AB,LB⟩:=Pg hg eZ;exact⟨μ kU,oG,kU,kB,rB,rfl,AB,iK.since LB⟩
  |_=>exact⟨st',β',hq,eZ,iK⟩
 |rangeFunc g ps assign body zo zp=>
  intro F r n Y rf N₀ β₀ w₀ a₀ X M ao Q st β w a h hs J;obtain⟨env,mem,nx⟩:=st;obtain⟨Mt,qd,f,fs,cs,xs,I,B7,H3,HF,IE,BU,iV⟩:=h;simp only at qd B7 IE BU iV;have hr:=X Mt;subst hr;simp only[ll,aO,bj,Nat.blt_eq] at ao;obtain⟨AT,aiR,aiS⟩:=ao;have cE:a.tmps.size=a₀.tmps.size:=J.size;have hR:=(hs.e.opd g).core_of _ qd;simp only[B7] at hR;refine wpIn_rangeFunc fun fn pd=>?_;obtain⟨C,wV⟩:∃ C:LoopState->Option Code->Loop,C=fun st pe=>{ state:=st,pending:=pe,fn,tmps:=a.tmps,params:=ps,assign,body,defers:=w.heap.size }:=⟨_,rfl⟩
  obtain⟨W1,Fl⟩:∃ W1,(w.alloc (.deferred (some []))).alloc (.loop (C .ready none))=W1:=⟨_,rfl⟩
  obtain⟨us,vs,d,Nn,vK,hu,hv,fC,hinv⟩:=Y7 (P:=P) hR H3.1 (w.heap.size+1) W1;have hn:∀ i,nx<=i->β i=none:=hs.n;have Nm:¬ F (w.heap.size+1):=fun e=>by have:=hs.m.fb _ e;omega
  let f₀:Nat->Option Nat:=fun i=>if i<nx then some i else none
  have VP:β.via f₀=β:=by
   funext i;simp only[Pla.via,f₀];split
   .rfl
   .exact(hn i oG).symm
  have AU:MSim P F (fun i=>(mem i).map (Row.renB f₀)) β w:=⟨fun i r hi=>by
   simp only[dw] at hi;obtain⟨r0,h1,rfl⟩:=hi;obtain⟨p,hp,hr⟩:=hs.m.row i r0 h1
   exact⟨p,hp,RowR.hide (F':=F) (by rw[VP];exact hr) (fun _ h=>h) fun b g1 g2=>absurd (VP▸g2) g1⟩,hs.m.inj,hs.m.lt,hs.m.nf,hs.m.fb⟩
  have zq:Step β w β (w.alloc (.deferred (some []))):=step_ext oS fun b hb=>heap_alloc_old w _ hb;have xx:MSim P F (fun i=>(mem i).map (Row.renB f₀)) β (w.alloc (.deferred (some []))):=AU.ext oS fun b hb=>heap_alloc_old w _ hb
  have No:MSim P F (up (fun i=>(mem i).map (Row.renB f₀)) nx (some (.raw (w.heap.size+1) (.loop (C .ready none))))) (up β nx (some (.raw (w.heap.size+1)))) W1:=by
   rw[<- Fl];refine xx.alloc (hn nx (bF _)) _ _ _ (fun b hb=>by simp only[Pl.blk,aV] at hb;simp;omega) (.raw _ _ ?_);have:=World.alloc_heap_new (w.alloc (.deferred (some []))) (.loop (C .ready none))
   rwa[World.size_alloc] at this
  have qj:Step β w (up β nx (some (.raw (w.heap.size+1)))) W1:=by
   rw[<- Fl];exact zq.trans (step_alloc xx _ (hn nx (bF _)) _ (fun b hb=>by simp only[Pl.blk,aV] at hb;simp;omega))
  have hD1:W1.heap[w.heap.size]? =some (.deferred (some [])):=by
   rw[<- Fl];rw[heap_alloc_old _ _ oS];exact World.alloc_heap_new w _
  have S2:Pla.free (up β nx (some (.raw (w.heap.size+1)))) w.heap.size:=
   free_other (fun i p hp e=>by have:=hs.m.lt i p _ hp e;omega) (by rintro q hq;cases hq;simp[Pl.blk])
  have aov:W1.heap.size=w.heap.size+2:=by rw[<- Fl];simp
  have adj:∀ i,nx<=i->mem i=none:=fun i hi=>by
   cases hm:mem i with
   |none=>rfl
   |some row=>
    obtain⟨p,hp,_⟩:=hs.m.row i row hm;rw[hn i hi] at hp;cases hp
  have own:∀ {f:Nat->Option Nat} {mc:Mem} {nc:Nat} {m:Mem} {cI:Nat} {β2:Pla} {w2:World},View nx nx f mc nc m cI->Step (up β nx (some (.raw (w.heap.size+1)))) W1 β2 w2->
   ∀ {d:D} {v:Value},R F β w d v->R (hidden F β2 f) (β2.via f) w2 d v:=fun {_ _ _ _ _ _ _} kf aF {d v} h=>by
   have tU:=qj.trans aF;refine h.gen tU.size (fun b hb hf nP=>?_) fun i p _ hp=>?_
   .obtain⟨g1,g2⟩:=tU.imm b hb nP;exact⟨same_of g1,Pla.free_via g2 _,fun e=>e.elim hf fun e=>e.1 g2⟩
   .have hi:i<nx:=by
     rcases Nat.lt_or_ge i nx with h1|h1
     .exact h1
     .rw[hn i h1] at hp;cases hp
    simp only[Pla.via,kf.id i hi,Option.bind_some];exact tU.keep i p hp
  refine⟨w.heap.size+1,[mark w.heap.size],W1,d,W1,f,_,W1,?_,fC,fun f' _=>trivial,hinv,fun hd=>by simp at hd,QG ?_⟩
  .rw[<- Fl,wV];exact run_enterLoop_outer _ _ _ _ _
  refine(H3.2 F (w.heap.size+1) (fun k=>BT nx (w.heap.size+1) nx (.loop (C .ready none)) (I k)) (fun m k=>∃ c,BT nx (w.heap.size+1) nx (.loop (C .done (some c))) (Jump env Q c) m k)
   (up (fun i=>(mem i).map (Row.renB f₀)) nx (some (.raw (w.heap.size+1) (.loop (C .ready none))))) (nx+1) (up β nx (some (.raw (w.heap.size+1)))) W1 _ (fun k=>BT.closed) ?_ No ?_ ?_ ?_ ?_).mono ?_
  .rintro m k m' k' ⟨c,hc⟩ hle he;exact⟨c,BT.closed m k m' k' hc hle he⟩
  .intro i hi;rw[up_ne _ _ (show i≠nx by omega)];exact hn i oG
  .refine Rs.append (Rs.append ?_ ?_) ?_
   .exact⟨by simp[Nn],fun k d v hd hv=>(hu k d v hd (by simpa using hv)).step qj⟩
   .refine⟨rfl,fun k d v hd hv=>?_⟩;cases k with
    |zero=>
     simp only[List.getElem?_cons_zero,aV] at hd;simp only[List.getElem?_toArray,List.getElem?_cons_zero,aV] at hv;subst hd;subst hv;exact .fn _ [] [] [] [] rfl rfl oS oS
    |succ k=>simp at hd
   .exact⟨by simp[vK],fun k d v hd Np=>(hv k d v hd (by simpa using Np)).step qj⟩
  .rintro k x m k' hx ⟨g,mc,nc,kf,fX,hIk⟩ β2 w2 IF aiT mg AV Fm;obtain⟨XC,B8,_,Mu⟩:=mg.B6 fX;have aiU:IF.size=ps.size:=by rw[Fm.1];exact(HF x (bU hx)).1
   have hy:=run_yield (P:=P) (args:=IF) B8 (by rw[wV];exact aiU);simp only[wV,aap] at hy;refine⟨fn,_,assign,body,hy,fun n'=>?_⟩;obtain⟨Nq,mh⟩:=kf.enter mg;have Fo:hidden F β2 g (w.heap.size+1):=(kf.Hc mg (fun i e=>(kf.y4 e).2.2 rfl) XC rfl).2;have S3:(β2.via g).free (w.heap.size+1):=(kf.Hc mg (fun i e=>(kf.y4 e).2.2 rfl) XC rfl).1;have hE2:ESim (hidden F β2 g) (β2.via g) w2 env { tmps:=a.tmps,defers:=[] }:=fun t=>own kf aiT (hs.e t)
   obtain⟨hE3,VQ⟩:=Pt ps.toList x IF.toList env a.tmps (by simp[Fm.1]) (fun j d v hd hv=>
    ((HF x (bU hx)).2 d (bU hd) F β2 w2 v (Fm.2 j d v hd (by simpa using hv))).gen (bF _)
     (fun b _ hb _=>⟨SameB.refl _ b,Pla.free_via (owned_free hb).2 _,fun e=>e.elim (owned_free hb).1 fun e=>e.1 (owned_free hb).2⟩) (fun i p _ hp=>by cases hp)) (fun t ht=>by rw[cE];exact AT t ht) hE2
   have aiV:=zo (hidden F β2 g) (some (w.heap.size+1)) n' noY false nc (β2.via g) w2
    { tmps:=(ps.toList.zip IF.toList).foldl (fun tmps (t,a)=>tmps.setIfInBounds t a) a.tmps,defers:=[] } oS (fun _ _ _ _ _ h=>h.elim) (by show ll (Array.size _) assign=true;rw[VQ,cE];exact aiR) _ ⟨setAll env ps.toList x,mc,nc⟩ (β2.via g) w2 _
    (BU k mc nc x hx hIk) ⟨hE3,Nq,mh⟩ (jk.refl ⟨setAll env ps.toList x,mc,nc⟩ _ _ _).IB
   refine roundIn_of_wpIn trivial (wpIn_mono aiV fun e a3 w3 hp=>?_);obtain⟨kU,β3,XD,IG,zr⟩:=hp;cases e with
   |normal=>
    have LC:w.heap.size+1<w3.heap.size:=Nat.lt_of_lt_of_le Mu zr.step.size;have aft:w3.heap[w.heap.size+1]? =some (.loop (C .ready none)):=(zr.step.imm _ Mu S3).1.trans B8;refine⟨_,run_beginRound aft (by rw[wV]),?_⟩;have aiW:=IG.vg (l:=w.heap.size+1) Fo (.loop { C .ready none with state:=.busy });have afu:=zp (hidden F β2 g) (some (w.heap.size+1)) n' noY false kU.nx β3 _ a3 oS (fun _ _ _ _ _ h=>h.elim) (by rw[zr.size];show ll (Array.size _) body=true;rw[VQ,cE];exact aiS) _ kU β3 _ a3 XD aiW (jk.refl kU _ _ _).IB;refine wpIn_mono afu fun e a4 w4 hp4=>?_;obtain⟨XE,β4,II,XF,Fp⟩:=hp4;have afv:w.heap.size+1<w4.heap.size:=Nat.lt_of_lt_of_le (by simpa using LC) Fp.step.size
    have afw:w4.heap[w.heap.size+1]? =some (.loop { C .ready none with state:=.busy }):=
     (Fp.step.imm _ (by simpa using LC) (zr.step.imm _ Mu S3).2).1.trans (World.putObj_heap_same LC)
    have fin:∀ (jump:Option Code) (K:D->Mem->Nat->Prop),(∀ f' lH sA,View nx nx f' XE.mem XE.nx lH sA->lH nx=some (.raw (w.heap.size+1) (.loop (C (if jump.isNone then .ready else .done) jump)))->K (.s (.bool jump.isNone)) lH sA)->
     ∃ v w',(Instr.endRound (w.heap.size+1) jump).run P w4=.ok v w'/\∃ v' d m' nx' β',Ending.returned v=.returned v'/\K d m' nx'/\MSim P F m' β' w'/\(∀ i,nx'<=i->β' i=none)/\R F β' w' d v'/\Step β2 w2 β' w'/\k'<=nx'/\∀ i,i<k'->β2 i=none->β' i=none:=fun jump K hK=>by
     have gJ:=run_endRound (P:=P) jump afw;have e1:∀ s p,({ ({ C .ready none with state:=.busy }:Loop) with state:=s,pending:=p }:Loop)=C s p:=fun s p=>by rw[wV]
     rw[e1] at gJ
     obtain⟨f',lH,sA,kB,v1,v2,v3,v4,v5,v6,v7⟩:=kf.afs mg AV fX (o':=.loop (C (if jump.isNone then .ready else .done) jump)) (XF.m.vg Fo _)
      (((zr.step.x _).trans (u7.put _ β3 w3 _)).trans ((Fp.step.x _).trans (u7.put _ β4 w4 _))) XF.n (Nat.le_trans zr.le Fp.le) (fun i hi hb=>Fp.grow i (Nat.lt_of_lt_of_le hi zr.le) (zr.grow i hi hb)) (World.putObj_heap_same afv)
     exact⟨_,_,gJ,.bool jump.isNone,_,lH,sA,kB,rfl,hK f' lH sA v1 v2,v3,v4,.s _ rfl,v5,v6,v7⟩
    cases e with
    |normal=>exact fin none _ fun f' lH sA v1 v2=>.inl ⟨rfl,f',_,_,v1,v2,II⟩
    |ret=>exact fin (some .ret) _ fun f' lH sA v1 v2=>.inr ⟨rfl,.ret,f',_,_,v1,v2,II⟩
    |exit id=>exact fin (some (.exit id)) _ fun f' lH sA v1 v2=>.inr ⟨rfl,.exit id,f',_,_,v1,v2,II⟩
    |_=>exact II.elim
   |_=>exact XD.elim
  .refine⟨f₀,mem,nx,⟨bF _,oG,fun i hi=>by simp[f₀,hi],fun i hi=>⟨i,by simp[f₀,hi],oG,oG⟩,fun i hi=>by simp[f₀,Nat.not_lt.2 hi],fun i i' j h1 h2=>?_,fun i r hi=>?_⟩,up_same _ _ _,IE⟩
   .simp only[f₀,Option.ite_none_right_eq_some,aV] at h1 h2;omega
   .have ao:i<nx:=by
     rcases Nat.lt_or_ge i nx with h1|h1
     .exact h1
     .rw[adj i h1] at hi;cases hi
    exact⟨i,by simp[f₀,ao],by rw[up_ne _ _ (show i≠nx by omega),hi];rfl⟩
  .rintro e w6 ⟨v,d6,m6,Nr,β6,rfl,VR,xy,hn6,_,wW,aow,aiX⟩
   have fin:∀ {g:Nat->Option Nat} {mc:Mem} {nc:Nat} (o':Obj),View nx nx g mc nc m6 Nr->
    fL P F ⟨env,mc,nc⟩ (β6.via g) (w6.putObj (w.heap.size+1) o') { a with defers:=[mark w.heap.size]++a.defers }/\
    sP N₀ β₀ w₀ a₀ ⟨env,mc,nc⟩ (β6.via g) (w6.putObj (w.heap.size+1) o') { a with defers:=[mark w.heap.size]++a.defers }:=fun {g mc nc} o' kf=>by
    obtain⟨Nq,mh⟩:=kf.enter xy
    have Fo:hidden F β6 g (w.heap.size+1):=by
     have hβ:β6 nx=some (.raw (w.heap.size+1))\/β6 nx=some .dead:=wW.keep nx _ (up_same _ _ _);rcases hβ with hβ|hβ
     .exact(kf.Hc xy (fun i e=>(kf.y4 e).2.2 rfl) hβ rfl).2
     .exfalso;rcases VR with⟨f',mc',rz,_,Mv,_⟩|⟨c,f',mc',rz,_,Mv,_⟩
      .rw[(xy.B6 Mv).1] at hβ;cases hβ
      .rw[(xy.B6 Mv).1] at hβ;cases hβ
    refine⟨⟨fun t=>((own kf wW (hs.e t)).vg Fo o').weak fun b hb=>.inl hb,(Nq.vg Fo o').weak fun b hb=>.inl hb,mh⟩,J.trans ⟨⟨?_,fun b hb hf=>?_,fun i p hp=>?_,(qj.out.trans wW.out).trans ⟨rfl,rfl⟩⟩,kf.low,fun i hi hb=>?_,rfl,[mark w.heap.size],rfl,?_⟩⟩
    .have:=wW.size;simp;omega
    .obtain⟨g1,g2⟩:=qj.imm b hb hf;obtain⟨g3,g4⟩:=wW.imm b oG g2;exact⟨(World.putObj_heap_other oG).trans (g3.trans g1),Pla.free_via g4 _⟩
    .have hi:i<nx:=by
      rcases Nat.lt_or_ge i nx with h1|h1
      .exact h1
      .rw[hn i h1] at hp;cases hp
     simp only[Pla.via,kf.id i hi,Option.bind_some];exact(qj.trans wW).keep i p hp
    .have hi:i<nx:=hi;simp only[Pla.via,kf.id i hi,Option.bind_some];exact aiX i oG (by rw[up_ne _ _ oG];exact hb)
    .refine⟨w.heap.size,rfl,bF _,?_,?_,?_,trivial⟩
     .have:=wW.size;simp;omega
     .exact(World.putObj_heap_other oG).trans ((wW.imm _ oG S2).1.trans hD1)
     .exact Pla.free_via (wW.imm _ oG S2).2 _
   rcases VR with⟨g,mc,nc,kf,fX,hI⟩|⟨c,g,mc,nc,kf,fX,hj⟩
   .have gJ:(Instr.endLoop (w.heap.size+1)).run P w6=.ok none (w6.putObj (w.heap.size+1) (.loop (C .exhausted none))):=by
     have:=run_endLoop (P:=P) (xy.B6 fX).2.1 (by rw[wV];simp);rw[wV] at this ⊢;exact this
    obtain⟨g1,g2⟩:=fin (.loop (C .exhausted none)) kf;exact⟨none,_,gJ,⟨env,mc,nc⟩,_,iV mc nc hI,g1,g2⟩
   .have gJ:(Instr.endLoop (w.heap.size+1)).run P w6=.ok (some c) (w6.putObj (w.heap.size+1) (.loop (C .exhausted (some c)))):=by
     have:=run_endLoop (P:=P) (xy.B6 fX).2.1 (by rw[wV];simp);rw[wV] at this ⊢;exact this
    obtain⟨g1,g2⟩:=fin (.loop (C .exhausted (some c))) kf;refine⟨some c,_,gJ,?_⟩;cases c with
    |ret=>exact wpIn_ret ⟨⟨env,mc,nc⟩,_,hj,g1,g2⟩
    |exit id=>exact wpIn_exit ⟨⟨env,mc,nc⟩,_,hj,g1,g2⟩
    |_=>exact hj.elim
 |_=>intro F r n Y rf N₀ β₀ w₀ a₀ X M ao Q st β w a h;exact h.elim
end
section
variable{P:Program}{F:Nat->Prop}{fn:Func}
def Cp(tmps:Array Value):ResultVar->Sem Value
 | .tmp t=>pure (tmps.getD t undef)
 | .cell x t=>do loadVar t (<- asAddr (tmps.getD x undef))
theorem ZB(fn:Func)(tmps:Array Value):results fn tmps=(do
 let vs<- fn.results.mapM (Cp tmps)
 pure (if h:vs.size=1 then vs[0] else .tuple vs)):=by
 unfold results;congr 1
theorem adq{st:St}{β:Pla}{w:World}{a:Act}(hs:fL P F st β w a){r:ResultVar}{p:Prop}{d:D}(h:resD P st r=some (p,d))(hp:p):
 ∃ v,(Cp a.tmps r).run P w=.ok v w/\R F β w d v:=by
 unfold resD at h;split at h
 .cases h;exact⟨_,by simp[Cp],hs.e _⟩
 .rename_i x t;have hx:=hs.e x;split at h
  .rename_i i off J;rw[J] at hx;split at h
   .rename_i cs e hm;cases h;obtain⟨b,o,room,sz,X,hv,ax⟩:=hx.rp_inv hs.m hm;obtain⟨u,C,hr⟩:=run_load_rd (P:=P) hp.1 (ax.rd.1.drop off) oP;refine⟨u,?_,hr⟩;simp only[Cp,hv,Sem.run_bind];simp[asAddr,C]
   .cases h
  .rename_i cs J;rw[J] at hx;cases h;obtain⟨b,o,hv,_,_,_,M⟩:=hx.pt_inv;obtain⟨u,C,hr⟩:=run_load_rd (P:=P) hp.1 M hp.2;refine⟨u,?_,hr⟩;simp only[Cp,hv,Sem.run_bind];simp[asAddr,C]
  .cases h
theorem QL{st:St}{β:Pla}{w:World}{a:Act}(hs:fL P F st β w a){K:List D->Prop}:∀ (rs:List ResultVar) (C:List D),retL P st rs C K->
 ∃ vs ds,(rs.mapM (Cp a.tmps)).run P w=.ok vs w/\vs.length=ds.length/\K (C++ds)/\
  ∀ (k:Nat) (d:D) (v:Value),ds[k]? =some d->vs[k]? =some v->R F β w d v
 |[],C,h=>⟨[],[],oS,rfl,by simpa[retL] using h,oS⟩
 |r::rs,C,h=>by
  simp only[retL] at h;split at h
  .rename_i p d hr;obtain⟨v,h1,h2⟩:=adq hs hr h.1;obtain⟨vs,ds,h3,h4,h5,J⟩:=QL hs rs _ h.2;refine⟨v::vs,d::ds,?_,by simp[h4],by simpa using h5,fun k d' M hd hv=>?_⟩
   .rw[List.mapM_cons];simp only[Sem.run_bind];rw[h1];simp only[Result.andThen_ok,Sem.run_bind];rw[h3];simp
   .cases k with
    |zero=>simp at hd hv;subst hd;subst hv;exact h2
    |succ k=>exact J k d' M (by simpa using hd) (by simpa using hv)
  .exact h.elim
theorem Zn{st:St}{β:Pla}{w:World}{a:Act}(hs:fL P F st β w a){K:D->Prop}(h:retL P st fn.results.toList [] fun ds=>K (one1 ds)):
 ∃ v d,(results fn a.tmps).run P w=.ok v w/\K d/\R F β w d v:=by
 obtain⟨vs,ds,h1,h2,h3,h4⟩:=QL hs _ _ h;simp only[List.nil_append] at h3;refine⟨if h:vs.toArray.size=1 then vs.toArray[0] else .tuple vs.toArray,one1 ds,?_,h3,?_⟩
 .rw[ZB,Array.mapM_eq_mapM_toList];simp only[Sem.run_bind,map_eq_pure_bind,bind_assoc];rw[h1];simp
 .split
  .rename_i cE;simp only[List.size_toArray] at cE;obtain⟨v,rfl⟩:=List.length_eq_one_iff.1 cE;obtain⟨d,rfl⟩:=List.length_eq_one_iff.1 (show ds.length=1 by simpa using h2.symm);exact h4 0 d v rfl rfl
  .rename_i cE;simp only[List.size_toArray] at cE
   have:one1 ds=.tup ds:=by
    unfold one1;split
    .rename_i d;simp at h2;exact absurd h2 cE
    .rfl
   rw[this];exact .tup ds vs h2 h4
theorem Y9{w:World}{b:Nat}{x:Option (List Deferred)}(h:w.heap[b]? =some (.deferred x))(o:Nat):w.cell? ⟨b,o,none⟩=none:=by
 simp[World.cell?,h]
theorem R.QM{w:World}{b:Nat}{x:Option (List Deferred)}(hb:w.heap[b]? =some (.deferred x))(o:Obj)(J:Nat):SameB w (w.putObj b o) J:=by
 refine⟨fun k u M=>?_,fun ms c hm=>?_⟩
 .have C:J≠b:=fun e=>by rw[e,Y9 hb] at M;cases M
  exact(cell_of_heap (World.putObj_heap_other C)).trans M
 .have C:J≠b:=fun e=>by rw[e,hb] at hm;cases hm
  exact(World.putObj_heap_other C).trans hm
theorem fL.putD{st:St}{β:Pla}{w:World}{a:Act}{b:Nat}{x:Option (List Deferred)}(hb:w.heap[b]? =some (.deferred x))(hf:β.free b)(o:Obj)(h:fL P F st β w a):fL P F st β (w.putObj b o) a:=
 ⟨fun t=>(h.e t).gen oS (fun C _ h1 h2=>⟨R.QM hb o C,h2,h1⟩) fun _ _ _ h=>.inl h,⟨fun i r hi=>by
  obtain⟨p,hp,hr⟩:=h.m.row i r hi;exact⟨p,hp,hr.gen oS (fun C _ h1 h2=>⟨R.QM hb o C,h2,h1⟩) (fun _ _ _ h=>.inl h) fun c hc=>World.putObj_heap_other fun e=>hf i p hp (e▸hc)⟩,
  h.m.inj,fun i p c hp hc=>by simpa using h.m.lt i p c hp hc,h.m.nf,fun c hc=>by simpa using h.m.fb c hc⟩,h.n⟩
theorem Marks.put{β:Pla}{w:World}{lo b:Nat}(o:Obj):∀ {ds:List Deferred} {hi:Nat},hi<=b->Marks β w lo ds hi->Marks β (w.putObj b o) lo ds hi
 |[],_,_,_=>trivial
 |_::_,_,hle,⟨c,h1,h2,h3,h4,h5,h6⟩=>⟨c,h1,h2,h3,(World.putObj_heap_other oG).trans h4,h5,Marks.put o oG h6⟩
theorem Pb{n:Nat}{tmps:Array Value}{R:Ending->World->Prop}{st:St}{β₀ β:Pla}{w₀:World}{a:Act}:∀ (ds:List Deferred) (hi:Nat) (w:World),Marks β w w₀.heap.size ds hi->fL P F st β w a->Step β₀ w₀ β w->
 (∀ w',fL P F st β w' a->Step β₀ w₀ β w'->∃ v,(results fn tmps).run P w'=.ok v w'/\R (.returned v) w')->LeavesInM (Fe none) n P fn tmps R ds .returning w
 |[],_,w,_,hs,aF,K=>K w hs aF
 |d::ds,hi,w,⟨b,h1,h2,h3,h4,h5,h6⟩,hs,aF,K=>by
  subst h1;refine⟨oS,.inl ⟨b,_,rfl,run_takeDeferred h4,Pb ds b _ (h6.put _ (bF _)) (hs.putD h4 h5 _) ?_ K⟩⟩;refine⟨by simpa using aF.size,fun c hc hf=>?_,aF.keep,aF.out.trans ⟨rfl,rfl⟩⟩;obtain⟨C,J⟩:=aF.imm c hc hf;exact⟨(World.putObj_heap_other oG).trans C,J⟩
theorem BA(mZ:P.follows .mixedOrders=true){Y:YSpec}{f:FuncId}{c:Code}(hf:P.funcs[f]? =some fn)(hb:fn.body=some c)(ao:ll fn.ntmps c=true){args:List D}(hn:Nat.ble args.length fn.ntmps=true){m:Mem}{nx:Nat}{K:D->St->Prop}
 (h:AW P Y true c (retQ P fn.results.toList K) ⟨envOf args,m,nx⟩) {β:Pla} {w:World} {vs:Array Value} (hY:∀ l args m nx K,Y l args m nx K->YCall P F β w l args m nx K) (hm:MSim P F m β w) (fM:∀ i,nx<=i->β i=none) (hR:Rs F β w args vs):
 Calls P f vs w fun e w'=>∃ v d st' β',e=.returned v/\K d st'/\R F β' w' d v/\MSim P F st'.mem β' w'/\(∀ i,st'.nx<=i->β' i=none)/\Step β w β' w'/\nx<=st'.nx/\∀ i,i<nx->β i=none->β' i=none:=by
 have hle:args.length<=fn.ntmps:=by simpa using hn
 refine(callsIn_wide (n:=0)).1 (callsIn_of_wp_marks hf hb trivial ?_)
 have cE:(vs++Array.replicate (fn.ntmps - vs.size) undef).size=fn.ntmps:=by
  simp only[Array.size_append,Array.size_replicate,hR.1];omega
 let a₀:Act:={ tmps:=vs++Array.replicate (fn.ntmps - vs.size) undef,defers:=[] }
 have hE:ESim F β w (envOf args) a₀:=fun t=>by
  unfold envOf;rcases Nat.lt_or_ge t args.length with ao|a9
  .have h1:args.getD t .u=args[t]:=by simp[ao]
   have h2:a₀.tmps.getD t undef=vs[t]'(by rw[hR.1];exact ao):=by
    show(vs++Array.replicate (fn.ntmps - vs.size) undef).getD t undef=_;have h3:t<vs.size:=by rw[hR.1];exact ao
    simp[Array.getD_eq_getD_getElem?,Array.getElem?_append_left h3,h3]
   rw[h1,h2];exact hR.2 t _ _ (by simp[ao]) (by simp[hR.1,ao])
  .have h1:args.getD t .u=.u:=by simp[a9]
   rw[h1];exact .u _
 have:=abL mZ c F none 0 Y true nx β w a₀ (fun _=>rfl) hY (by show ll (vs++Array.replicate (fn.ntmps - vs.size) undef).size c=true;rw[cE];exact ao) _ ⟨envOf args,m,nx⟩ β w a₀ h ⟨hE,hm,fM⟩ (jk.refl ⟨envOf args,m,nx⟩ β w a₀).IB;refine wpIn_mono this fun e a' w' hp=>?_;obtain⟨st',β',hq,eZ,C⟩:=hp
 have X:(retL P st' fn.results.toList [] fun ds=>K (one1 ds) st')->LeavesInM (Fe none) 0 P fn a'.tmps (fun e w'=>∃ v d st' β',e=.returned v/\K d st'/\R F β' w' d v/\MSim P F st'.mem β' w'/\(∀ i,st'.nx<=i->β' i=none)/\Step β w β' w'/\nx<=st'.nx/\∀ i,i<nx->β i=none->β' i=none) a'.defers .returning w':=fun hq=>by
  obtain⟨ds,h1,h2⟩:=C.defers;rw[h1,show a₀.defers=[] from rfl,List.append_nil];refine Pb ds _ w' h2 eZ C.step fun w'' J M=>?_;obtain⟨v,d,g1,g2,g3⟩:=Zn (K:=fun d=>K d st') J hq;exact⟨v,g1,v,d,st',β',rfl,g2,g3,J.m,J.n,M,C.le,C.grow⟩
 cases e with
 |normal=>exact X hq
 |ret=>exact X hq
 |_=>exact hq.elim
theorem Gz{w:World}(hF:∀ b,F b->b<w.heap.size):MSim P F (fun _=>none) noRows w:=
 ⟨fun i r h=>oH,fun i j p q b h=>oH,fun i p b h=>oH,fun i p b h=>oH,hF⟩
theorem Gl{β':Pla}{w w':World}(h:Step noRows w β' w'):Kept w w':=
 ⟨h.size,fun b hb=>(h.imm b hb fun i p hp=>by cases hp).1,h.out⟩
theorem Tr.B9{d:D}(h:Tr d){β:Pla}{w:World}{v:Value}(hv:R F β w d v):R F noRows w d v:=
 (h F β w v hv).lift fun b hb=>⟨fun e=>hb (.inl e),fun i p hp=>by cases hp⟩
structure m7(P:Program)(f:FuncId)(fn:Func)(c:Code):Prop where
 hf:P.funcs[f]? =some fn
 hb:fn.body=some c
 ao:ll fn.ntmps c=true
 he:enterOk P f=true
theorem QN(X:P.follows .mixedOrders=true){f:FuncId}{c:Code}(hf:m7 P f fn c){args:List D}(hn:Nat.ble args.length fn.ntmps=true){m:Mem}{nx:Nat}{cN:D->Mem->Nat->Prop}
 (h:AW P noY true c (retQ P fn.results.toList fun d st=>cN d st.mem st.nx) ⟨envOf args,m,nx⟩):ACalls P f args m nx cN:=
 ⟨hf.he,fun F β w vs hm C hR=>(BA X hf.hf hf.hb hf.ao hn h (fun _ _ _ _ _ h=>h.elim) hm C hR).mono fun e w' ⟨v,d,st',β',h1,h2,h3,h4,h5,J,M,h8⟩=>⟨v,d,st'.mem,st'.nx,β',h1,h2,h4,h5,h3,J,M,h8⟩⟩
theorem abN(J:P.follows .mixedOrders=true){f:FuncId}{c:Code}(hf:m7 P f fn c){args:List D}(hn:Nat.ble args.length fn.ntmps=true)(ht:∀ a∈args,Tr a){r:D}(hr:Tr r)
 (h:AW P noY true c (retQ P fn.results.toList fun d _=>d=r) ⟨envOf args,fun _=>none,0⟩):PCall P f args r:=
 ⟨hf.he,ht,fun F w vs hF hR=>(BA J hf.hf hf.hb hf.ao hn h (fun _ _ _ _ _ h=>h.elim) (Gz hF) (fun _ _=>rfl) hR).mono fun e w' hp=>by
  obtain⟨v,d,st',β',h1,rfl,h3,h4,h5,C,M,h8⟩:=hp
  exact⟨v,h1,hr.B9 h3,Gl C⟩⟩
theorem QO (mZ:P.follows .mixedOrders=true){f:FuncId}{c:Code}(hf:m7 P f fn c){args:List D}(hn:Nat.ble args.length fn.ntmps=true)(ht:∀ a∈args,Tr a){es:List D}(lI:∀ a∈es,Tr a){k:Nat}{t:TypeId}
 (h:AW P noY true c (retQ P fn.results.toList fun d st=>∃ i,d=.rs i 0 k/\st.mem i=some (.cells es t)) ⟨envOf args,fun _=>none,0⟩):OCall P f args es k t:=
 ⟨hf.he,ht,fun F w vs hF hR=>(BA mZ hf.hf hf.hb hf.ao hn h (fun _ _ _ _ _ h=>h.elim) (Gz hF) (fun _ _=>rfl) hR).mono fun e w' hp=>by
  obtain⟨v,d,st',β',h1,⟨i,rfl,hi⟩,h3,h4,h5,J,h7,h8⟩:=hp;obtain⟨p,hp,ax⟩:=h4.row i _ hi;refine⟨v,p,h1,?_,fun b hb=>⟨?_,h4.lt i p b hp hb⟩,?_,?_,Gl J⟩
  .rintro rfl;cases ax
  .rcases Nat.lt_or_ge b w.heap.size with ao|M
   .exact absurd hb ((J.imm b ao fun i p hp=>by cases hp).2 i p hp)
   .exact M
  .have lift:∀ d∈es,∀ u,R F β' w' d u->R (fun x=>F x\/p.blk=some x) noRows w' d u:=fun d hd u hu=>
    (lI d hd F β' w' u hu).lift fun b hb=>⟨fun e=>hb (by
     rcases e with e|e
     .exact .inl e
     .exact .inr fun nP=>nP i p hp e),fun i p hp=>by cases hp⟩
   cases ax with
   |nil _=>exact .nil _
   |cells _ _ b o room sz c q1 q2 q3 q4 q5=>
    refine .cells es t b o room sz c q1 q2 q3 q4 fun j d hd=>?_;obtain⟨u,u1,u2,u3⟩:=q5 j d hd;exact⟨u,u1,lift d (bU hd) u u2,u3⟩
  .cases h3 with
   |rsd _ _ _ _ C _=>rw[C] at hp;cases hp;cases ax
   |rsn _ a C=>rw[C] at hp;cases hp;exact .rsn 0 a (up_same _ _ _)
   |rsz _ _ a b o len room sz C=>rw[C] at hp;cases hp;exact .rsz 0 0 a b o len room sz (up_same _ _ _)
   |rs _ _ _ cap b o len room sz C X g2 g3 g4=>rw[C] at hp;cases hp;exact .rs 0 0 k cap b o len room sz (up_same _ _ _) X g2 g3 g4⟩
def VU(C:Nat)(xs:List (List D))(I:Nat->Mem->Nat->Prop)(Stop:Mem->Nat->Prop):YSpec:=fun l args m nx cN=>
 l=C/\∃ k,xs[k]? =some args/\I k m nx/\∀ d m' nx',SeqPost I Stop k d m' nx'->cN d m' nx'
theorem YCall.mono{β:Pla}{w:World}{l:Nat}{args:List D}{m:Mem}{nx:Nat}{K K':D->Mem->Nat->Prop}(hk:∀ d m nx,K d m nx->K' d m nx)(h:YCall P F β w l args m nx K):YCall P F β w l args m nx K':=
 fun β' w' us h1 h2 h3 h4=>by
  obtain⟨f,tmps,assign,body,C,J⟩:=h β' w' us h1 h2 h3 h4;exact⟨f,tmps,assign,body,C,fun n=>RoundIn.mono (F:=Fence.wide) (J n) fun e w' ⟨v,d,m',nx',β',M,X,q3⟩=>⟨v,d,m',nx',β',M,hk _ _ _ X,q3⟩⟩
theorem Le(mZ:P.follows .mixedOrders=true){f:FuncId}{c:Code}(hf:m7 P f fn c){fs cs:List D}(hn:Nat.ble (fs.length+1+cs.length) fn.ntmps=true){xs:List (List D)}
 (h:∀ (l:Nat) (I:Nat->Mem->Nat->Prop) (Stop:Mem->Nat->Prop) (m:Mem) (nx:Nat),(∀ k,Closed (I k))->Closed Stop->I 0 m nx->
  AW P (VU l xs I Stop) true c (retQ P fn.results.toList fun _ st=>I xs.length st.mem st.nx\/Stop st.mem st.nx) ⟨envOf (fs++[.fn (.yield l) [] []]++cs),m,nx⟩):SeqA P f fs cs xs:=
 ⟨hf.he,fun F l I Stop m nx β w vs hI C hm J hR hy h0=>
  (BA mZ hf.hf hf.hb hf.ao (by simpa[Nat.add_assoc,Nat.add_comm,Nat.add_left_comm] using hn) (h l I Stop m nx hI C h0) (fun l' args m' nx' K hK=>by
   obtain⟨rfl,k,h1,h2,h3⟩:=hK
   exact(hy k args m' nx' h1 h2).mono h3) hm J hR).mono fun e w' ⟨v,d,st',β',h1,h2,h3,h4,h5,M,X,h8⟩=>⟨v,d,st'.mem,st'.nx,β',h1,h2,h4,h5,h3,M,X,h8⟩⟩
end
section
variable{P:Program}{Y:YSpec}{rf:Bool}{Q:Exit->St->Prop}{st:St}
theorem RI(c a b):AW P Y rf (.cond c a b) Q st=((opd st.env c).ask/\match (opd st.env c).core with
 | .s (.bool t)=>(t=true->AW P Y rf a Q st)/\(t=false->AW P Y rf b Q st)
 | .ub=>AW P Y rf a Q st/\AW P Y rf b Q st
 |_=>False):=rfl
theorem RJ{b:Code}(I:St->Prop)(μ:St->Nat)(h0:I st)(h:∀ st',I st'->AW P Y rf b (seqQ (fun J=>∃ C,Ghost P J C/\I C/\μ C<μ st') Q) st'):AW P Y rf (.loop b) Q st:=⟨I,μ,h0,h⟩
theorem ACalls.mono{f:FuncId}{args:List D}{m:Mem}{nx:Nat}{cN C:D->Mem->Nat->Prop}(h:ACalls P f args m nx cN)(hp:∀ d m' nx',cN d m' nx'->C d m' nx'):ACalls P f args m nx C:=
 ⟨h.1,fun F β w vs hm hn hR=>(h.2 F β w vs hm hn hR).mono fun e w' ⟨v,d,m',nx',β',h1,h2,h3⟩=>⟨v,d,m',nx',β',h1,hp _ _ _ h2,h3⟩⟩
theorem CallOp.mono{dr:Bool}{f:FuncId}{args:List D}{K K':D->Mem->Nat->List Nat->List Nat->Prop}(hk:∀ d m nx rd wr,K d m nx rd wr->K' d m nx rd wr)(h:CallOp P dr st f args K):CallOp P dr st f args K':=by
 rcases h with⟨r,h1,h2⟩|⟨args',rds,r,h1,h2,h3,h4⟩|⟨es,n,t,h1,h2⟩|⟨h1,h2⟩|⟨r,ups,rds,h1,h2,h3⟩|⟨es,n,t,ups,rds,h1,h2,h3,h4⟩
 .exact .inl ⟨r,h1,hk _ _ _ _ _ h2⟩
 .exact .inr (.inl ⟨args',rds,r,h1,h2,h3,hk _ _ _ _ _ h4⟩)
 .exact .inr (.inr (.inl ⟨es,n,t,h1,hk _ _ _ _ _ h2⟩))
 .exact .inr (.inr (.inr (.inl ⟨h1,h2.mono fun d m nx h=>hk _ _ _ _ _ h⟩)))
 .exact .inr (.inr (.inr (.inr (.inl ⟨r,ups,rds,h1,h2,hk _ _ _ _ _ h3⟩))))
 .exact .inr (.inr (.inr (.inr (.inr ⟨es,n,t,ups,rds,h1,h2,h3,hk _ _ _ _ _ h4⟩))))
class eC(Y:YSpec):Prop where
 mono:∀ l args m nx K K',(∀ d m nx,K d m nx->K' d m nx)->Y l args m nx K->Y l args m nx K'
instance:eC noY:=⟨fun _ _ _ _ _ _ _ h=>h⟩
instance{l:Nat}{xs:List (List D)}{I:Nat->Mem->Nat->Prop}{Stop:Mem->Nat->Prop}:eC (VU l xs I Stop):=⟨fun _ _ _ _ _ _ hk ⟨h1,k,h2,h3,h4⟩=>⟨h1,k,h2,h3,fun d m nx h=>hk _ _ _ (h4 d m nx h)⟩⟩
theorem AOp.mono[eC Y]{ops:Array Oper}{dr:Bool}{o:Oper}{K K':St->List Nat->List Nat->Prop}(hk:∀ st rd wr,K st rd wr->K' st rd wr)(h:AOp P Y ops dr o st K):AOp P Y ops dr o st K':=by
 unfold AOp at h ⊢;split at h
 .refine⟨h.1,?_⟩;have h:=h.2;split at h
  .exact h.mono fun _ _ _ _ _ h=>hk _ _ _ h
  .split at h
   .exact⟨h.1,eC.mono _ _ _ _ _ _ (fun _ _ _ h=>hk _ _ _ h) h.2⟩
   .split at h
    .exact⟨h.1,hk _ _ _ h.2⟩
    .exact h
 .split at h
  .exact h
  .split at h
   .rcases h with⟨r,h1,h2⟩|⟨h1,h2⟩
    .exact .inl ⟨r,h1,hk _ _ _ h2⟩
    .exact .inr ⟨fun hc=>⟨(h1 hc).1,(h1 hc).2.mono fun _ _ _ _ _ h=>hk _ _ _ h⟩,fun hc=>hk _ _ _ (h2 hc)⟩
   .split at h
    .exact⟨fun hc=>⟨(h.1 hc).1,(h.1 hc).2.1,eC.mono _ _ _ _ _ _ (fun _ _ _ h=>hk _ _ _ h) (h.1 hc).2.2⟩,fun hc=>hk _ _ _ (h.2 hc)⟩
    split at h
    .split at h
     .rename_i hc;rw[if_pos hc];exact⟨h.1,hk _ _ _ h.2⟩
     .rename_i hc;rw[if_neg hc];exact⟨fun hc=>⟨(h.1 hc).1,(h.1 hc).2.1,hk _ _ _ (h.1 hc).2.2⟩,fun hc=>hk _ _ _ (h.2 hc)⟩
    .exact⟨h.1,hk _ _ _ h.2⟩
theorem AOps.mono[eC Y]{ops:Array Oper}{dr:Bool}{cf:List (Nat×Nat)}{Q C:Exit->St->Prop}(hq:∀ st,Q .normal st->C .normal st):∀ (l:List Oper) (st:St) (tr:Tra),AOps P Y ops dr cf Q l st tr->AOps P Y ops dr cf C l st tr
 |[],st,tr,h=>⟨h.1,hq _ h.2⟩
 |o::l,st,tr,h=>AOp.mono (fun st' rd wr h=>AOps.mono hq l st' _ h) h
theorem wu:∀ (c:Code) {Y:YSpec} [eC Y] {rf:Bool} {Q C:Exit->St->Prop} {st:St},(∀ e st,Q e st->C e st)->AW P Y rf c Q st->AW P Y rf c C st:=by
 intro c
 induction c with
 |skip=>intro Y _ rf;exact fun hq h=>hq _ _ h
 |ret=>intro Y _ rf;exact fun hq h=>hq _ _ h
 |exit id=>intro Y _ rf;exact fun hq h=>hq _ _ h
 |region id ops draw=>
  intro Y _ rf Q C st hq h;cases draw with
  |false=>exact AOps.mono (hq .normal) _ _ _ h
  |true=>
   simp only[AW] at h ⊢;split at h
   .exact AOps.mono (hq .normal) _ _ _ h
   .exact h
 |seq a b J M=>
  intro Y _ rf Q C st hq h;refine J (fun e st' h=>?_) h;cases e with
  |normal=>obtain⟨X,hg,hb⟩:=h;exact⟨X,hg,M hq hb⟩
  |_=>exact hq _ _ h
 |cond c a b J M=>
  intro Y _ rf Q C st hq h;refine⟨h.1,?_⟩;have h:=h.2;split at h
  .exact⟨fun ht=>J hq (h.1 ht),fun ht=>M hq (h.2 ht)⟩
  .exact⟨J hq h.1,M hq h.2⟩
  .exact h
 |block id b ih=>
  intro Y _ rf Q C st hq h;refine ih (fun e st' h=>?_) h;cases e with
  |exit i=>
   simp only[blockQ] at h ⊢;split at h
   .rename_i hi;rw[if_pos hi];exact hq _ _ h
   .rename_i hi;rw[if_neg hi];exact hq _ _ h
  |_=>exact hq _ _ h
 |scope b ih=>
  intro Y _ rf Q C st hq h;refine ih (fun e st' h=>?_) h;cases e with
  |goto l=>exact h
  |_=>exact hq _ _ h
 |loop b ih=>
  intro Y _ rf Q C st hq h;obtain⟨I,μ,h0,h1⟩:=h;refine⟨I,μ,h0,fun st' hi=>ih (fun e X h=>?_) (h1 st' hi)⟩;cases e with
  |normal=>exact h
  |_=>exact hq _ _ h
 |label l=>intro Y _ rf;exact fun hq h=>hq _ _ h
 |rangeFunc g ps assign body J M=>
  intro Y _ rf Q C st hq h;obtain⟨Mt,qd,f,fs,cs,xs,I,B7,H3,HF,IE,BU,iV⟩:=h;refine⟨Mt,qd,f,fs,cs,xs,I,B7,H3,HF,IE,fun k m nx x hx hI=>J (fun e s h=>?_) (BU k m nx x hx hI),fun m nx h=>hq _ _ (iV m nx h)⟩;cases e with
  |normal=>
   refine M (fun e s h=>?_) h;cases e with
   |normal=>exact h
   |ret=>exact hq _ _ h
   |exit id=>exact hq _ _ h
   |_=>exact h
  |_=>exact h
 |_=>intro Y _ rf;exact fun _ h=>h.elim
theorem least{p:Nat->Prop}:∀ j,p j->∃ i,p i/\∀ k,p k->i<=k:=by
 intro j
 induction j using Nat.strongRecOn with
 |_ j ih=>
  intro hj;by_cases h:∃ k,k<j/\p k
  .obtain⟨k,hk,hp⟩:=h;exact ih k hk hp
  .exact⟨j,hj,fun k hk=>Nat.le_of_not_lt fun ao=>h ⟨k,ao,hk⟩⟩
open Classical in
theorem QS[eC Y]{b:Code}(J:Nat->St->Prop){j₀:Nat}(h0:J j₀ st)(h:∀ j st',J j st'->AW P Y rf b (seqQ (fun jS=>∃ M,Ghost P jS M/\∃ j',j'<j/\J j' M) Q) st'):AW P Y rf (.loop b) Q st:=by
 have C:∀ st,(∃ j,J j st)->∃ i,J i st/\∀ k,J k st->i<=k:=fun st ⟨j,hj⟩=>least j hj
 let μ:St->Nat:=fun st=>if h:∃ j,J j st then Classical.choose (C st h) else 0
 have hμ:∀ st,(hj:∃ j,J j st)->J (μ st) st/\∀ k,J k st->μ st<=k:=fun st hj=>by
  have:μ st=Classical.choose (C st hj):=by simp only[μ];rw[dif_pos hj]
  rw[this];exact Classical.choose_spec (C st hj)
 refine RJ (fun st=>∃ j,J j st) μ ⟨j₀,h0⟩ fun st' hj=>wu b (fun e jS hq=>?_) (h (μ st') st' (hμ st' hj).1);cases e with
 |normal=>
  obtain⟨M,hg,j',ao,X⟩:=hq;exact⟨M,hg,⟨j',X⟩,Nat.lt_of_le_of_lt ((hμ M ⟨j',X⟩).2 j' X) ao⟩
 |_=>exact hq
end
section
variable{P:Program}{F:Nat->Prop}{β:Pla}{w:World}
theorem Tr.opt{c:Bool}{d:D}(h:Tr d):Tr (.opt c d):=fun F β w v hv=>by
 cases hv with
 |opt _ _ _ h1 h2=>exact .opt c d v (fun hc=>h F β w v (h1 hc)) h2
theorem Tr.agg{cs:List D}(h:∀ d∈cs,Tr d):Tr (.agg cs):=fun F β w v hv=>by
 obtain⟨vs,rfl,hl,C⟩:=hv.agg_inv;exact .agg cs vs hl fun k d u hd J=>h d (bU hd) F β w u (C k d u hd J)
theorem Tr.tup{cs:List D}(h:∀ d∈cs,Tr d):Tr (.tup cs):=fun F β w v hv=>by
 obtain⟨vs,rfl,hl,C⟩:=hv.tup_inv;exact .tup cs vs hl fun k d u hd J=>h d (bU hd) F β w u (C k d u hd J)
theorem Tr.sl{cs:List D}{n:Nat}(h:∀ d∈cs,Tr d):Tr (.sl cs n):=fun F β w v hv=>by
 cases hv with
 |sln a cap=>exact .sln a cap
 |sl _ _ b o cap us hf hb ao sB fT hc C=>
  exact .sl cs n b o cap us (fun e=>e.elim hf fun e=>e hb) (fun i p hp=>by cases hp) ao sB fT hc fun k d hd=>h d (bU hd) F β w _ (C k d hd)
theorem Tr.pt{cs:List D}(h:∀ d∈cs,Tr d):Tr (.pt cs):=fun F β w v hv=>by
 cases hv with
 |pt _ b o us hf hb ao hc C=>
  exact .pt cs b o us (fun e=>e.elim hf fun e=>e hb) (fun i p hp=>by cases hp) ao hc fun k d hd=>h d (bU hd) F β w _ (C k d hd)
theorem Tr.fn{f:Fn}{fs cs:List D}(h:∀ d∈fs,Tr d)(h':∀ d∈cs,Tr d):Tr (.fn f fs cs):=fun F β w v hv=>by
 cases hv with
 |fn _ _ _ us vs hl jW h1 h2=>
  exact .fn f fs cs us vs hl jW (fun k d u hd C=>h d (bU hd) F β w u (h1 k d u hd C)) fun k d u hd C=>h' d (bU hd) F β w u (h2 k d u hd C)
theorem Tr.im{es:List (Value×D)}(h:∀ x∈es,Tr x.2):Tr (.im es):=fun F β w v hv=>by
 cases hv with
 |im _ r ms clock hf hb hc hl cR hk C=>
  exact .im es r ms clock (fun e=>e.elim hf fun e=>e hb) (fun i p hp=>by cases hp) hc hl cR hk fun k x m hx hm=>h x (bU hx) F β w _ (C k x m hx hm)
theorem Tr.s(x:Value):Tr (.s x):=fun F β w v hv=>by
 obtain⟨rfl,h⟩:=hv.s_inv;exact .s _ h
theorem Tr.ub:Tr .ub:=fun F β w v hv=>by
 obtain⟨b,rfl⟩:=hv.ub_inv;exact .ub b
theorem Tr.u:Tr .u:=fun F β w v _=>.u v
theorem Tr.z:Tr .z:=fun F β w v hv=>by
 obtain⟨a,rfl⟩:=hv.z_inv;exact .z a
theorem Tr.nil:∀ a∈([]:List D),Tr a:=fun _ h=>by cases h
theorem Tr.cons{d:D}{l:List D}(h:Tr d)(hl:∀ a∈l,Tr a):∀ a∈d::l,Tr a:=fun a ha=>by
 cases ha with
 |head=>exact h
 |tail _ ha=>exact hl a ha
theorem Tr.map{α:Type}{f:α->D}{l:List α}(h:∀ x,Tr (f x)):∀ a∈l.map f,Tr a:=fun a ha=>by
 obtain⟨x,_,rfl⟩:=List.mem_map.1 ha;exact h x
theorem Tr.flat{α:Type}{f:α->List D}{l:List α}(h:∀ x,∀ a∈f x,Tr a):∀ a∈l.flatMap f,Tr a:=fun a ha=>by
 obtain⟨x,_,hx⟩:=List.mem_flatMap.1 ha;exact h x a hx
end
instance(d:D):Decidable d.ask:=match d with
 | .opt c _=>inferInstanceAs (Decidable (c=true))
 | .u | .s _ | .ub | .agg _ | .tup _ | .z | .sl _ _ | .pt _ | .rs _ _ _ | .rp _ _ | .mp _ | .im _ | .fn _ _ _=>isTrue trivial
structure fU where
 pre:Prop
 [dec:Decidable pre]
 val:D
 ups:List (Nat×Option Row):=[]
 rd:List Nat:=[]
 new:Nat:=0
structure PD(α:Type) where
 p:Prop
 [dec:Decidable p]
 d:α
def fU.js(e:fU):Eff:=⟨e.pre,e.val,e.ups,e.rd,e.new⟩
def HI(op:BinOp)(x y:Value):Option (PD Value):=
 match op,x,y with
 | .shl,.int k a,.int _ b=>some ⟨0<=b,.int k (k.wrap (a*2 ^ (min b.toNat k.bits)))⟩
 | .shr,.int k a,.int _ b=>some ⟨0<=b,.int k (a.fdiv (2 ^ (min b.toNat k.bits)))⟩
 | .add,.int k a,.int k' b=>some ⟨k=k',.int k (k.wrap (a+b))⟩
 | .sub,.int k a,.int k' b=>some ⟨k=k',.int k (k.wrap (a - b))⟩
 | .mul,.int k a,.int k' b=>some ⟨k=k',.int k (k.wrap (a*b))⟩
 | .quo,.int k a,.int k' b=>some ⟨k=k'/\b≠0,.int k (k.wrap (a.tdiv b))⟩
 | .rem,.int k a,.int k' b=>some ⟨k=k'/\b≠0,.int k (a.tmod b)⟩
 | .and,.int k a,.int k' b=>some ⟨k=k',.int k (intBitsV .and k a b)⟩
 | .or,.int k a,.int k' b=>some ⟨k=k',.int k (intBitsV .or k a b)⟩
 | .xor,.int k a,.int k' b=>some ⟨k=k',.int k (intBitsV .xor k a b)⟩
 | .andNot,.int k a,.int k' b=>some ⟨k=k',.int k (intBitsV .andNot k a b)⟩
 | .eql,.int k a,.int k' b=>some ⟨k=k',.bool (a==b)⟩
 | .neq,.int k a,.int k' b=>some ⟨k=k',.bool (a !=b)⟩
 | .lss,.int k a,.int k' b=>some ⟨k=k',.bool (decide (a<b))⟩
 | .leq,.int k a,.int k' b=>some ⟨k=k',.bool (decide (a<=b))⟩
 | .gtr,.int k a,.int k' b=>some ⟨k=k',.bool (decide (b<a))⟩
 | .geq,.int k a,.int k' b=>some ⟨k=k',.bool (decide (b<=a))⟩
 | .eql,.string a,.string b=>some ⟨True,.bool (a.toList==b.toList)⟩
 | .neq,.string a,.string b=>some ⟨True,.bool !(a.toList==b.toList)⟩
 | .lss,.string a,.string b=>some ⟨True,.bool (Op.bytesLess a.toList b.toList)⟩
 | .geq,.string a,.string b=>some ⟨True,.bool !(Op.bytesLess a.toList b.toList)⟩
 |_,_,_=>none
def KG(P:Program)(op:BinOp)(t:TypeId)(xs ys:List D):Option (PD D):=
 match op,flatT P t,zipV xs ys with
 | .eql,some ks,some q=>some ⟨q.1.map kindV=ks/\P.eqGuardType P.depth t=false,.s (.bool (veqs q.1 q.2))⟩
 | .neq,some ks,some q=>some ⟨q.1.map kindV=ks/\P.eqGuardType P.depth t=false,.s (.bool !(veqs q.1 q.2))⟩
 |_,_,_=>none
def LQ(P:Program)(op:BinOp)(t:TypeId)(x y:D):Option (PD D):=
 match x,y with
 | .s (.bool a),.s (.bool b)=>match op with
  | .eql=>some ⟨boT P t=true,.s (.bool (a==b))⟩
  | .neq=>some ⟨boT P t=true,.s (.bool !(a==b))⟩
  |_=>none
 | .s a,.s b=>(HI op a b).map fun r=> @PD.mk _ r.p r.dec (.s r.d)
 | .agg xs,.agg ys=>KG P op t xs ys
 |_,_=>none
def HJ(P:Program)(m:Mem)(op:BinOp)(t:TypeId)(x:D)(y:Operand):Option fU:=
 match y,op,x with
 | .const (.slice none 0 0),.eql,.sl _ n=>some { pre:=slT P t=true,val:=if n=0 then .ub else .s (.bool false) }
 | .const (.pointer none),.eql,.rp i _=>match m i with
  |some _=>some { pre:=ptT P t=true,val:=.s (.bool false),rd:=[i] }
  |none=>none
 | .const (.pointer none),.neq,.rp i _=>match m i with
  |some _=>some { pre:=ptT P t=true,val:=.s (.bool true),rd:=[i] }
  |none=>none
 |_,_,_=>none
def LR(P:Program)(m:Mem)(t:TypeId):D->Option fU
 | .sl _ n=>some { pre:=slT P t=true,val:=.s (.int .i64 n) }
 | .rs i _ n=>match m i with
  |some _=>some { pre:=slT P t=true,val:=.s (.int .i64 n),rd:=[i] }
  |none=>none
 | .z=>some { pre:=slT P t=true,val:=.s (.int .i64 0) }
 | .s (.string b)=>some { pre:=stT P t=true,val:=.s (.int .i64 b.size) }
 | .agg _=>some { pre:=arT P t=true,val:=.s (.int .i64 (lenP P t)) }
 |_=>none
def Gp(m:Mem)(sz:Nat):D->Option (PD (List Nat×Nat×List D))
 | .sl es n=>some ⟨n*sz<=es.length,([],n,es.take (n*sz))⟩
 | .z=>some ⟨True,([],0,[])⟩
 | .rs i off n=>match m i with
  |some (.cells cs _)=>some ⟨off+n*sz<=cs.length,([i],n,(cs.drop off).take (n*sz))⟩
  |_=>none
 |_=>none
def J'(P:Program)(m:Mem)(nx:Nat)(t:TypeId)(s x:D):Option fU:=
 let e:=elemP P t
 let sz:=P.cellsOf e
 match Gp m sz x with
 |none=>none
 |some (@PD.mk _ p _ (rd,k,news))=>
  match s with
  | .z=>some { pre:=slT P t=true/\p/\0<sz/\k<=maxLen/\k*P.bytesOf e<=140737488355328,val:=.rs nx 0 k,ups:=[(nx,some (.cells news e))],rd:=rd,new:=1 }
  | .rs i off n=>match m i with
   |some (.cells cs e')=>some { pre:=slT P t=true/\e'=e/\p/\0<sz/\off+n*sz=cs.length/\n+k<=maxLen/\(n+k)*P.bytesOf e<=140737488355328/\i∉rd,val:=.rs nx 0 (n+k),ups:=[(i,none),(nx,some (.cells (cs.drop off++news) e))],rd:=i::rd,new:=1 }
   |_=>none
  |_=>none
def Ka(P:Program)(m:Mem)(t:TypeId)(x k:D)(ok:Bool):Option fU:=match keyV k,x with
 |some key,.mp i=>match m i with
  |some (.map es)=>some { pre:=mapT P t=true/\keyP P (mkeyP P t) key=true/\es.all (fun e=>keyP P (mkeyP P t) e.1)=true,val:=gotD P t ok (lookD key es),rd:=[i] }
  |_=>none
 |some key,.im es=>some { pre:=mapT P t=true/\keyP P (mkeyP P t) key=true/\es.all (fun e=>keyP P (mkeyP P t) e.1)=true,val:=gotD P t ok (lookD key es) }
 |some key,.s (.map none)=>some { pre:=mapT P t=true/\keyP P (mkeyP P t) key=true,val:=gotD P t ok none }
 |_,_=>none
def GX(P:Program)(m:Mem)(t:TypeId)(x k v:D):Option fU:=match keyV k,x with
 |some key,.mp i=>match m i with
  |some (.map es)=>some { pre:=mapT P t=true/\keyP P (mkeyP P t) key=true/\es.all (fun e=>keyP P (mkeyP P t) e.1)=true,val:=.tup [],ups:=[(i,some (.map (putD key v es)))],rd:=[i] }
  |_=>none
 |_,_=>none
def Kb(P:Program)(m:Mem)(t:TypeId)(x k:D):Option fU:=match keyV k,x with
 |some key,.mp i=>match m i with
  |some (.map es)=>some { pre:=mapT P t=true/\keyP P (mkeyP P t) key=true/\es.all (fun e=>keyP P (mkeyP P t) e.1)=true,val:=.tup [],ups:=[(i,some (.map (delD key es)))],rd:=[i] }
  |_=>none
 |_,_=>none
def GA(P:Program)(m:Mem)(nx:Nat)(b:Builtin)(ts:Array TypeId)(args:List D):Option fU:=
 match b,args with
 | .len,[x]=>LR P m (ts.getD 0 0) x
 | .append,[s,x]=>if ts.getD 0 0=ts.getD 1 0 then J' P m nx (ts.getD 0 0) s x else none
 | .min,[.s (.int k a),.s (.int k' b)]=>some { pre:=k=k',val:=.s (.int k (if b<a then b else a)) }
 | .clear,[.rs i off n]=>match m i with
  |some (.cells cs e)=>some { pre:=slT P (ts.getD 0 0)=true/\off+n*P.cellsOf e<=cs.length/\e=elemP P (ts.getD 0 0),val:=.tup [],ups:=[(i,some (.cells (splice cs off (replD n (zeroP P e))) e))],rd:=[i] }
  |_=>none
 | .delete,[x,k]=>Kb P m (ts.getD 0 0) x k
 |_,_=>none
def KH(P:Program)(m:Mem)(t:TypeId)(x:D)(lo hi C:Option D):Option fU:=
 match x with
 | .sl es n=>match bndD lo 0,bndD hi n,C with
  |some l,some h,none=>some { pre:=slT P t=true/\0<=l/\l<=h/\h<=n,val:=.sl ((es.drop (l.toNat*P.cellsOf (elemP P t))).take ((h - l).toNat*P.cellsOf (elemP P t))) (h - l).toNat }
  |some l,some h,some d=>match d.int? with
   |some k=>some { pre:=slT P t=true/\hi.isSome=true/\0<=l/\l<=h/\h<=k/\k<=n,val:=.sl ((es.drop (l.toNat*P.cellsOf (elemP P t))).take ((h - l).toNat*P.cellsOf (elemP P t))) (h - l).toNat }
   |none=>none
  |_,_,_=>none
 | .rs i off n=>match m i with
  |some (.cells _ e)=>match bndD lo 0,bndD hi n,C with
   |some l,some h,none=>some { pre:=(slT P t=true/\P.cellsOf e=P.cellsOf (elemP P t))/\0<=l/\l<=h/\h<=n,val:=.rs i (off+l.toNat*P.cellsOf (elemP P t)) (h - l).toNat,rd:=[i] }
   |_,_,_=>none
  |_=>none
 | .s (.string b)=>match bndD lo 0,bndD hi b.size,C with
  |some l,some h,none=>some { pre:=stT P t=true/\0<=l/\l<=h/\h<=b.size,val:=.s (.string (b.extract l.toNat h.toNat)) }
  |_,_,_=>none
 |_=>none
def ko(P:Program)(o:Op)(ρ:Operand->D)(m:Mem)(nx:Nat):Option fU:=
 match o with
 | .move x=>some { pre:=True,val:=ρ x }
 | .assign x=>some { pre:=True,val:=ρ x }
 | .pick c a b=>match (ρ c).core.bool? with
  |some t=>some { pre:=(t=true->(ρ a).ask/\(ρ a).core.bool?.isSome=true)/\(t=false->(ρ b).ask/\(ρ b).core.bool?.isSome=true),val:=.s (.bool (if t then(ρ a).core.bool?.getD false else(ρ b).core.bool?.getD false)) }
  |none=>none
 | .alloc t=>some { pre:=tyOk P t=true,val:=.rp nx 0,ups:=[(nx,some (.cells (zeroP P t) t))],new:=1 }
 | .box t x=>some { pre:=(ρ x).cells.all D.one=true,val:=.rp nx 0,ups:=[(nx,some (.cells (ρ x).cells t))],new:=1 }
 | .build t ps=>match P.underlying t with
  |some (.struct fs)=>(fillD (fun i=>(fs[i]?).map fun f=>(f.offset,P.cellsOf f.type)) (zeroP P t) (ps.toList.map fun q=>(q.1,ρ q.2))).map fun cs=>{ pre:=tyOk P t=true/\fs.toList.all (fun f=>(P.info? f.type).isSome)=true,val:=.agg cs }
  |some (.array _ e)=>(fillD (fun i=>some (i*P.cellsOf e,P.cellsOf e)) (zeroP P t) (ps.toList.map fun q=>(q.1,ρ q.2))).map fun cs=>{ pre:=tyOk P t=true/\tyOk P e=true,val:=.agg cs }
  |_=>none
 | .buildSlice t n ps=>(fillD (fun i=>some (i*P.cellsOf (elemP P t),P.cellsOf (elemP P t))) (replD n (zeroP P (elemP P t))) (ps.toList.map fun q=>(q.1,ρ q.2))).map fun cs=>
   { pre:=cs.all D.one=true/\n*P.cellsOf (elemP P t)<=2 ^ 24/\slT P t=true/\n<=maxLen,val:=.rs nx 0 n,ups:=[(nx,some (.cells cs (elemP P t)))],new:=1 }
 | .load t a=>match ρ a with
  | .pt cs=>some { pre:=tyOk P t=true/\P.cellsOf t<=cs.length,val:=takeV P t cs }
  | .rp i off=>match m i with
   |some (.cells cs _)=>some { pre:=tyOk P t=true/\off+P.cellsOf t<=cs.length,val:=takeV P t (cs.drop off),rd:=[i] }
   |_=>none
  |_=>none
 | .store t a x=>match ρ a with
  | .rp i off=>match m i with
   |some (.cells cs e)=>some { pre:=tyOk P t=true/\(ρ x).cells.length=P.cellsOf t/\off+P.cellsOf t<=cs.length/\(ρ x).cells.all D.one=true,val:=.tup [],ups:=[(i,some (.cells (splice cs off (ρ x).cells) e))],rd:=[i] }
   |_=>none
  |_=>none
 | .nilCheck x=>match ρ x with
  | .pt cs=>some { pre:=True,val:=.pt cs }
  | .rp i off=>match m i with
   |some _=>some { pre:=True,val:=.rp i off,rd:=[i] }
   |none=>none
  |_=>none
 | .binOp op t x y _=>match HJ P m op t (ρ x) y with
  |some e=>some e
  |none=>(LQ P op t (ρ x) (ρ y)).map fun r=> @fU.mk r.p r.dec r.d [] [] 0
 | .unOp op _ x=>match ρ x with
  | .s v=>(unV op v).map fun r=>{ pre:=True,val:=.s r }
  |_=>none
 | .convert src dst x=>match P.underlying dst,ρ x with
  |some (.int k),.s (.int _ n)=>some { pre:=tyOk P src=true,val:=.s (.int k (k.wrap n)) }
  |some (.slice e),.s (.string b)=>match P.underlying e with
   |some (.int .u8)=>some { pre:=stT P src=true/\b.size<=maxLen,val:=.sl (b.data.toList.map fun c=>.s (.int .u8 c.toNat)) b.size }
   |_=>none
  |_,_=>none
 | .makeFunc f fs cs=>some { pre:=True,val:=.fn f (fs.toList.map ρ) (cs.toList.map ρ) }
 | .makeMap _ r=>match r with
  |none=>some { pre:=True,val:=.mp nx,ups:=[(nx,some (.map []))],new:=1 }
  |some _=>none
 | .makeSlice t l c=>match ρ l,ρ c with
  | .s (.int .i64 n),.s (.int .i64 k)=>some { pre:=0<=n/\n=k/\n<=9223372036854775807/\P.bytesOf (elemP P t)*n<=281474976710656/\slT P t=true,val:=.rs nx 0 n.toNat,ups:=[(nx,some (.cells (replD n.toNat (zeroP P (elemP P t))) (elemP P t)))],new:=1 }
  |_,_=>none
 | .lookup t x k ok=>Ka P m t (ρ x) (ρ k) ok
 | .mapUpdate t x k v=>GX P m t (ρ x) (ρ k) (ρ v)
 | .insert t x k v=>GX P m t (ρ x) (ρ k) (ρ v)
 | .slice t x lo hi C=>KH P m t (ρ x) (lo.map ρ) (hi.map ρ) (C.map ρ)
 | .fieldAddr t x k=>match fieldP P t k,ρ x with
  |some (off,ft),.pt cs=>some { pre:=0<P.cellsOf ft,val:=.pt (cs.drop off) }
  |some (off,ft),.rp i o=>match m i with
   |some _=>some { pre:=0<P.cellsOf ft,val:=.rp i (o+off),rd:=[i] }
   |none=>none
  |_,_=>none
 | .field t x k=>match fieldP P t k,ρ x with
  |some (off,ft),.agg cs=>some { pre:=tyOk P ft=true/\off+P.cellsOf ft<=cs.length,val:=takeV P ft (cs.drop off) }
  |_,_=>none
 | .indexAddr t x i=>match ρ x,ρ i with
  | .sl es n,.s (.int _ k)=>some { pre:=slT P t=true/\0<=k/\k<n/\(k.toNat+1)*P.cellsOf (elemP P t)<=es.length,val:=.pt (es.drop (k.toNat*P.cellsOf (elemP P t))) }
  | .rs j off n,.s (.int _ k)=>match m j with
   |some _=>some { pre:=slT P t=true/\0<=k/\k<n,val:=.rp j (off+k.toNat*P.cellsOf (elemP P t)),rd:=[j] }
   |none=>none
  | .rp j off,.s (.int _ k)=>match m j with
   |some _=>some { pre:=arT P t=true/\0<=k/\k<lenP P t,val:=.rp j (off+k.toNat*P.cellsOf (elemP P t)),rd:=[j] }
   |none=>none
  |_,_=>none
 | .index t x i=>match ρ x,ρ i with
  | .s (.string b),.s (.int _ k)=>some { pre:=stT P t=true/\0<=k/\k<b.size,val:=.s (.int .u8 (b.data.toList.getD k.toNat 0).toNat) }
  | .agg cs,.s (.int _ k)=>some { pre:=arT P t=true/\0<=k/\k<lenP P t/\(k.toNat+1)*P.cellsOf (elemP P t)<=cs.length,val:=takeV P (elemP P t) (cs.drop (k.toNat*P.cellsOf (elemP P t))) }
  |_,_=>none
 | .extract x k=>match ρ x with
  | .tup cs=>some { pre:=k<cs.length,val:=cs.getD k .u }
  |_=>none
 | .call c=>match c.callee with
  | .builtin b=>if c.argTypes.size=c.args.size then GA P m nx b c.argTypes (c.args.toList.map ρ) else none
  |_=>none
 |_=>none
theorem abO(op:BinOp)(x y:Value):binV op x y=(HI op x y).map fun r=>(r.p,r.d):=by
 cases op<;>cases x<;>first|rfl|(cases y<;>rfl)
theorem ZC(P:Program)(op:BinOp)(t:TypeId)(xs ys:List D):aggEqD P op t xs ys=(KG P op t xs ys).map fun r=>(r.p,r.d):=by
 unfold aggEqD KG;cases op<;>first|rfl|skip
 all_goals cases flatT P t<;>first|rfl|skip
 all_goals cases zipV xs ys<;>rfl
theorem abP(P:Program)(op:BinOp)(t:TypeId)(x y:D):binD P op t x y=(LQ P op t x y).map fun r=>(r.p,r.d):=by
 have hs:∀ a b,(binV op a b).map (fun r=>(r.1,D.s r.2))=((HI op a b).map fun r=> @PD.mk _ r.p r.dec (D.s r.d)).map fun r=>(r.p,r.d):=fun a b=>by
  rw[abO];cases HI op a b<;>rfl
 cases x with
 |s a=>
  cases y with
  |s b=>
   cases a with
   |bool a=>
    cases b with
    |bool b=>cases op<;>rfl
    |_=>exact hs _ _
   |_=>exact hs _ _
  |_=>cases a<;>rfl
 |agg xs=>
  cases y with
  |agg ys=>exact ZC P op t xs ys
  |_=>rfl
 |_=>rfl
theorem abQ(P:Program)(m:Mem)(op:BinOp)(t:TypeId)(x:D)(y:Operand):nilD P m op t x y=(HJ P m op t x y).map fU.js:=by
 unfold nilD HJ;split<;>split<;>simp_all[fU.js]
 all_goals split<;>simp_all[fU.js]
theorem abR(P:Program)(m:Mem)(t:TypeId)(x:D):lenD P m t x=(LR P m t x).map fU.js:=by
 unfold lenD LR;split<;>first|rfl|skip
 all_goals split<;>simp_all[fU.js]
theorem Y2(m:Mem)(sz:Nat)(x:D):sliceCells m sz x=(Gp m sz x).map fun r=>(r.p,r.d):=by
 unfold sliceCells Gp;split<;>first|rfl|skip
 all_goals split<;>simp_all
theorem Zo(P:Program)(m:Mem)(nx:Nat)(t:TypeId)(s x:D):appendD P m nx t s x=(J' P m nx t s x).map fU.js:=by
 unfold appendD J';simp only[Y2];cases Gp m (P.cellsOf (elemP P t)) x with
 |none=>rfl
 |some r=>
  obtain⟨p,rd,k,news⟩:=r;simp only[Option.map_some];split<;>first|rfl|skip
  all_goals split<;>simp_all[fU.js]
theorem Zp(P:Program)(m:Mem)(t:TypeId)(x k:D)(ok:Bool):lookupD P m t x k ok=(Ka P m t x k ok).map fU.js:=by
 unfold lookupD Ka;split<;>first|rfl|skip
 all_goals split<;>simp_all[fU.js]
theorem Pj(P:Program)(m:Mem)(t:TypeId)(x k v:D):mapPutD P m t x k v=(GX P m t x k v).map fU.js:=by
 unfold mapPutD GX;split<;>first|rfl|skip
 all_goals split<;>simp_all[fU.js]
theorem Zq(P:Program)(m:Mem)(t:TypeId)(x k:D):mapDelD P m t x k=(Kb P m t x k).map fU.js:=by
 unfold mapDelD Kb;split<;>first|rfl|skip
 all_goals split<;>simp_all[fU.js]
theorem Za(P:Program)(m:Mem)(nx:Nat)(b:Builtin)(ts:Array TypeId)(args:List D):builtinD P m nx b ts args=(GA P m nx b ts args).map fU.js:=by
 cases b with
 |len=>
  match args with
  |[]=>rfl
  |[x]=>exact abR _ _ _ _
  |_::_::_=>rfl
 |append=>
  match args with
  |[]=>rfl
  |[x]=>rfl
  |[s,x]=>
   simp only[builtinD,GA];split
   .exact Zo _ _ _ _ _ _
   .rfl
  |_::_::_::_=>rfl
 |min=>
  match args with
  |[]=>rfl
  |[x]=>
   cases x with
   |s a=>cases a<;>rfl
   |_=>rfl
  |[x,y]=>
   cases x with
   |s a=>
    cases a with
    |int k a=>
     cases y with
     |s b=>cases b<;>rfl
     |_=>rfl
    |_=>rfl
   |_=>rfl
  |x::y::_::_=>
   cases x with
   |s a=>
    cases a with
    |int k a=>
     cases y with
     |s b=>cases b<;>rfl
     |_=>rfl
    |_=>rfl
   |_=>rfl
 |clear=>
  match args with
  |[]=>rfl
  |[x]=>
   cases x with
   |rs i off n=>
    simp only[builtinD,GA];cases m i with
    |none=>rfl
    |some r=>cases r<;>rfl
   |_=>rfl
  |x::_::_=>cases x<;>rfl
 |delete=>
  match args with
  |[]=>rfl
  |[x]=>rfl
  |[x,k]=>exact Zq _ _ _ _ _
  |_::_::_::_=>rfl
 |_=>rfl
theorem ZD(P:Program)(m:Mem)(t:TypeId)(x:D)(lo hi C:Option D):sliceD P m t x lo hi C=(KH P m t x lo hi C).map fU.js:=by
 unfold sliceD KH;cases x with
 |sl es n=>
  simp only;cases bndD lo 0<;>first|rfl|skip
  cases bndD hi n<;>first|rfl|skip
  cases C with
  |none=>rfl
  |some d=>
   simp only;cases d.int? <;>rfl
 |rs i off n=>
  simp only;cases m i with
  |none=>rfl
  |some r=>
   cases r<;>first|rfl|skip
   simp only;cases bndD lo 0<;>first|rfl|skip
   cases bndD hi n<;>first|rfl|skip
   cases C<;>rfl
 |s v=>
  cases v<;>first|rfl|skip
  simp only;cases bndD lo 0<;>first|rfl|skip
  rename_i b _;cases bndD hi b.size<;>first|rfl|skip
  cases C<;>rfl
 |_=>rfl
theorem RF(P:Program)(o:Op)(ρ:Operand->D)(m:Mem)(nx:Nat):aop P o ρ m nx=(ko P o ρ m nx).map fU.js:=by
 cases o with
 |call c=>
  simp only[aop,ko];cases c.callee with
  |builtin b=>
   simp only;split
   .exact Za _ _ _ _ _ _
   .rfl
  |_=>rfl
 |binOp op t x y _=>
  simp only[aop,ko,abQ,abP];cases HJ P m op t (ρ x) y with
  |some e=>rfl
  |none=>
   cases LQ P op t (ρ x) (ρ y) with
   |some r=>rfl
   |none=>rfl
 |lookup t x k ok=>exact Zp _ _ _ _ _ _
 |mapUpdate t x k v=>exact Pj _ _ _ _ _ _
 |insert t x k v=>exact Pj _ _ _ _ _ _
 |slice t x lo hi J=>exact ZD _ _ _ _ _ _ _
 |build t ps=>
  simp only[aop,ko];cases P.underlying t with
  |none=>rfl
  |some u=>
   cases u with
   |struct fs=>simp only;cases fillD _ _ _<;>rfl
   |array n e=>simp only;cases fillD _ _ _<;>rfl
   |_=>rfl
 |buildSlice t n ps=>
  simp only[aop,ko];cases fillD _ _ _<;>rfl
 |unOp op t x=>
  simp only[aop,ko];cases ρ x with
  |s v=>simp only;cases unV op v<;>rfl
  |_=>rfl
 |load t a=>
  simp only[aop,ko];cases ρ a with
  |rp i off=>simp only;cases m i with
   |none=>rfl
   |some r=>cases r<;>rfl
  |_=>rfl
 |store t a x=>
  simp only[aop,ko];cases ρ a with
  |rp i off=>simp only;cases m i with
   |none=>rfl
   |some r=>cases r<;>rfl
  |_=>rfl
 |pick c a b=>
  simp only[aop,ko];cases (ρ c).core.bool? <;>rfl
 |nilCheck x=>
  simp only[aop,ko];cases ρ x with
  |rp i off=>simp only;cases m i<;>rfl
  |_=>rfl
 |makeMap t r=>cases r<;>rfl
 |makeSlice t l c=>
  simp only[aop,ko];cases ρ l with
  |s v=>
   cases v with
   |int k n=>
    cases k with
    |i64=>
     cases ρ c with
     |s v=>cases v with
      |int k n=>cases k<;>rfl
      |_=>rfl
     |_=>rfl
    |_=>rfl
   |_=>rfl
  |_=>rfl
 |convert src dst x=>
  simp only[aop,ko];cases P.underlying dst with
  |none=>rfl
  |some u=>
   cases u with
   |int k=>cases ρ x with
    |s v=>cases v<;>rfl
    |_=>rfl
   |slice e=>cases ρ x with
    |s v=>cases v with
     |string b=>
      simp only;cases P.underlying e with
      |none=>rfl
      |some u=>
       cases u with
       |int k=>cases k<;>rfl
       |_=>rfl
     |_=>rfl
    |_=>rfl
   |_=>rfl
 |fieldAddr t x k=>
  simp only[aop,ko];cases fieldP P t k with
  |none=>rfl
  |some q=>
   obtain⟨off,C⟩:=q;cases ρ x with
   |rp i o=>simp only;cases m i<;>rfl
   |_=>rfl
 |field t x k=>
  simp only[aop,ko];cases fieldP P t k with
  |none=>rfl
  |some q=>
   obtain⟨off,C⟩:=q;cases ρ x<;>rfl
 |indexAddr t x i=>
  simp only[aop,ko];cases ρ x with
  |sl es n=>cases ρ i with
   |s v=>cases v<;>rfl
   |_=>rfl
  |rs j off n=>cases ρ i with
   |s v=>cases v with
    |int k n=>simp only;cases m j<;>rfl
    |_=>rfl
   |_=>rfl
  |rp j off=>cases ρ i with
   |s v=>cases v with
    |int k n=>simp only;cases m j<;>rfl
    |_=>rfl
   |_=>rfl
  |_=>rfl
 |index t x i=>
  simp only[aop,ko];cases ρ x with
  |s v=>cases v with
   |string b=>cases ρ i with
    |s v=>cases v<;>rfl
    |_=>rfl
   |_=>rfl
  |agg cs=>cases ρ i with
   |s v=>cases v<;>rfl
   |_=>rfl
  |_=>rfl
 |extract x k=>
  simp only[aop,ko];cases ρ x<;>rfl
 |_=>rfl
inductive T(α:Type) where
 |leaf
 |node (v:Option α) (l r:T α)
def T.get{α:Type}:T α->Nat->Option α
 | .leaf,_=>none
 | .node v l r,i=>bif Nat.beq i 0 then v else bif Nat.beq (i % 2) 1 then l.get (i / 2) else r.get (i / 2 - 1)
def T.set{α:Type}:Nat->T α->Nat->Option α->T α
 |0,t,_,_=>t
 |f+1,.leaf,i,v=>bif Nat.beq i 0 then .node v .leaf .leaf else bif Nat.beq (i % 2) 1 then .node none (T.set f .leaf (i / 2) v) .leaf else .node none .leaf (T.set f .leaf (i / 2 - 1) v)
 |f+1,.node v0 l r,i,v=>bif Nat.beq i 0 then .node v l r else bif Nat.beq (i % 2) 1 then .node v0 (T.set f l (i / 2) v) r else .node v0 l (T.set f r (i / 2 - 1) v)
theorem T.wk{α:Type}(v:Option α)(l r:T α)(i:Nat):(T.node v l r).get i=if i=0 then v else if i % 2=1 then l.get (i / 2) else r.get (i / 2 - 1):=by
 simp only[T.get,Bool.cond_eq_ite,Nat.beq_eq]
theorem T.DN{α:Type}(v:Option α):∀ (f:Nat) (t:T α) (i j:Nat),i+1<2 ^ f->(T.set f t i v).get j=if j=i then v else t.get j
 |0,t,i,j,h=>by simp at h
 |f+1,t,i,j,h=>by
  have h2:2 ^ (f+1)=2*2 ^ f:=by rw[Nat.pow_succ];omega
  have X:i % 2=1->i / 2+1<2 ^ f:=fun _=>by omega
  have kC:i≠0->i % 2≠1->i / 2 - 1+1<2 ^ f:=fun _ _=>by omega
  have M:∀ k,(T.leaf:T α).get k=none:=fun k=>rfl;cases t with
  |leaf=>
   simp only[T.set,Bool.cond_eq_ite,Nat.beq_eq];by_cases h0:i=0
   .subst h0;simp only[if_true,T.wk,M];by_cases hj:j=0<;>simp[hj]
   .rw[if_neg h0];by_cases h1:i % 2=1
    .rw[if_pos h1,T.wk,T.DN v f _ _ _ (X h1)];simp only[M];by_cases hj:j=i
     .subst hj;simp[h0,h1]
     .rw[if_neg hj];by_cases C:j=0
      .rw[if_pos C]
      .rw[if_neg C];by_cases J:j % 2=1
       .rw[if_pos J,if_neg oG]
       .rw[if_neg J]
    .rw[if_neg h1,T.wk,T.DN v f _ _ _ (kC h0 h1)];simp only[M];by_cases hj:j=i
     .subst hj;simp[h0,h1]
     .rw[if_neg hj];by_cases C:j=0
      .rw[if_pos C]
      .rw[if_neg C];by_cases J:j % 2=1
       .rw[if_pos J]
       .rw[if_neg J,if_neg oG]
  |node v0 l r=>
   simp only[T.set,Bool.cond_eq_ite,Nat.beq_eq];by_cases h0:i=0
   .subst h0;simp only[if_true,T.wk];by_cases hj:j=0<;>simp[hj]
   .rw[if_neg h0];by_cases h1:i % 2=1
    .rw[if_pos h1,T.wk,T.wk,T.DN v f _ _ _ (X h1)];by_cases hj:j=i
     .subst hj;simp[h0,h1]
     .rw[if_neg hj];by_cases C:j=0
      .rw[if_pos C,if_pos C]
      .rw[if_neg C,if_neg C];by_cases J:j % 2=1
       .rw[if_pos J,if_pos J,if_neg oG]
       .rw[if_neg J,if_neg J]
    .rw[if_neg h1,T.wk,T.wk,T.DN v f _ _ _ (kC h0 h1)];by_cases hj:j=i
     .subst hj;simp[h0,h1]
     .rw[if_neg hj];by_cases C:j=0
      .rw[if_pos C,if_pos C]
      .rw[if_neg C,if_neg C];by_cases J:j % 2=1
       .rw[if_pos J,if_pos J]
       .rw[if_neg J,if_neg J,if_neg oG]
def T.put{α:Type}(t:T α)(i:Nat)(v:Option α):Option (T α):=bif Nat.blt i 1000000 then some (T.set 20 t i v) else none
theorem T.RG{α:Type}{t C:T α}{i:Nat}{v:Option α}(h:t.put i v=some C)(j:Nat):C.get j=if j=i then v else t.get j:=by
 unfold T.put at h;cases hb:Nat.blt i 1000000 with
 |false=>rw[hb] at h;cases h
 |true=>
  rw[hb] at h;simp only[cond_true,aV] at h;subst h;have:i<1000000:=by simpa using hb
  exact T.DN v 20 t i j oG
structure cB where
 env:T D
 mem:T Row
 nx:Nat
def dO(t:T D):Env:=fun i=>(t.get i).getD .u
def fD(t:T Row):Mem:=fun i=>t.get i
def cB.st(c:cB):St:=⟨dO c.env,fD c.mem,c.nx⟩
theorem Kc{t C:T D}{i:Nat}{d:D}(h:t.put i (some d)=some C):dO C=up (dO t) i d:=by
 funext j;simp only[dO,T.RG h,up_apply];split<;>rfl
theorem QP{t C:T Row}{i:Nat}{r:Option Row}(h:t.put i r=some C):fD C=up (fD t) i r:=by
 funext j;simp only[fD,T.RG h,up_apply]
def Cq(t:T D):Option Nat->D->Option (T D)
 |none,_=>some t
 |some i,d=>t.put i (some d)
def EV(m:T Row):List (Nat×Option Row)->Option (T Row)
 |[]=>some m
 |(i,r)::us=>match m.put i r with
  |some m'=>EV m' us
  |none=>none
theorem KI{t C:T D}{dst:Option Nat}{d:D}(h:Cq t dst d=some C)(m:Mem)(nx:Nat):(⟨dO C,m,nx⟩:St)=St.put ⟨dO t,m,nx⟩ dst d:=by
 cases dst with
 |none=>simp only[Cq,aV] at h;subst h;rfl
 |some i=>simp only[Cq] at h;simp only[St.put,Kc h]
theorem QQ:∀ {us:List (Nat×Option Row)} {m m':T Row},EV m us=some m'->fD m'=upds (fD m) us
 |[],m,m',h=>by simp only[EV,aV] at h;subst h;rfl
 |(i,r)::us,m,m',h=>by
  simp only[EV] at h;cases hp:m.put i r with
  |none=>rw[hp] at h;cases h
  |some m1=>
   rw[hp] at h;simp only at h;rw[QQ h,QP hp];rfl
def rD:Nat->D->Bool
 |0,_=>false
 |n+1,d=>match d with
  | .rs .. | .rp .. | .mp _=>false
  | .opt _ d=>rD n d
  | .agg cs | .tup cs | .pt cs | .sl cs _=>cs.all (rD n)
  | .fn _ fs cs=>fs.all (rD n)&&cs.all (rD n)
  | .im es=>es.all fun x=>rD n x.2
  |_=>true
section
variable{P:Program}{F:Nat->Prop}{β:Pla}{w:World}
theorem qO:∀ {n:Nat} {d:D},rD n d=true->Tr d
 |0,_,h=>by cases h
 |n+1,d,h=>by
  cases d with
  |rs=>cases h
  |rp=>cases h
  |mp=>cases h
  |opt c d=>exact .opt (qO h)
  |agg cs=>exact .agg fun d hd=>qO (bj.1 h d hd)
  |tup cs=>exact .tup fun d hd=>qO (bj.1 h d hd)
  |sl cs n=>exact .sl fun d hd=>qO (bj.1 h d hd)
  |pt cs=>exact .pt fun d hd=>qO (bj.1 h d hd)
  |fn f fs cs=>
   simp only[rD,aO] at h;exact .fn (fun d hd=>qO (bj.1 h.1 d hd)) fun d hd=>qO (bj.1 h.2 d hd)
  |im es=>exact .im fun x hx=>qO (bj.1 h x hx)
  |s v=>exact .s v
  |ub=>exact .ub
  |u=>exact .u
  |z=>exact .z
def jn{α β:Type}(f:α->Option (β×List Nat)):List α->Option (List β×List Nat)
 |[]=>some ([],[])
 |x::xs=>match f x with
  |none=>none
  |some y=>match jn f xs with
   |none=>none
   |some ys=>some (y.1::ys.1,y.2++ys.2)
theorem GB{α β:Type}{f:α->Option (β×List Nat)}:∀ {xs:List α} {ys:List β} {r:List Nat},jn f xs=some (ys,r)->
 ys.length=xs.length/\(∀ (k:Nat) (y:β),ys[k]? =some y->∃ x r',xs[k]? =some x/\f x=some (y,r')/\∀ i∈r',i∈r)
 |[],ys,r,h=>by simp only[jn,aV,bQ] at h;obtain⟨rfl,rfl⟩:=h;simp
 |x::xs,ys,r,h=>by
  simp only[jn] at h;cases hx:f x with
  |none=>rw[hx] at h;cases h
  |some y=>
   rw[hx] at h;simp only at h;cases J:jn f xs with
   |none=>rw[J] at h;cases h
   |some M=>
    rw[J] at h;simp only[aV,bQ] at h;obtain⟨rfl,rfl⟩:=h;obtain⟨h1,h2⟩:=GB (ys:=M.1) (r:=M.2) J;refine⟨by simp[h1],fun k z C=>?_⟩;cases k with
    |zero=>
     simp only[List.getElem?_cons_zero,aV] at C;subst C;exact⟨x,y.2,rfl,hx,fun i hi=>by simp[hi]⟩
    |succ k=>
     obtain⟨x',r',X,g2,g3⟩:=h2 k z (by simpa using C);exact⟨x',r',by simpa using X,g2,fun i hi=>by simp[g3 i hi]⟩
def cT(P:Program)(m:Mem):Nat->D->Option (D×List Nat)
 |0,_=>none
 |n+1,d=>match d with
  | .mp i=>match m i with
   |some (.map es)=>(jn (fun x=>(cT P m n x.2).map fun y=>((x.1,y.1),y.2)) es).map fun x=>(.im x.1,i::x.2)
   |_=>none
  | .im es=>(jn (fun x=>(cT P m n x.2).map fun y=>((x.1,y.1),y.2)) es).map fun x=>(.im x.1,x.2)
  | .rs i off k=>match m i with
   |some (.cells cs e)=>(jn (cT P m n) ((cs.drop off).take (k*P.cellsOf e))).map fun x=>(.sl x.1 k,i::x.2)
   |_=>none
  | .rp i off=>match m i with
   |some (.cells cs _)=>(jn (cT P m n) (cs.drop off)).map fun x=>(.pt x.1,i::x.2)
   |_=>none
  | .opt true d=>(cT P m n d).map fun x=>(.opt true x.1,x.2)
  | .opt false _=>some (.opt false .u,[])
  | .agg cs=>(jn (cT P m n) cs).map fun x=>(.agg x.1,x.2)
  | .tup cs=>(jn (cT P m n) cs).map fun x=>(.tup x.1,x.2)
  | .sl cs k=>(jn (cT P m n) cs).map fun x=>(.sl x.1 k,x.2)
  | .pt cs=>(jn (cT P m n) cs).map fun x=>(.pt x.1,x.2)
  | .fn f fs cs=>match jn (cT P m n) fs with
   |none=>none
   |some x=>(jn (cT P m n) cs).map fun y=>(.fn f x.1 y.1,x.2++y.2)
  | .s v=>some (.s v,[])
  | .ub=>some (.ub,[])
  | .u=>some (.u,[])
  | .z=>some (.z,[])
theorem td{α β:Type}{f:α->Option (β×List Nat)}{xs:List α}{ys:List β}{r:List Nat}(h:jn f xs=some (ys,r)){p:β->Prop}(hp:∀ x y r',f x=some (y,r')->p y):∀ y∈ys,p y:=fun y hy=>by
 obtain⟨k,hk⟩:=cC hy;obtain⟨x,r',_,h2,_⟩:=(GB h).2 k y hk;exact hp x y r' h2
theorem Hf{m:Mem}:∀ {n:Nat} {d d':D} {r:List Nat},cT P m n d=some (d',r)->Tr d'
 |0,_,_,_,h=>by cases h
 |n+1,d,d',r,h=>by
  have ih:∀ x y r',cT P m n x=some (y,r')->Tr y:=fun x y r' h=>Hf h
  have C:∀ (x:Value×D) (y:Value×D) r',(cT P m n x.2).map (fun y=>((x.1,y.1),y.2))=some (y,r')->Tr y.2:=fun x y r' h=>by
   simp only[dw,bQ] at h;obtain⟨z,J,rfl,_⟩:=h;exact Hf (r:=z.2) J
  cases d with
  |mp i=>
   simp only[cT] at h;split at h
   .simp only[dw,bQ] at h;obtain⟨x,hx,rfl,_⟩:=h;exact .im (td (ys:=x.1) (r:=x.2) hx C)
   .cases h
  |im es=>
   simp only[cT,dw,bQ] at h;obtain⟨x,hx,rfl,_⟩:=h;exact .im (td (ys:=x.1) (r:=x.2) hx C)
  |rs i off k=>
   simp only[cT] at h;split at h
   .simp only[dw,bQ] at h;obtain⟨x,hx,rfl,_⟩:=h;exact .sl (td (ys:=x.1) (r:=x.2) hx ih)
   .cases h
  |rp i off=>
   simp only[cT] at h;split at h
   .simp only[dw,bQ] at h;obtain⟨x,hx,rfl,_⟩:=h;exact .pt (td (ys:=x.1) (r:=x.2) hx ih)
   .cases h
  |opt c d=>
   cases c with
   |true=>
    simp only[cT,dw,bQ] at h;obtain⟨x,hx,rfl,_⟩:=h;exact .opt (Hf (r:=x.2) hx)
   |false=>simp only[cT,aV,bQ] at h;obtain⟨rfl,_⟩:=h;exact .opt .u
  |agg cs=>
   simp only[cT,dw,bQ] at h;obtain⟨x,hx,rfl,_⟩:=h;exact .agg (td (ys:=x.1) (r:=x.2) hx ih)
  |tup cs=>
   simp only[cT,dw,bQ] at h;obtain⟨x,hx,rfl,_⟩:=h;exact .tup (td (ys:=x.1) (r:=x.2) hx ih)
  |sl cs k=>
   simp only[cT,dw,bQ] at h;obtain⟨x,hx,rfl,_⟩:=h;exact .sl (td (ys:=x.1) (r:=x.2) hx ih)
  |pt cs=>
   simp only[cT,dw,bQ] at h;obtain⟨x,hx,rfl,_⟩:=h;exact .pt (td (ys:=x.1) (r:=x.2) hx ih)
  |fn f fs cs=>
   simp only[cT] at h;cases hx:jn (cT P m n) fs with
   |none=>rw[hx] at h;cases h
   |some x=>
    rw[hx] at h;simp only[dw,bQ] at h;obtain⟨y,hy,rfl,_⟩:=h;exact .fn (td (ys:=x.1) (r:=x.2) hx ih) (td (ys:=y.1) (r:=y.2) hy ih)
  |s v=>simp only[cT,aV,bQ] at h;obtain⟨rfl,_⟩:=h;exact .s v
  |ub=>simp only[cT,aV,bQ] at h;obtain⟨rfl,_⟩:=h;exact .ub
  |u=>simp only[cT,aV,bQ] at h;obtain⟨rfl,_⟩:=h;exact .u
  |z=>simp only[cT,aV,bQ] at h;obtain⟨rfl,_⟩:=h;exact .z
def afF(P:Program)(F:Nat->Prop)(β:Pla)(w:World)(m:Mem)(rds:List Nat):Prop:=∀ i∈rds,∀ r,m i=some r->∃ p,β i=some p/\RowR P F β w r p/\∀ b,p.blk=some b->¬ F b
theorem Bq(b:Nat):noRows.free b:=fun i p hp=>by cases hp
theorem Eo{m:Mem}:∀ {n:Nat} {d d':D} {r:List Nat},cT P m n d=some (d',r)->afF P F β w m r->∀ {v:Value},R F β w d v->R F noRows w d' v
 |0,_,_,_,h,_,_,_=>by cases h
 |n+1,d,d',r,h,hl,v,hv=>by
  have many:∀ {xs ys:List D} {r':List Nat},jn (cT P m n) xs=some (ys,r')->(∀ i∈r',i∈r)->ys.length=xs.length/\∀ (k:Nat) (d:D) (u:Value),ys[k]? =some d->(∀ d0,xs[k]? =some d0->R F β w d0 u)->R F noRows w d u:=fun h hr=>by
   obtain⟨h1,h2⟩:=GB h;refine⟨h1,fun k d u hd hu=>?_⟩;obtain⟨x,r2,C,J,g3⟩:=h2 k d hd;exact Eo J (fun i hi=>hl i (hr i (g3 i hi))) (hu x C)
  have look:∀ {i:Nat} {cs:List D} {e:TypeId},i∈r->m i=some (.cells cs e)->∃ p,β i=some p/\RowR P F β w (.cells cs e) p/\∀ b,p.blk=some b->¬ F b:=fun hi hm=>hl _ hi _ hm
  have VX:∀ {es ys:List (Value×D)} {r':List Nat} {ms:Array MapEntry},jn (fun x=>(cT P m n x.2).map fun y=>((x.1,y.1),y.2)) es=some (ys,r')->(∀ i∈r',i∈r)->ms.size=es.length->(es.map (·.1)).Nodup->
   (∀ (k:Nat) (x:Value×D) (m:MapEntry),es[k]? =some x->ms[k]? =some m->m.key=x.1/\R F β w x.2 m.val)->
   ms.size=ys.length/\(ys.map (·.1)).Nodup/\(∀ (k:Nat) (x:Value×D) (m:MapEntry),ys[k]? =some x->ms[k]? =some m->m.key=x.1)/\∀ (k:Nat) (x:Value×D) (m:MapEntry),ys[k]? =some x->ms[k]? =some m->R F noRows w x.2 m.val:=fun {es ys r' ms} h hr cE cR X=>by
   obtain⟨h1,h2⟩:=GB h
   have key:∀ (k:Nat) (y:Value×D),ys[k]? =some y->∃ x r2,es[k]? =some x/\y.1=x.1/\cT P m n x.2=some (y.2,r2)/\∀ i∈r2,i∈r':=fun k y hy=>by
    obtain⟨x,r2,C,J,g3⟩:=h2 k y hy;simp only[dw,bQ] at J;obtain⟨z,hz,rfl,rfl⟩:=J;exact⟨x,z.2,C,rfl,hz,g3⟩
   have keys:ys.map (·.1)=es.map (·.1):=by
    refine List.ext_getElem? fun k=>?_;simp only[List.getElem?_map];cases hy:ys[k]? with
    |some y=>
     obtain⟨x,_,C,J,_⟩:=key k y hy;simp[C,J]
    |none=>
     have:es[k]? =none:=by
      rw[List.getElem?_eq_none_iff] at hy ⊢;omega
     simp[this]
   refine⟨by rw[h1];exact cE,by rw[keys];exact cR,fun k y mm hy fW=>?_,fun k y mm hy fW=>?_⟩
   .obtain⟨x,r2,C,J,_⟩:=key k y hy;rw[J];exact(X k x mm C fW).1
   .obtain⟨x,r2,C,_,g3,g4⟩:=key k y hy;exact Eo g3 (fun i hi=>hl i (hr i (g4 i hi))) (X k x mm C fW).2
  cases d with
  |mp i=>
   simp only[cT] at h;split at h
   .rename_i es hm;simp only[dw,bQ] at h;obtain⟨x,hx,rfl,rfl⟩:=h;obtain⟨p,hp,ax,xD⟩:=hl i (List.mem_cons_self ..) _ hm;cases hv with
    |mpd _ _ h1 _=>rw[h1] at hp;cases hp;exact absurd rfl ax.live
    |mp _ b h1=>
     rw[h1] at hp;cases hp;cases ax with
     |map _ _ ms clock C J g3 g4=>
      obtain⟨k1,k2,k3,k4⟩:=VX (ys:=x.1) (r':=x.2) hx (fun i hi=>List.mem_cons_of_mem _ hi) J g3 g4;exact .im x.1 b ms clock (xD b rfl) (Bq b) C k1 k2 k3 k4
   .cases h
  |im es=>
   simp only[cT,dw,bQ] at h;obtain⟨x,hx,rfl,rfl⟩:=h;cases hv with
   |im _ b ms clock hf hb hc J g3 g4 g5=>
    obtain⟨k1,k2,k3,k4⟩:=VX (ys:=x.1) (r':=x.2) hx (fun _ h=>h) J g3 (fun k x m hx hm=>⟨g4 k x m hx hm,g5 k x m hx hm⟩);exact .im x.1 b ms clock hf (Bq b) hc k1 k2 k3 k4
  |rs i off k=>
   simp only[cT] at h;split at h
   .rename_i cs e hm;simp only[dw,bQ] at h;obtain⟨x,hx,rfl,rfl⟩:=h;obtain⟨p,hp,ax,xD⟩:=look (List.mem_cons_self ..) hm;obtain⟨C,J⟩:=many (ys:=x.1) (r':=x.2) hx (fun i hi=>List.mem_cons_of_mem _ hi)
    have nil:(cs.drop off).take (k*P.cellsOf e)=[]->x.1=[]:=fun e=>by
     rw[e] at C;exact List.eq_nil_of_length_eq_zero (by simpa using C)
    cases hv with
    |rsd _ _ _ _ h1 _=>
     rw[h1] at hp;cases hp;exact absurd rfl ax.live
    |rsn _ a h1=>
     rw[h1] at hp;cases hp;cases ax;rw[nil oS];exact .sln a 0
    |rsz _ _ a b o len room sz h1=>
     rw[nil oS];exact .sln a 0
    |rs _ _ _ cap b o len room sz h1 hn fT h2 h3=>
     rw[h1] at hp;cases hp;obtain⟨dK,hl,cE,_⟩:=ax.rd;obtain⟨us,u1,u2⟩:=(dK.drop off).take (k*P.cellsOf e)
     have ao:b<w.heap.size:=by
      cases ax with
      |cells _ _ _ _ _ _ c hb=>exact(Array.getElem?_eq_some_iff.1 hb).1
     exact .sl x.1 k b (o+off) cap us (xD b rfl) (Bq b) ao hn fT (fun j hj=>u1 j (by rw[<- C];exact hj)) fun j d hd=>J j d _ hd fun d0 M=>u2 j d0 M
   .cases h
  |rp i off=>
   simp only[cT] at h;split at h
   .rename_i cs e hm;simp only[dw,bQ] at h;obtain⟨x,hx,rfl,rfl⟩:=h;obtain⟨p,hp,ax,xD⟩:=look (List.mem_cons_self ..) hm;obtain⟨C,J⟩:=many (ys:=x.1) (r':=x.2) hx (fun i hi=>List.mem_cons_of_mem _ hi);cases hv with
    |rpd _ _ _ h1 _=>
     rw[h1] at hp;cases hp;exact absurd rfl ax.live
    |rp _ _ b o len room sz h1=>
     rw[h1] at hp;cases hp;obtain⟨dK,hl,cE,_⟩:=ax.rd;obtain⟨us,u1,u2⟩:=dK.drop off
     have ao:b<w.heap.size:=by
      cases ax with
      |cells _ _ _ _ _ _ c hb=>exact(Array.getElem?_eq_some_iff.1 hb).1
     exact .pt x.1 b (o+off) us (xD b rfl) (Bq b) ao (fun j hj=>u1 j (by rw[<- C];exact hj)) fun j d hd=>J j d _ hd fun d0 M=>u2 j d0 M
   .cases h
  |opt c d=>
   cases hv with
   |opt _ _ _ h1 h2=>
   cases c with
   |true=>
    simp only[cT,dw,bQ] at h;obtain⟨x,hx,rfl,rfl⟩:=h;exact .opt true _ v (fun _=>Eo (r:=x.2) hx hl (h1 rfl)) oS
   |false=>simp only[cT,aV,bQ] at h;obtain⟨rfl,_⟩:=h;exact .opt false _ v oS h2
  |agg cs=>
   simp only[cT,dw,bQ] at h;obtain⟨x,hx,rfl,rfl⟩:=h;obtain⟨vs,rfl,vK,X⟩:=hv.agg_inv;obtain⟨C,J⟩:=many (ys:=x.1) (r':=x.2) hx (fun _ h=>h);exact .agg _ vs (by rw[C];exact vK) fun k d u hd hu=>J k d u hd fun d0 M=>X k d0 u M hu
  |tup cs=>
   simp only[cT,dw,bQ] at h;obtain⟨x,hx,rfl,rfl⟩:=h;obtain⟨vs,rfl,vK,X⟩:=hv.tup_inv;obtain⟨C,J⟩:=many (ys:=x.1) (r':=x.2) hx (fun _ h=>h);exact .tup _ vs (by rw[C];exact vK) fun k d u hd hu=>J k d u hd fun d0 M=>X k d0 u M hu
  |sl cs k=>
   simp only[cT,dw,bQ] at h;obtain⟨x,hx,rfl,rfl⟩:=h;obtain⟨C,J⟩:=many (ys:=x.1) (r':=x.2) hx (fun _ h=>h);cases hv with
   |sln a cap=>
    have:x.1=[]:=List.eq_nil_of_length_eq_zero (by simpa using C);rw[this];exact .sln a cap
   |sl _ _ b o cap us hf hb ao sB fT hc X=>
    exact .sl _ k b o cap us hf (Bq b) ao sB fT (fun j hj=>hc j (by rw[<- C];exact hj)) fun j d hd=>J j d _ hd fun d0 M=>X j d0 M
  |pt cs=>
   simp only[cT,dw,bQ] at h;obtain⟨x,hx,rfl,rfl⟩:=h;obtain⟨C,J⟩:=many (ys:=x.1) (r':=x.2) hx (fun _ h=>h);cases hv with
   |pt _ b o us hf hb ao hc X=>
    exact .pt _ b o us hf (Bq b) ao (fun j hj=>hc j (by rw[<- C];exact hj)) fun j d hd=>J j d _ hd fun d0 M=>X j d0 M
  |fn f fs cs=>
   simp only[cT] at h;cases hx:jn (cT P m n) fs with
   |none=>rw[hx] at h;cases h
   |some x=>
    rw[hx] at h;simp only[dw,bQ] at h;obtain⟨y,hy,rfl,rfl⟩:=h;obtain⟨C,J⟩:=many (ys:=x.1) (r':=x.2) hx (fun _ h=>List.mem_append_left _ h);obtain⟨k1,k2⟩:=many (ys:=y.1) (r':=y.2) hy (fun _ h=>List.mem_append_right _ h);cases hv with
    |fn _ _ _ us vs Nn vK h1 h2=>
     exact .fn f _ _ us vs (by rw[C];exact Nn) (by rw[k1];exact vK) (fun k d u hd hu=>J k d u hd fun d0 M=>h1 k d0 u M hu) fun k d u hd hu=>k2 k d u hd fun d0 M=>h2 k d0 u M hu
  |s v=>simp only[cT,aV,bQ] at h;obtain⟨rfl,_⟩:=h;obtain⟨rfl,h⟩:=hv.s_inv;exact .s _ h
  |ub=>simp only[cT,aV,bQ] at h;obtain⟨rfl,_⟩:=h;obtain⟨b,rfl⟩:=hv.ub_inv;exact .ub b
  |u=>simp only[cT,aV,bQ] at h;obtain⟨rfl,_⟩:=h;exact .u v
  |z=>simp only[cT,aV,bQ] at h;obtain⟨rfl,_⟩:=h;obtain⟨a,rfl⟩:=hv.z_inv;exact .z a
end
section
variable(P:Program)
def yO(env:Env)(o:Op):Bool:=match o with
 | .pick c _ _=>decide (opd env c).ask
 |o=>o.operands.toList.all fun x=>decide (opd env x).ask
theorem JF{env:Env}{o:Op}(h:yO env o=true):asks env o:=by
 unfold yO at h;unfold asks;cases o<;>first|exact of_decide_eq_true h|exact fun x hx=>of_decide_eq_true (bj.1 h x hx)
abbrev u9:=FuncId->List D->Bool->T Row->Nat->Option (D×T Row×Nat×List Nat×List Nat)
def Hg(call:u9)(f:FuncId)(args:List D)(dr:Bool)(o:Oper)(c:cB):Option (cB×List Nat×List Nat):=
 bif yO (dO c.env) o.op then match call f args dr c.mem c.nx with
  |some (r,m,nx,rd,wr)=>match Cq c.env o.dst r with
   |some env=>some (⟨env,m,nx⟩,rd,wr)
   |none=>none
  |none=>none
 else none
def H6(e:fU)(o:Oper)(c:cB):Option (cB×List Nat×List Nat):=
 bif yO (dO c.env) o.op then match e.dec with
  |isTrue _=>match EV c.mem e.ups with
   |some m=>match Cq c.env o.dst e.val with
    |some env=>some (⟨env,m,c.nx+e.new⟩,e.rd,e.ups.map (·.1))
    |none=>none
   |none=>none
  |isFalse _=>none
 else none
def yP(o:Oper)(d:D)(rd:List Nat)(c:cB):Option (cB×List Nat×List Nat):=match Cq c.env o.dst d with
 |some env=>some (⟨env,c.mem,c.nx⟩,rd,[])
 |none=>none
def Nx(call:u9)(ops:Array Oper)(dr:Bool)(o:Oper)(c:cB):Option (cB×List Nat×List Nat):=
 match o.guard with
 |none=>match callD (rho (dO c.env) o.op) o.op with
  |some (f,args)=>Hg call f args dr o c
  |none=>match yieldD (rho (dO c.env) o.op) o.op with
   |some _=>none
   |none=>match ko P o.op (rho (dO c.env) o.op) (fD c.mem) c.nx with
    |some e=>H6 e o c
    |none=>none
 |some (j,b)=>match ((ops[j]?).bind (·.dst)).bind fun t=>guardC (dO c.env t) b with
  |none=>none
  |some g=>match callD (rho (dO c.env) o.op) o.op with
   |some (f,args)=>bif g then Hg call f args dr o c else yP o skipD [] c
   |none=>match yieldD (rho (dO c.env) o.op) o.op with
    |some _=>bif g then none else yP o skipD [] c
    |none=>match ko P o.op (rho (dO c.env) o.op) (fD c.mem) c.nx with
     |some e=>bif e.ups.isEmpty&&Nat.beq e.new 0 then
      bif g then bif yO (dO c.env) o.op then match e.dec with
       |isTrue _=>yP o (.opt true e.val) e.rd c
       |isFalse _=>none
      else none
      else yP o (.opt false e.val) e.rd c
      else bif g then H6 e o c else yP o skipD [] c
     |none=>bif g then none else yP o skipD [] c
def Cr(call:u9)(ops:Array Oper)(dr:Bool):List Oper->cB->Tra->Option (cB×Tra)
 |[],c,tr=>some (c,tr)
 |o::os,c,tr=>match Nx P call ops dr o c with
  |some (c',rd,wr)=>Cr call ops dr os c' (tr++[(rd,wr)])
  |none=>none
def Hy(tr:Tra)(i j:Nat):Bool:=
 let a:=tr.getD i ([],[])
 let b:=tr.getD j ([],[])
 (a.2.all fun x=> !(b.1.any (Nat.beq x))&& !(b.2.any (Nat.beq x)))&&b.2.all fun x=> !(a.1.any (Nat.beq x))
theorem abS{tr:Tra}{i j:Nat}(h:Hy tr i j=true):apartT tr i j:=by
 unfold Hy at h;simp only[aO,bj,Bool.not_eq_true',List.any_eq_false,Nat.beq_eq] at h;obtain⟨h1,h2⟩:=h;exact⟨fun x hx=>⟨fun hb=>(h1 x hx).1 x hb rfl,fun hb=>(h1 x hx).2 x hb rfl⟩,fun x hx ha=>h2 x hx x ha rfl⟩
def KJ(call:u9)(ops:Array Oper)(dr:Bool)(c:cB):Option cB:=
 bif dr then match drawInfo ops with
  |some cf=>match Cr P call ops true ops.toList c [] with
   |some (c',tr)=>bif cf.all fun q=>Hy tr q.1 q.2 then some c' else none
   |none=>none
  |none=>none
 else match Cr P call ops false ops.toList c [] with
  |some (c',_)=>some c'
  |none=>none
def Ep(call:u9):Prop:=∀ f args dr m nx r m' nx' rd wr,call f args dr m nx=some (r,m',nx',rd,wr)->∀ env (K:D->Mem->Nat->List Nat->List Nat->Prop),K r (fD m') nx' rd wr->CallOp P dr ⟨env,fD m,nx⟩ f args K
end
section
variable{P:Program}
theorem Pz{call:u9}(hc:Ep P call){f:FuncId}{args:List D}{dr:Bool}{o:Oper}{c:cB}{C:cB}{rd wr:List Nat}(h:Hg call f args dr o c=some (C,rd,wr)){K:St->List Nat->List Nat->Prop}(J:K C.st rd wr):
 asks c.st.env o.op/\CallOp P dr c.st f args fun r m nx rd wr=>K (St.put ⟨c.st.env,m,nx⟩ o.dst r) rd wr:=by
 unfold Hg at h;cases ha:yO (dO c.env) o.op with
 |false=>rw[ha] at h;cases h
 |true=>
  rw[ha] at h;simp only[cond_true] at h;refine⟨JF ha,?_⟩;split at h
  .rename_i r m nx Ny wr' M;split at h
   .rename_i env X;simp only[aV,bQ] at h;obtain⟨rfl,rfl,rfl⟩:=h;refine hc _ _ _ _ _ _ _ _ _ _ M _ _ ?_;have:=KI X (fD m) nx;simp only[cB.st] at J ⊢;rw[<- this];exact J
   .cases h
  .cases h
theorem Bv{o:Oper}{d:D}{rd C wr:List Nat}{c J:cB}(h:yP o d rd c=some (J,C,wr)):J.st=St.put c.st o.dst d/\C=rd/\wr=[]:=by
 unfold yP at h;split at h
 .rename_i env M;simp only[aV,bQ] at h;obtain⟨rfl,rfl,rfl⟩:=h;exact⟨KI M (fD c.mem) c.nx,rfl,rfl⟩
 .cases h
theorem QR{e:fU}{o:Oper}{c C:cB}{rd wr:List Nat}(h:H6 e o c=some (C,rd,wr)){K:St->List Nat->List Nat->Prop}(J:K C.st rd wr):
 asks c.st.env o.op/\e.pre/\K (St.put ⟨c.st.env,upds c.st.mem e.ups,c.st.nx+e.new⟩ o.dst e.val) e.rd (e.ups.map (·.1)):=by
 unfold H6 at h;cases ha:yO (dO c.env) o.op with
 |false=>rw[ha] at h;cases h
 |true=>
  rw[ha] at h;simp only[cond_true] at h;refine⟨JF ha,?_⟩;split at h
  .rename_i hp _;refine⟨hp,?_⟩;split at h
   .rename_i m hm;split at h
    .rename_i env M;simp only[aV,bQ] at h;obtain⟨rfl,rfl,rfl⟩:=h;have:=KI M (fD m) (c.nx+e.new);simp only[cB.st] at J ⊢;rw[<- QQ hm, <- this];exact J
    .cases h
   .cases h
  .cases h
theorem PU{o:Op}{ρ:Operand->D}{m:Mem}{nx:Nat}{e:fU}(h:ko P o ρ m nx=some e):aop P o ρ m nx=some e.js:=by rw[RF,h];rfl
theorem aas{o:Op}{ρ:Operand->D}{m:Mem}{nx:Nat}(h:ko P o ρ m nx=none):aop P o ρ m nx=none:=by rw[RF,h];rfl
theorem aeD{call:u9}(pY:Ep P call){ops:Array Oper}{dr:Bool}{o:Oper}{c c':cB}{rd wr:List Nat}(h:Nx P call ops dr o c=some (c',rd,wr)){K:St->List Nat->List Nat->Prop}(C:K c'.st rd wr):
 AOp P noY ops dr o c.st K:=by
 unfold Nx at h;unfold AOp;split at h
 .rename_i hg;simp only[hg];split at h
  .rename_i f args hc;obtain⟨h1,h2⟩:=Pz pY h C;refine⟨h1,?_⟩;simp only[cB.st] at h2 ⊢;rw[hc];exact h2
  .rename_i hc;split at h
   .cases h
   .rename_i hy;split at h
    .rename_i e he;obtain⟨h1,h2,h3⟩:=QR h C;refine⟨h1,?_⟩;have:=PU he;simp only[cB.st] at h2 h3 ⊢;rw[hc];simp only;rw[hy];simp only;rw[this];exact⟨h2,h3⟩
    .cases h
 .rename_i j b hg;simp only[hg];split at h
  .cases h
  .rename_i g hgc;have X:(((ops[j]?).bind (·.dst)).bind fun t=>guardC (c.st.env t) b)=some g:=hgc;rw[X];simp only;split at h
   .rename_i f args hc;have M:callD (rho c.st.env o.op) o.op=some (f,args):=hc;rw[M];simp only;cases g with
    |true=>
     simp only[cond_true] at h;exact .inr ⟨fun _=>Pz pY h C,oS⟩
    |false=>
     simp only[cond_false] at h;obtain⟨h1,rfl,rfl⟩:=Bv h;exact .inr ⟨oS,fun _=>h1▸C⟩
   .rename_i hc;have M:callD (rho c.st.env o.op) o.op=none:=hc;rw[M];simp only;split at h
    .rename_i y hy;have zu:yieldD (rho c.st.env o.op) o.op=some y:=hy;rw[zu];obtain⟨l,args⟩:=y;cases g with
     |true=>simp at h
     |false=>
      simp only[cond_false] at h;obtain⟨h1,rfl,rfl⟩:=Bv h;exact⟨oS,fun _=>h1▸C⟩
    .rename_i hy;have zu:yieldD (rho c.st.env o.op) o.op=none:=hy;rw[zu];simp only;split at h
     .rename_i e he;have fE:aop P o.op (rho c.st.env o.op) c.st.mem c.st.nx=some e.js:=PU he;rw[fE];cases J:(e.ups.isEmpty&&Nat.beq e.new 0) with
      |true=>
       have hb:(e.js.ups.isEmpty&&e.js.new==0)=true:=by
        have:∀ a:Nat,(a==0)=Nat.beq a 0:=fun a=>by cases a<;>rfl
        simp only[fU.js,this];exact J
       simp only[hb,if_true];rw[J] at h;simp only[cond_true] at h;cases g with
       |true=>
        simp only[cond_true] at h;cases ha:yO (dO c.env) o.op with
        |false=>rw[ha] at h;cases h
        |true=>
         rw[ha] at h;simp only[cond_true] at h;split at h
         .rename_i hp _;obtain⟨h1,rfl,rfl⟩:=Bv h;exact⟨fun _=>⟨JF ha,hp⟩,h1▸C⟩
         .cases h
       |false=>
        simp only[cond_false] at h;obtain⟨h1,rfl,rfl⟩:=Bv h;exact⟨oS,h1▸C⟩
      |false=>
       have hb:(e.js.ups.isEmpty&&e.js.new==0)=false:=by
        have:∀ a:Nat,(a==0)=Nat.beq a 0:=fun a=>by cases a<;>rfl
        simp only[fU.js,this];exact J
       simp only[hb,Bool.false_eq_true,if_false];rw[J] at h;simp only[cond_false] at h;cases g with
       |true=>
        simp only[cond_true] at h;exact⟨fun _=>QR h C,oS⟩
       |false=>
        simp only[cond_false] at h;obtain⟨h1,rfl,rfl⟩:=Bv h;exact⟨oS,fun _=>h1▸C⟩
     .rename_i he;have fE:aop P o.op (rho c.st.env o.op) c.st.mem c.st.nx=none:=aas he;rw[fE];simp only;cases g with
      |true=>simp at h
      |false=>
       simp only[cond_false] at h;obtain⟨h1,rfl,rfl⟩:=Bv h;exact⟨rfl,h1▸C⟩
theorem Kd{call:u9}(X:Ep P call){ops:Array Oper}{dr:Bool}{cf:List (Nat×Nat)}{Q:Exit->St->Prop}:∀ (M:List Oper) (c C:cB) (tr J:Tra),Cr P call ops dr M c tr=some (C,J)->(∀ q∈cf,apartT J q.1 q.2)->Q .normal C.st->
 AOps P noY ops dr cf Q M c.st tr
 |[],c,C,tr,J,h,rA,hQ=>by
  simp only[Cr,aV,bQ] at h;obtain⟨rfl,rfl⟩:=h;exact⟨rA,hQ⟩
 |o::M,c,C,tr,J,h,rA,hQ=>by
  simp only[Cr] at h;split at h
  .rename_i c1 rd wr h1;exact aeD X h1 (Kd X M c1 C _ J h rA hQ)
  .cases h
theorem ZE{call:u9}(X:Ep P call){ops:Array Oper}{dr:Bool}{c J:cB}(h:KJ P call ops dr c=some J){id:Nat}{rf:Bool}{Q:Exit->St->Prop}(M:Q .normal J.st):AW P noY rf (.region id ops dr) Q c.st:=by
 unfold KJ at h;cases dr with
 |true=>
  simp only[cond_true] at h;split at h
  .rename_i cf rA;split at h
   .rename_i c1 tr h1;cases C:cf.all fun q=>Hy tr q.1 q.2 with
    |false=>rw[C] at h;cases h
    |true=>
     rw[C] at h;simp only[cond_true,aV] at h;subst h
     show match drawInfo ops with
      |some cf=>AOps P noY ops true cf Q ops.toList c.st []
      |none=>False
     rw[rA];exact Kd X _ _ _ _ _ h1 (fun q hq=>abS (bj.1 C q hq)) M
   .cases h
  .cases h
 |false=>
  simp only[cond_false] at h;split at h
  .rename_i c1 tr h1;simp only[aV] at h;subst h;exact Kd (cf:=[]) X _ _ _ _ _ h1 oS M
  .cases h
end
structure Ctx where
 IM:FuncId->Option (Func×Code)
 iter:FuncId->List D->List D->Option (List (List D))
 known:FuncId->List D->Option D
structure Ctx.Ok(P:Program)(x:Ctx):Prop where
 mix:P.follows .mixedOrders=true
 IM:∀ f fn c,x.IM f=some (fn,c)->m7 P f fn c
 iter:∀ f fs cs xs,x.iter f fs cs=some xs->SeqA P f fs cs xs/\∀ y∈xs,∀ d∈y,Tr d
 known:∀ f args r,x.known f args=some r->PCall P f args r
def yH:Nat->List D->T D->Option (T D)
 |_,[],t=>some t
 |k,d::ds,t=>match t.put k (some d) with
  |some C=>yH (k+1) ds C
  |none=>none
theorem PA:∀ {ds:List D} {k:Nat} {t C:T D},yH k ds t=some C->∀ j,dO C j=if k<=j/\j<k+ds.length then ds.getD (j - k) .u else dO t j
 |[],k,t,C,h,j=>by
  simp only[yH,aV] at h;subst h;rw[if_neg oS]
 |d::ds,k,t,C,h,j=>by
  simp only[yH] at h;split at h
  .rename_i J h1;rw[PA h j,Kc h1];by_cases hj:j=k
   .subst hj;rw[if_neg oG,up_same,if_pos oS];simp
   .rw[up_ne _ _ hj];by_cases ao:k+1<=j/\j<k+1+ds.length
    .rw[if_pos ao,if_pos oP];have:j - k=(j - (k+1))+1:=by omega
     rw[this];simp
    .rw[if_neg ao,if_neg oP]
  .cases h
theorem PB{args:List D}{t:T D}(h:yH 0 args .leaf=some t):dO t=envOf args:=by
 funext j;rw[PA h j];unfold envOf;split
 .simp
 .rename_i hj;have:args.length<=j:=by omega
  simp[dO,T.get,this]
def BF:T D->List Tmp->List D->Option (T D)
 |t,p::ps,d::ds=>match t.put p (some d) with
  |some C=>BF C ps ds
  |none=>none
 |t,_,_=>some t
theorem Pk:∀ {ps:List Tmp} {ds:List D} {t C:T D},BF t ps ds=some C->dO C=setAll (dO t) ps ds
 |[],ds,t,C,h=>by simp only[BF,aV] at h;subst h;rfl
 |_::_,[],t,C,h=>by simp only[BF,aV] at h;subst h;rfl
 |p::ps,d::ds,t,C,h=>by
  simp only[BF] at h;split at h
  .rename_i J h1;rw[Pk h,Kc h1];rfl
  .cases h
section
variable(P:Program)
def Mx(c:cB):ResultVar->Option D
 | .tmp t=>some (dO c.env t)
 | .cell a t=>match dO c.env a with
  | .rp i off=>match c.mem.get i with
   |some (.cells cs _)=>bif tyOk P t&&Nat.ble (off+P.cellsOf t) cs.length then some (takeV P t (cs.drop off)) else none
   |_=>none
  | .pt cs=>bif tyOk P t&&Nat.ble (P.cellsOf t) cs.length then some (takeV P t cs) else none
  |_=>none
def Cs(c:cB):List ResultVar->Option (List D)
 |[]=>some []
 |r::rs=>match Mx P c r with
  |some d=>match Cs c rs with
   |some ds=>some (d::ds)
   |none=>none
  |none=>none
def EW(x:Ctx)(C:Bool->Code->cB->Option (Exit×cB))(f:FuncId)(args:List D)(m:T Row)(nx:Nat):Option (D×T Row×Nat):=
 match x.IM f with
 |none=>none
 |some (fn,c)=>bif Nat.ble args.length fn.ntmps then
  match yH 0 args .leaf with
  |none=>none
  |some t=>match C true c ⟨t,m,nx⟩ with
   |some (.normal,s)=>match Cs P s fn.results.toList with
    |some ds=>some (one1 ds,s.mem,s.nx)
    |none=>none
   |some (.ret,s)=>match Cs P s fn.results.toList with
    |some ds=>some (one1 ds,s.mem,s.nx)
    |none=>none
   |_=>none
  else none
def depth:Nat:=12
def B'(x:Ctx)(C:Bool->Code->cB->Option (Exit×cB))(f:FuncId)(args:List D):Option (D ⊕ (List D×Nat×TypeId)):=
 match EW P x C f args .leaf 0 with
 |none=>none
 |some (d,m,_)=>match d with
  | .rs i 0 k=>match m.get i with
   |some (.cells es t)=>bif es.all (rD depth) then some (.inr (es,k,t)) else match cT P (fD m) depth (.rs i 0 k) with
    |some (r,_)=>some (.inl r)
    |none=>none
   |_=>none
  |d=>match cT P (fD m) depth d with
   |some (r,_)=>some (.inl r)
   |none=>none
def LS(x:Ctx)(C:Bool->Code->cB->Option (Exit×cB)):u9:=fun f args dr m nx=>
 match x.known f args with
 |some r=>some (r,m,nx,[],[])
 |none=>bif args.all (rD depth) then match B' P x C f args with
  |some (.inl r)=>some (r,m,nx,[],[])
  |some (.inr (es,k,t))=>match m.put nx (some (.cells es t)) with
   |some m'=>some (.rs nx 0 k,m',nx+1,[],[nx])
   |none=>none
  |none=>none
  else bif dr then match jn (cT P (fD m) depth) args with
   |none=>none
   |some (args',rds)=>match x.known f args' with
    |some r=>bif r.scal then some (r,m,nx,rds,[]) else none
    |none=>match B' P x C f args' with
     |some (.inl r)=>bif r.scal then some (r,m,nx,rds,[]) else none
     |_=>none
  else match EW P x C f args m nx with
   |some (d,m',nx')=>some (d,m',nx',[],[])
   |none=>none
def DO(C:Bool->Code->cB->Option (Exit×cB))(env:T D)(ps:List Tmp)(assign body:Code):List (List D)->T Row->Nat->Option (Exit×T Row×Nat)
 |[],m,nx=>some (.normal,m,nx)
 |y::ys,m,nx=>match BF env ps y with
  |none=>none
  |some t=>match C false assign ⟨t,m,nx⟩ with
   |some (.normal,s)=>match C false body s with
    |some (.normal,s')=>DO C env ps assign body ys s'.mem s'.nx
    |some (.ret,s')=>some (.ret,s'.mem,s'.nx)
    |some (.exit i,s')=>some (.exit i,s'.mem,s'.nx)
    |_=>none
   |_=>none
def sk(x:Ctx)(C:Bool->Code->cB->Option (Exit×cB))(rf:Bool)(c:Code)(s:cB):Option (Exit×cB):=match c with
 | .skip=>some (.normal,s)
 | .region _ ops dr=>match KJ P (LS P x C) ops dr s with
  |some s'=>some (.normal,s')
  |none=>none
 | .seq a b=>match C rf a s with
  |some (.normal,s')=>C rf b s'
  |r=>r
 | .cond c a b=>bif decide (opd (dO s.env) c).ask then match (opd (dO s.env) c).core with
   | .s (.bool t)=>bif t then C rf a s else C rf b s
   |_=>none
  else none
 | .block id b=>match C rf b s with
  |some (.exit i,s')=>bif Nat.beq i id then some (.normal,s') else some (.exit i,s')
  |r=>r
 | .scope b=>match C rf b s with
  |some (.goto _,_)=>none
  |r=>r
 | .loop b=>match C rf b s with
  |some (.normal,s')=>C rf (.loop b) s'
  |r=>r
 | .rangeFunc g ps assign body=>bif rf&&decide (opd (dO s.env) g).ask then match (opd (dO s.env) g).core with
   | .fn (.func f) fs cs=>match x.iter f fs cs with
    |some ys=>bif ys.all fun y=>Nat.beq y.length ps.size then match DO C s.env ps.toList assign body ys s.mem s.nx with
     |some (e,m,nx)=>some (e,⟨s.env,m,nx⟩)
     |none=>none
     else none
    |none=>none
   |_=>none
  else none
 | .exit id=>some (.exit id,s)
 | .label _=>some (.normal,s)
 | .ret=>some (.ret,s)
 |_=>none
def AX(x:Ctx):Nat->Bool->Code->cB->Option (Exit×cB)
 |0=>fun _ _ _=>none
 |n+1=>sk P x (AX x n)
end
section
variable{P:Program}{x:Ctx}
theorem Lf{c:cB}{K:List D->Prop}:∀ {rs:List ResultVar} {ds C:List D},Cs P c rs=some ds->K (C++ds)->retL P c.st rs C K
 |[],ds,C,h,hK=>by
  simp only[Cs,aV] at h;subst h;simpa[retL] using hK
 |r::rs,ds,C,h,hK=>by
  simp only[Cs] at h;split at h
  .rename_i d hd;split at h
   .rename_i zl M;simp only[aV] at h;subst h
    have J:∃ p,resD P c.st r=some (p,d)/\p:=by
     cases r with
     |tmp t=>
      simp only[Mx,aV] at hd;exact⟨True,by simp only[resD,cB.st,hd],trivial⟩
     |cell a t=>
      simp only[Mx] at hd;simp only[resD,cB.st];split at hd
      .rename_i i off ha;rw[ha];simp only;split at hd
       .rename_i cs e hm;have X:fD c.mem i=some (.cells cs e):=hm;rw[X];simp only;cases hb:(tyOk P t&&Nat.ble (off+P.cellsOf t) cs.length) with
        |false=>rw[hb] at hd;cases hd
        |true=>
         rw[hb] at hd;simp only[cond_true,aV] at hd;simp only[aO,Nat.ble_eq] at hb;exact⟨_,by rw[hd],hb⟩
       .cases hd
      .rename_i cs ha;rw[ha];simp only;cases hb:(tyOk P t&&Nat.ble (P.cellsOf t) cs.length) with
       |false=>rw[hb] at hd;cases hd
       |true=>
        rw[hb] at hd;simp only[cond_true,aV] at hd;simp only[aO,Nat.ble_eq] at hb;exact⟨_,by rw[hd],hb⟩
      .cases hd
    obtain⟨p,h1,h2⟩:=J;simp only[retL,h1];exact⟨h2,Lf M (by simpa using hK)⟩
   .cases h
  .cases h
def Ct(P:Program)(C:Bool->Code->cB->Option (Exit×cB)):Prop:=∀ rf c s e s',C rf c s=some (e,s')->∀ Q:Exit->St->Prop,Q e s'.st->AW P noY rf c Q s.st
theorem RH(hx:x.Ok P){M:Bool->Code->cB->Option (Exit×cB)}(kC:Ct P M){f:FuncId}{args:List D}{m m':T Row}{nx nx':Nat}{d:D}(h:EW P x M f args m nx=some (d,m',nx')):
 ∃ fn c,m7 P f fn c/\Nat.ble args.length fn.ntmps=true/\∀ K:D->St->Prop,(∀ env,K d ⟨env,fD m',nx'⟩)->AW P noY true c (retQ P fn.results.toList K) ⟨envOf args,fD m,nx⟩:=by
 unfold EW at h;split at h
 .cases h
 .rename_i fn c C;cases hb:Nat.ble args.length fn.ntmps with
  |false=>rw[hb] at h;cases h
  |true=>
   rw[hb] at h;simp only[cond_true] at h;split at h
   .cases h
   .rename_i t ht;refine⟨fn,c,hx.IM f fn c C,hb,fun K X=>?_⟩;rw[<- PB ht];split at h
    .rename_i s hs;split at h
     .rename_i ds J;simp only[aV,bQ] at h;obtain⟨rfl,rfl,rfl⟩:=h;exact kC _ _ _ _ _ hs _ (Lf (K:=fun ds=>K (one1 ds) s.st) J (X _))
     .cases h
    .rename_i s hs;split at h
     .rename_i ds J;simp only[aV,bQ] at h;obtain⟨rfl,rfl,rfl⟩:=h;exact kC _ _ _ _ _ hs _ (Lf (K:=fun ds=>K (one1 ds) s.st) J (X _))
     .cases h
    .cases h
theorem aat:fD .leaf=fun _=>none:=rfl
theorem ZF(J:P.follows .mixedOrders=true){fn:Func}{f:FuncId}{c:Code}(hf:m7 P f fn c){args:List D}(hn:Nat.ble args.length fn.ntmps=true)(ht:∀ a∈args,Tr a){d r:D}{m:Mem}{n:Nat}{rds:List Nat}(hd:cT P m n d=some (r,rds))
 (h:AW P noY true c (retQ P fn.results.toList fun d' st=>d'=d/\st.mem=m) ⟨envOf args,fun _=>none,0⟩):PCall P f args r:=
 ⟨hf.he,ht,fun F w vs hF hR=>(BA J hf.hf hf.hb hf.ao hn h (fun _ _ _ _ _ h=>h.elim) (Gz hF) (fun _ _=>rfl) hR).mono fun e w' hp=>by
  obtain⟨v,d',st',β',h1,⟨rfl,rfl⟩,h3,h4,h5,C,M,h8⟩:=hp
  exact⟨v,h1,Eo hd (fun i _ r hr=>by
   obtain⟨p,hp,ax⟩:=h4.row i r hr
   exact⟨p,hp,ax,fun b hb=>h4.nf i p b hp hb⟩) h3,Gl C⟩⟩
theorem JG(hx:x.Ok P){J:Bool->Code->cB->Option (Exit×cB)}(kC:Ct P J){f:FuncId}{args:List D}(ht:∀ a∈args,Tr a):
 (∀ r,B' P x J f args=some (.inl r)->PCall P f args r)/\∀ es k t,B' P x J f args=some (.inr (es,k,t))->OCall P f args es k t:=by
 unfold B';cases X:EW P x J f args .leaf 0 with
 |none=>exact⟨fun r h=>oH,fun es k t h=>oH⟩
 |some q=>
  obtain⟨d,m,nx⟩:=q;obtain⟨fn,c,hf,hn,C⟩:=RH hx kC X
  have deep:∀ d r rds,d=d->cT P (fD m) depth d=some (r,rds)->(∀ K:D->St->Prop,(∀ env,K d ⟨env,fD m,nx⟩)->AW P noY true c (retQ P fn.results.toList K) ⟨envOf args,fD .leaf,0⟩)->PCall P f args r:=fun d r rds _ hd C=>
   ZF hx.mix hf hn ht hd (C _ fun env=>⟨rfl,rfl⟩)
  simp only;split
  .rename_i i k;split
   .rename_i es t hm;cases M:es.all (rD depth) with
    |true=>
     simp only[cond_true];refine⟨fun r h=>(by simp at h),fun es' k' t' h=>?_⟩;simp only[aV,Sum.inr.injEq,bQ] at h;obtain⟨rfl,rfl,rfl⟩:=h;exact QO hx.mix hf hn ht (fun a ha=>qO (bj.1 M a ha)) (C _ fun env=>⟨i,rfl,hm⟩)
    |false=>
     simp only[cond_false];split
     .rename_i r rds hd;exact⟨fun r' h=>(by simp only[aV,Sum.inl.injEq] at h;subst h;exact deep _ _ _ rfl hd C),fun es k t h=>(by simp at h)⟩
     .exact⟨fun r h=>oH,fun es k t h=>oH⟩
   .exact⟨fun r h=>oH,fun es k t h=>oH⟩
  .split
   .rename_i r rds hd;exact⟨fun r' h=>(by simp only[aV,Sum.inl.injEq] at h;subst h;exact deep _ _ _ rfl hd C),fun es k t h=>(by simp at h)⟩
   .exact⟨fun r h=>oH,fun es k t h=>oH⟩
theorem Pm{m:Mem}{n:Nat}{rds:List Nat}:∀ {aS bs:List D} {r:List Nat},jn (cT P m n) aS=some (bs,r)->(∀ i∈r,i∈rds)->Sns P rds m aS bs
 |[],bs,r,h,_=>by
  simp only[jn,aV,bQ] at h;obtain⟨rfl,_⟩:=h;trivial
 |a::aS,bs,r,h,hr=>by
  simp only[jn] at h;split at h
  .cases h
  .rename_i y hy;split at h
   .cases h
   .rename_i ys C;simp only[aV,bQ] at h;obtain⟨rfl,rfl⟩:=h;exact⟨fun F β w v hl hv=>Eo (r:=y.2) hy (fun i hi=>hl i (hr i (List.mem_append_left _ hi))) hv,Pm (r:=ys.2) C fun i hi=>hr i (List.mem_append_right _ hi)⟩
theorem abT(hx:x.Ok P){ev:Bool->Code->cB->Option (Exit×cB)}(M:Ct P ev):Ep P (LS P x ev):=by
 intro f args dr m nx r m' nx' rd wr h env K C;unfold LS at h;split at h
 .rename_i r' hk;simp only[aV,bQ] at h;obtain⟨rfl,rfl,rfl,rfl,rfl⟩:=h;exact .inl ⟨_,hx.known _ _ _ hk,C⟩
 .cases J:args.all (rD depth) with
  |true=>
   rw[J] at h;simp only[cond_true] at h;obtain⟨h1,h2⟩:=JG hx M (f:=f) (args:=args) fun a ha=>qO (bj.1 J a ha);split at h
   .rename_i r' hp;simp only[aV,bQ] at h;obtain⟨rfl,rfl,rfl,rfl,rfl⟩:=h;exact .inl ⟨_,h1 _ hp,C⟩
   .rename_i es k t hp;split at h
    .rename_i m1 hm;simp only[aV,bQ] at h;obtain⟨rfl,rfl,rfl,rfl,rfl⟩:=h;rw[QP hm] at C;exact .inr (.inr (.inl ⟨es,k,t,h2 _ _ _ hp,C⟩))
    .cases h
   .cases h
  |false=>
   rw[J] at h;simp only[cond_false] at h;cases dr with
   |true=>
    simp only[cond_true] at h;split at h
    .cases h
    .rename_i args' rds X;have a7:∀ a∈args',Tr a:=td X fun x y r' h=>Hf h;have pb:Sns P rds (fD m) args args':=Pm X fun _ h=>h;split at h
     .rename_i r' hk;cases hs:r'.scal with
      |false=>rw[hs] at h;cases h
      |true=>
       rw[hs] at h;simp only[cond_true,aV,bQ] at h;obtain⟨rfl,rfl,rfl,rfl,rfl⟩:=h;exact .inr (.inl ⟨args',_,_,pb,hx.known _ _ _ hk,hs,C⟩)
     .split at h
      .rename_i r' hp;cases hs:r'.scal with
       |false=>rw[hs] at h;cases h
       |true=>
        rw[hs] at h;simp only[cond_true,aV,bQ] at h;obtain⟨rfl,rfl,rfl,rfl,rfl⟩:=h;exact .inr (.inl ⟨args',_,_,pb,(JG hx M a7).1 _ hp,hs,C⟩)
      .cases h
   |false=>
    simp only[cond_false] at h;split at h
    .rename_i d m1 XL gJ;simp only[aV,bQ] at h;obtain⟨rfl,rfl,rfl,rfl,rfl⟩:=h;obtain⟨fn,c,hf,hn,AY⟩:=RH hx M gJ;exact .inr (.inr (.inr (.inl ⟨rfl,QN hx.mix hf hn (AY (fun d st=>K d st.mem st.nx [] []) fun env=>C)⟩)))
    .cases h
theorem PC{ev:Bool->Code->cB->Option (Exit×cB)}(J:Ct P ev){env:T D}{ps:List Tmp}{assign body:Code}{Q:Exit->St->Prop}:∀ {ys:List (List D)} {m m':T Row} {nx nx':Nat} {e:Exit},DO ev env ps assign body ys m nx=some (e,m',nx')->
 Q e ⟨dO env,fD m',nx'⟩->∃ I:Nat->Mem->Nat->Prop,I 0 (fD m) nx/\
  (∀ k m nx y,ys[k]? =some y->I k m nx->AW P noY false assign (assignQ fun s=>AW P noY false body (roundQ (dO env) (I (k+1)) Q) s) ⟨setAll (dO env) ps y,m,nx⟩)/\
  ∀ m nx,I ys.length m nx->Q .normal ⟨dO env,m,nx⟩
 |[],m,m',nx,nx',e,h,hQ=>by
  simp only[DO,aV,bQ] at h;obtain⟨rfl,rfl,rfl⟩:=h;exact⟨fun _ a b=>a=fD m/\b=nx,⟨rfl,rfl⟩,fun k _ _ y hy=>by simp at hy,fun a b h=>by obtain⟨rfl,rfl⟩:=h;exact hQ⟩
 |y::ys,m,m',nx,nx',e,h,hQ=>by
  simp only[DO] at h;split at h
  .cases h
  .rename_i t ht;have wY:=Pk ht;split at h
   .rename_i s hs
    have done:∀ (I:Nat->Mem->Nat->Prop),AW P noY false body (roundQ (dO env) (I 0) Q) s.st->
     (∀ k m nx y,ys[k]? =some y->I k m nx->AW P noY false assign (assignQ fun s=>AW P noY false body (roundQ (dO env) (I (k+1)) Q) s) ⟨setAll (dO env) ps y,m,nx⟩)->
     (∀ m nx,I ys.length m nx->Q .normal ⟨dO env,m,nx⟩)->
     ∃ I:Nat->Mem->Nat->Prop,I 0 (fD m) nx/\
      (∀ k m nx z,(y::ys)[k]? =some z->I k m nx->AW P noY false assign (assignQ fun s=>AW P noY false body (roundQ (dO env) (I (k+1)) Q) s) ⟨setAll (dO env) ps z,m,nx⟩)/\
      ∀ m nx,I (y::ys).length m nx->Q .normal ⟨dO env,m,nx⟩:=fun I h1 h2 h3=>by
     refine⟨fun k a b=>match k with|0=>a=fD m/\b=nx|k+1=>I k a b,⟨rfl,rfl⟩,fun k a b z X M=>?_,fun a b M=>h3 a b M⟩;cases k with
     |zero=>
      obtain⟨rfl,rfl⟩:=M;simp only[List.getElem?_cons_zero,aV] at X;subst X;rw[<- wY];exact J _ _ _ _ _ hs _ h1
     |succ k=>exact h2 k a b z (by simpa using X) M
    split at h
    .rename_i s' C;obtain⟨I,g1,g2,g3⟩:=PC J h hQ;exact done I (J _ _ _ _ _ C _ g1) g2 g3
    .rename_i s' C;simp only[aV,bQ] at h;obtain⟨rfl,rfl,rfl⟩:=h;exact done (fun _ _ _=>False) (J _ _ _ _ _ C _ hQ) (fun _ _ _ _ _ h=>h.elim) fun _ _ h=>h.elim
    .rename_i i s' C;simp only[aV,bQ] at h;obtain⟨rfl,rfl,rfl⟩:=h;exact done (fun _ _ _=>False) (J _ _ _ _ _ C _ hQ) (fun _ _ _ _ _ h=>h.elim) fun _ _ h=>h.elim
    .cases h
   .cases h
theorem Te(hx:x.Ok P):∀ n,Ct P (AX P x n):=by
 intro n
 induction n using Nat.strongRecOn with
 |_ n ih=>
  cases n with
  |zero=>intro rf c s e s' h;cases h
  |succ n=>
   have J:=ih n (Nat.lt_succ_self n);intro rf c s e s' h Q C;simp only[AX] at h;cases c with
   |skip=>
    simp only[sk,aV,bQ] at h;obtain⟨rfl,rfl⟩:=h;exact C
   |ret=>
    simp only[sk,aV,bQ] at h;obtain⟨rfl,rfl⟩:=h;exact C
   |label l=>
    simp only[sk,aV,bQ] at h;obtain⟨rfl,rfl⟩:=h;exact C
   |exit id=>
    simp only[sk,aV,bQ] at h;obtain⟨rfl,rfl⟩:=h;exact C
   |region id ops dr=>
    simp only[sk] at h;split at h
    .rename_i s1 h1;simp only[aV,bQ] at h;obtain⟨rfl,rfl⟩:=h;exact ZE (abT hx J) h1 C
    .cases h
   |seq a b=>
    simp only[sk] at h;split at h
    .rename_i s1 h1;exact J _ _ _ _ _ h1 _ ⟨_,.refl _,J _ _ _ _ _ h _ C⟩
    .rename_i X;refine J _ _ _ _ _ h _ ?_;cases e with
     |normal=>exact absurd h (X s')
     |_=>exact C
   |cond c a b=>
    simp only[sk] at h;cases M:decide (opd (dO s.env) c).ask with
    |false=>rw[M] at h;cases h
    |true=>
     rw[M] at h;simp only[cond_true] at h;refine⟨of_decide_eq_true M,?_⟩;split at h
     .rename_i t ht;have ht':(opd s.st.env c).core=.s (.bool t):=ht;rw[ht'];cases t with
      |true=>exact⟨fun _=>J _ _ _ _ _ h _ C,fun h=>by cases h⟩
      |false=>exact⟨fun h=>oH,fun _=>J _ _ _ _ _ h _ C⟩
     .cases h
   |block id b=>
    simp only[sk] at h;split at h
    .rename_i i s1 h1;refine J _ _ _ _ _ h1 (blockQ id Q) ?_;simp only[blockQ];cases hb:Nat.beq i id with
     |true=>
      rw[hb] at h;simp only[cond_true,aV,bQ] at h;obtain⟨rfl,rfl⟩:=h;rw[if_pos (Nat.eq_of_beq_eq_true hb)];exact C
     |false=>
      rw[hb] at h;simp only[cond_false,aV,bQ] at h;obtain⟨rfl,rfl⟩:=h;rw[if_neg (Nat.ne_of_beq_eq_false hb)];exact C
    .rename_i X;refine J _ _ _ _ _ h (blockQ id Q) ?_;cases e with
     |exit i=>exact absurd h (X i s')
     |_=>exact C
   |scope b=>
    simp only[sk] at h;split at h
    .cases h
    .rename_i X;refine J _ _ _ _ _ h (scopeQ Q) ?_;cases e with
     |goto l=>exact absurd h (X l s')
     |_=>exact C
   |loop b=>
    refine QS (fun j st=>j<=n+1/\∃ s,st=s.st/\AX P x j rf (.loop b) s=some (e,s')) (j₀:=n+1) ⟨bF _,s,rfl,h⟩ ?_;rintro j st ⟨hj,s,rfl,hs⟩;cases j with
    |zero=>cases hs
    |succ j=>
     have XM:=ih j oG;simp only[AX,sk] at hs;split at hs
     .rename_i s1 h1;exact XM _ _ _ _ _ h1 _ ⟨_,.refl _,j,Nat.lt_succ_self j,oG,s1,rfl,hs⟩
     .rename_i X;refine XM _ _ _ _ _ hs _ ?_;cases e with
      |normal=>exact absurd hs (X s')
      |_=>exact C
   |rangeFunc g ps assign body=>
    simp only[sk] at h;cases M:(rf&&decide (opd (dO s.env) g).ask) with
    |false=>rw[M] at h;cases h
    |true=>
     rw[M] at h;simp only[cond_true] at h;simp only[aO] at M;split at h
     .rename_i f fs cs B7;split at h
      .rename_i ys CV;cases bC:ys.all fun y=>Nat.beq y.length ps.size with
       |false=>rw[bC] at h;cases h
       |true=>
        rw[bC] at h;simp only[cond_true] at h;split at h
        .rename_i e1 m nx hr;simp only[aV,bQ] at h;obtain⟨rfl,rfl⟩:=h;obtain⟨I,g1,g2,g3⟩:=PC J hr C;obtain⟨k1,k2⟩:=hx.iter _ _ _ _ CV;exact⟨M.1,of_decide_eq_true M.2,f,fs,cs,ys,I,B7,k1,fun y hy=>⟨Nat.eq_of_beq_eq_true (bj.1 bC y hy),k2 y hy⟩,g1,g2,g3⟩
        .cases h
      .cases h
     .cases h
   |_=>cases h
theorem lQ(hx:x.Ok P)(n:Nat){f:FuncId}{args:List D}{r:D}(ht:args.all (rD depth)=true)(h:B' P x (AX P x n) f args=some (.inl r)):PCall P f args r:=
 (JG hx (Te hx n) fun a ha=>qO (bj.1 ht a ha)).1 r h
end
def aD:List (Nat×D)->Env
 |[],_=>.u
 |(t,d)::l,j=>if j=t then d else aD l j
def jM:List (Nat×D)->Env->Prop
 |[],_=>True
 |(t,d)::l,env=>env t=d/\jM l env
theorem pL:∀ {l:List (Nat×D)} {env:Env},jM l env->∀ t,aD l t=env t\/aD l t=.u
 |[],_,_,_=>.inr rfl
 |(k,d)::l,env,h,t=>by
  simp only[aD];by_cases ht:t=k
  .subst ht;rw[if_pos rfl];exact .inl h.1.symm
  .rw[if_neg ht];exact pL h.2 t
def iY(env:Env):List Operand->Prop
 |[]=>True
 |x::xs=>(opd env x).ask/\iY env xs
theorem QV{env:Env}:∀ {l:List Operand},iY env l->∀ x∈l,(opd env x).ask
 |[],_,x,h=>by cases h
 |y::l,h,x,hx=>by
  cases hx with
  |head=>exact h.1
  |tail _ hx=>exact QV h.2 x hx
theorem rY{env:Env}{o:Op}(h:iY env o.operands.toList):asks env o:=by
 have:=QV h;unfold asks;cases o<;>first|exact this|exact this _ gh
section
variable{P:Program}{Y:YSpec}{rf:Bool}
structure Ef(P:Program)(op:Op)(env:Env)(m:Mem)(nx:Nat)(e:Eff):Prop where
 ok:aop P op (rho env op) m nx=some e
 nc:callD (rho env op) op=none
 ny:yieldD (rho env op) op=none
variable{ops:Array Oper}{dr:Bool}{cf:List (Nat×Nat)}{Q:Exit->St->Prop}{rest:List Oper}{env:Env}{m:Mem}{nx:Nat}{tr:Tra}{t:Nat}{op:Op}{ty:TypeId}{pos:String}{after:Array Edge}
 {pre:Prop} {v:D} {rd:List Nat}
theorem Al{d:Option Nat}{e:Eff}(he:Ef P op env m nx e)(ha:asks env op)(hp:e.pre)(K:AOps P Y ops dr cf Q rest (St.put ⟨env,upds m e.ups,nx+e.new⟩ d e.val) (tr++[(e.rd,e.ups.map (·.1))])):
 AOps P Y ops dr cf Q (⟨d,op,ty,pos,after,none⟩::rest) ⟨env,m,nx⟩ tr:=by
 simp only[AOps,AOp];rw[he.nc,he.ny,he.ok];exact⟨ha,hp,K⟩
theorem aI(he:Ef P op env m nx ⟨pre,v,[],rd,0⟩)(ha:iY env op.operands.toList)(hp:pre)(K:AOps P Y ops dr cf Q rest ⟨up env t v,m,nx⟩ (tr++[(rd,[])])):
 AOps P Y ops dr cf Q (⟨some t,op,ty,pos,after,none⟩::rest) ⟨env,m,nx⟩ tr:=Al he (rY ha) hp K
theorem BH{c a b:Operand}{g:Bool}(hc:(opd env c).core=.s (.bool g)):Ef P (.pick c a b) env m nx ⟨(g=true->(opd env a).ask/\(opd env a).core.bool?.isSome=true)/\(g=false->(opd env b).ask/\(opd env b).core.bool?.isSome=true),
 .s (.bool (if g then(opd env a).core.bool?.getD false else(opd env b).core.bool?.getD false)),[],[],0⟩:=⟨by simp only[aop,rho,hc,D.bool?],rfl,rfl⟩
theorem ady{c a b:Operand}{g x y:Bool}(hc:opd env c=.s (.bool g))(ha:(opd env a).core=.s (.bool x))(hb:(opd env b).core=.s (.bool y))(h1:g=true->(opd env a).ask)(h2:g=false->(opd env b).ask)
 (K:AOps P Y ops dr cf Q rest ⟨up env t (.s (.bool (if g then x else y))),m,nx⟩ (tr++[([],[])])):
 AOps P Y ops dr cf Q (⟨some t,.pick c a b,ty,pos,after,none⟩::rest) ⟨env,m,nx⟩ tr:=by
 refine Al (BH (g:=g) (by rw[hc];rfl)) (by simp only[asks,hc,D.ask]) ⟨fun h=>⟨h1 h,by rw[ha];rfl⟩,fun h=>⟨h2 h,by rw[hb];rfl⟩⟩ ?_;simp only[ha,hb,D.bool?,Option.getD_some];exact K
theorem abZ{c a b:Operand}{x:Bool}(hc:opd env c=.s (.bool true))(ha:(opd env a).core=.s (.bool x))(h1:(opd env a).ask)
 (K:AOps P Y ops dr cf Q rest ⟨up env t (.s (.bool x)),m,nx⟩ (tr++[([],[])])):
 AOps P Y ops dr cf Q (⟨some t,.pick c a b,ty,pos,after,none⟩::rest) ⟨env,m,nx⟩ tr:=by
 refine Al (BH (g:=true) (by rw[hc];rfl)) (by simp only[asks,hc,D.ask]) ⟨fun _=>⟨h1,by rw[ha];rfl⟩,fun h=>by cases h⟩ ?_;simp only[ha,D.bool?,Option.getD_some,if_true];exact K
theorem ab0{c a b:Operand}{y:Bool}(hc:opd env c=.s (.bool false))(hb:(opd env b).core=.s (.bool y))(h2:(opd env b).ask)
 (K:AOps P Y ops dr cf Q rest ⟨up env t (.s (.bool y)),m,nx⟩ (tr++[([],[])])):
 AOps P Y ops dr cf Q (⟨some t,.pick c a b,ty,pos,after,none⟩::rest) ⟨env,m,nx⟩ tr:=by
 refine Al (BH (g:=false) (by rw[hc];rfl)) (by simp only[asks,hc,D.ask]) ⟨fun h=>oH,fun _=>⟨h2,by rw[hb];rfl⟩⟩ ?_;simp only[hb,D.bool?,Option.getD_some,Bool.false_eq_true,if_false];exact K
theorem cA{i:Nat}{row:Option Row}(he:Ef P op env m nx ⟨pre,v,[(i,row)],rd,0⟩)(ha:iY env op.operands.toList)(hp:pre)(K:AOps P Y ops dr cf Q rest ⟨env,up m i row,nx⟩ (tr++[(rd,[i])])):
 AOps P Y ops dr cf Q (⟨none,op,ty,pos,after,none⟩::rest) ⟨env,m,nx⟩ tr:=Al he (rY ha) hp K
theorem iz{row:Row}(he:Ef P op env m nx ⟨pre,v,[(nx,some row)],rd,1⟩)(ha:iY env op.operands.toList)(hp:pre)(K:AOps P Y ops dr cf Q rest ⟨up env t v,up m nx (some row),nx+1⟩ (tr++[(rd,[nx])])):
 AOps P Y ops dr cf Q (⟨some t,op,ty,pos,after,none⟩::rest) ⟨env,m,nx⟩ tr:=Al he (rY ha) hp K
theorem vm{i:Nat}{row:Row}(he:Ef P op env m nx ⟨pre,v,[(i,none),(nx,some row)],rd,1⟩)(ha:iY env op.operands.toList)(hp:pre)(K:AOps P Y ops dr cf Q rest ⟨up env t v,up (up m i none) nx (some row),nx+1⟩ (tr++[(rd,[i,nx])])):
 AOps P Y ops dr cf Q (⟨some t,op,ty,pos,after,none⟩::rest) ⟨env,m,nx⟩ tr:=Al he (rY ha) hp K
theorem bt{j:Nat}{b c:Bool}{u:Nat}(hj:(ops[j]?).bind (·.dst)=some u)(hg:guardC (env u) b=some c)(he:Ef P op env m nx ⟨pre,v,[],rd,0⟩)(ha:c=true->iY env op.operands.toList/\pre)
 (K:AOps P Y ops dr cf Q rest ⟨up env t (.opt c v),m,nx⟩ (tr++[(rd,[])])):AOps P Y ops dr cf Q (⟨some t,op,ty,pos,after,some (j,b)⟩::rest) ⟨env,m,nx⟩ tr:=by
 simp only[AOps,AOp];rw[hj];simp only[Option.bind_some];rw[hg,he.nc,he.ny,he.ok];exact⟨fun hc=>⟨rY (ha hc).1,(ha hc).2⟩,K⟩
theorem ab1{j:Nat}{b0 C:Bool}{u:Nat}(hj:(ops[j]?).bind (·.dst)=some u)(hg:guardC (env u) b0=some C){c a b:Operand}{g x y:Bool}(hc:(opd env c).core=.s (.bool g))(ha:(opd env a).core=.s (.bool x))(hb:(opd env b).core=.s (.bool y))
 (h0:C=true->(opd env c).ask) (h1:C=true->g=true->(opd env a).ask) (h2:C=true->g=false->(opd env b).ask)
 (K:AOps P Y ops dr cf Q rest ⟨up env t (.opt C (.s (.bool (if g then x else y)))),m,nx⟩ (tr++[([],[])])):
 AOps P Y ops dr cf Q (⟨some t,.pick c a b,ty,pos,after,some (j,b0)⟩::rest) ⟨env,m,nx⟩ tr:=by
 have he:=BH (P:=P) (env:=env) (m:=m) (nx:=nx) (a:=a) (b:=b) hc;simp only[ha,hb,D.bool?,Option.getD_some,Option.isSome_some,and_true] at he;simp only[AOps,AOp];rw[hj];simp only[Option.bind_some];rw[hg,he.nc,he.ny,he.ok];exact⟨fun hc=>⟨by simp only[asks];exact h0 hc,h1 hc,h2 hc⟩,K⟩
theorem afK{j:Nat}{b:Bool}{u:Nat}{d:Option Nat}{e:Eff}(hj:(ops[j]?).bind (·.dst)=some u)(hg:guardC (env u) b=some true)(he:Ef P op env m nx e)(ha:iY env op.operands.toList)(hp:e.pre)
 (K:e.ups=[]->e.new=0->AOps P Y ops dr cf Q rest (St.put ⟨env,m,nx⟩ d (.opt true e.val)) (tr++[(e.rd,[])]))
 (K':AOps P Y ops dr cf Q rest (St.put ⟨env,upds m e.ups,nx+e.new⟩ d e.val) (tr++[(e.rd,e.ups.map (·.1))])):AOps P Y ops dr cf Q (⟨d,op,ty,pos,after,some (j,b)⟩::rest) ⟨env,m,nx⟩ tr:=by
 simp only[AOps,AOp];rw[hj];simp only[Option.bind_some];rw[hg,he.nc,he.ny,he.ok];simp only;split
 .rename_i h;simp only[aO,List.isEmpty_iff,beq_iff_eq] at h;exact⟨fun _=>⟨rY ha,hp⟩,K h.1 h.2⟩
 .exact⟨fun _=>⟨rY ha,hp,K'⟩,oS⟩
theorem Uo{j:Nat}{b:Bool}{u:Nat}{d:Option Nat}(hj:(ops[j]?).bind (·.dst)=some u)(hg:guardC (env u) b=some false)
 (K:∀ (x:D) rd,AOps P Y ops dr cf Q rest (St.put ⟨env,m,nx⟩ d (.opt false x)) (tr++[(rd,[])])):AOps P Y ops dr cf Q (⟨d,op,ty,pos,after,some (j,b)⟩::rest) ⟨env,m,nx⟩ tr:=by
 simp only[AOps,AOp];rw[hj];simp only[Option.bind_some];rw[hg];simp only;split
 .exact .inr ⟨oS,fun _=>K .u []⟩
 .split
  .exact⟨oS,fun _=>K .u []⟩
  .split
   .split
    .exact⟨oS,K _ _⟩
    .exact⟨oS,fun _=>K .u []⟩
   .exact⟨trivial,K .u []⟩
theorem aon{j:Nat}{b:Bool}{u t:Nat}(hj:(ops[j]?).bind (·.dst)=some u)(hg:guardC (env u) b=some false)
 (K:∀ (x:D) rd,AOps P Y ops dr cf Q rest ⟨up env t (.opt false x),m,nx⟩ (tr++[(rd,[])])):AOps P Y ops dr cf Q (⟨some t,op,ty,pos,after,some (j,b)⟩::rest) ⟨env,m,nx⟩ tr:=Uo hj hg K
theorem DP{f:FuncId}{args:List D}{d:Option Nat}(hc:callD (rho env op) op=some (f,args))(ha:iY env op.operands.toList)(h:CallOp P dr ⟨env,m,nx⟩ f args fun r m nx rd wr=>AOps P Y ops dr cf Q rest (St.put ⟨env,m,nx⟩ d r) (tr++[(rd,wr)])):
 AOps P Y ops dr cf Q (⟨d,op,ty,pos,after,none⟩::rest) ⟨env,m,nx⟩ tr:=by
 simp only[AOps,AOp];rw[hc];exact⟨rY ha,h⟩
theorem afL{f:FuncId}{args:List D}{r:D}(h:PCall P f args r)(hc:callD (rho env op) op=some (f,args))(ha:iY env op.operands.toList)(K:AOps P Y ops dr cf Q rest ⟨up env t r,m,nx⟩ (tr++[([],[])])):
 AOps P Y ops dr cf Q (⟨some t,op,ty,pos,after,none⟩::rest) ⟨env,m,nx⟩ tr:=DP hc ha (.inl ⟨r,h,K⟩)
theorem Ca{f:FuncId}{args es:List D}{n:Nat}{C:TypeId}(h:OCall P f args es n C)(hc:callD (rho env op) op=some (f,args))(ha:iY env op.operands.toList)(K:AOps P Y ops dr cf Q rest ⟨up env t (.rs nx 0 n),up m nx (some (.cells es C)),nx+1⟩ (tr++[([],[nx])])):
 AOps P Y ops dr cf Q (⟨some t,op,ty,pos,after,none⟩::rest) ⟨env,m,nx⟩ tr:=DP hc ha (.inr (.inr (.inl ⟨es,n,C,h,K⟩)))
theorem kN{f:FuncId}{args:List D}{d:Option Nat}{cN:D->Mem->Nat->Prop}(h:ACalls P f args m nx cN)(hc:callD (rho env op) op=some (f,args))(ha:iY env op.operands.toList)
 (K:∀ r m' nx',cN r m' nx'->AOps P Y ops false cf Q rest (St.put ⟨env,m',nx'⟩ d r) (tr++[([],[])])):
 AOps P Y ops false cf Q (⟨d,op,ty,pos,after,none⟩::rest) ⟨env,m,nx⟩ tr:=DP hc ha (.inr (.inr (.inr (.inl ⟨rfl,h.mono K⟩))))
theorem afM{f:FuncId}{args args':List D}{r:D}{rds:List Nat}(h:PCall P f args' r)(hs:r.scal=true)(C:Sns P rds m args args')(hc:callD (rho env op) op=some (f,args))(ha:iY env op.operands.toList)
 (K:AOps P Y ops dr cf Q rest ⟨up env t r,m,nx⟩ (tr++[(rds,[])])):AOps P Y ops dr cf Q (⟨some t,op,ty,pos,after,none⟩::rest) ⟨env,m,nx⟩ tr:=DP hc ha (.inr (.inl ⟨args',rds,r,C,h,hs,K⟩))
theorem BX{j:Nat}{b c:Bool}{u:Nat}{f:FuncId}{args:List D}{r:D}(hj:(ops[j]?).bind (·.dst)=some u)(hg:guardC (env u) b=some c)(hc:callD (rho env op) op=some (f,args))(h:c=true->iY env op.operands.toList/\PCall P f args r)
 (K:AOps P Y ops dr cf Q rest ⟨up env t (.opt c r),m,nx⟩ (tr++[([],[])])):AOps P Y ops dr cf Q (⟨some t,op,ty,pos,after,some (j,b)⟩::rest) ⟨env,m,nx⟩ tr:=by
 simp only[AOps,AOp];rw[hj];simp only[Option.bind_some];rw[hg,hc];exact .inl ⟨r,fun C=>⟨rY (h C).1,(h C).2⟩,K⟩
theorem abX{j:Nat}{b:Bool}{u:Nat}{d:Option Nat}{f:FuncId}{args:List D}(hj:(ops[j]?).bind (·.dst)=some u)(hg:guardC (env u) b=some true)(hc:callD (rho env op) op=some (f,args))(ha:iY env op.operands.toList)
 (h:CallOp P dr ⟨env,m,nx⟩ f args fun r m nx rd wr=>AOps P Y ops dr cf Q rest (St.put ⟨env,m,nx⟩ d r) (tr++[(rd,wr)])):AOps P Y ops dr cf Q (⟨d,op,ty,pos,after,some (j,b)⟩::rest) ⟨env,m,nx⟩ tr:=by
 simp only[AOps,AOp];rw[hj];simp only[Option.bind_some];rw[hg,hc];exact .inr ⟨fun _=>⟨rY ha,h⟩,oS⟩
theorem MB{l:Nat}{args:List D}{d:Option Nat}(hc:callD (rho env op) op=none)(hy:yieldD (rho env op) op=some (l,args))(ha:iY env op.operands.toList)(h:Y l args m nx fun r m' nx'=>AOps P Y ops false cf Q rest (St.put ⟨env,m',nx'⟩ d r) (tr++[([],[])])):
 AOps P Y ops false cf Q (⟨d,op,ty,pos,after,none⟩::rest) ⟨env,m,nx⟩ tr:=by
 simp only[AOps,AOp];rw[hc,hy];exact⟨rY ha,trivial,h⟩
theorem HN{j:Nat}{b:Bool}{u:Nat}{l:Nat}{args:List D}{d:Option Nat}(hj:(ops[j]?).bind (·.dst)=some u)(hg:guardC (env u) b=some true)(hc:callD (rho env op) op=none)(hy:yieldD (rho env op) op=some (l,args))(ha:iY env op.operands.toList)
 (h:Y l args m nx fun r m' nx'=>AOps P Y ops false cf Q rest (St.put ⟨env,m',nx'⟩ d r) (tr++[([],[])])):AOps P Y ops false cf Q (⟨d,op,ty,pos,after,some (j,b)⟩::rest) ⟨env,m,nx⟩ tr:=by
 simp only[AOps,AOp];rw[hj];simp only[Option.bind_some];rw[hg,hc,hy];exact⟨fun _=>⟨rY ha,trivial,h⟩,oS⟩
def gK(K:St->Prop):Exit->St->Prop
 | .normal,st=>K st
 |_,_=>True
theorem af{K:St->Prop}{st:St}(h:K st):AOps P Y ops dr [] (gK K) [] st tr:=⟨oS,h⟩
theorem a8{K:St->Prop}{st:St}(hc:∀ q∈cf,apartT tr q.1 q.2)(h:K st):AOps P Y ops dr cf (gK K) [] st tr:=⟨hc,h⟩
variable{st:St}{a b c:Code}
theorem AOps.lA{cf:List (Nat×Nat)}{K:St->Prop}{Q:Exit->St->Prop}[eC Y]{l:List Oper}(h:AOps P Y ops dr cf (gK K) l st tr)(hk:∀ st,K st->Q .normal st):AOps P Y ops dr cf Q l st tr:=
 AOps.mono (Q:=gK K) (fun st h=>hk st h) l st tr h
theorem qG[eC Y]{id:Nat}(h:AOps P Y ops false [] (gK fun st=>Q .normal st) ops.toList st []):AW P Y rf (.region id ops false) Q st:=AOps.lA h fun _ h=>h
theorem BW[eC Y]{id:Nat}(hi:drawInfo ops=some cf)(h:AOps P Y ops true cf (gK fun st=>Q .normal st) ops.toList st []):AW P Y rf (.region id ops true) Q st:=by
 show match drawInfo ops with
  |some cf=>AOps P Y ops true cf Q ops.toList st []
  |none=>False
 rw[hi];exact AOps.lA h fun _ h=>h
theorem aj[eC Y]{id:Nat}(h:AOps P Y ops false [] (gK fun st=>AW P Y rf b Q st) ops.toList st []):AW P Y rf (.seq (.region id ops false) b) Q st:=
 qG (rf:=rf) (id:=id) (AOps.lA h fun st h=>⟨st,.refl st,h⟩)
theorem dE[eC Y]{id:Nat}(hi:drawInfo ops=some cf)(h:AOps P Y ops true cf (gK fun st=>AW P Y rf b Q st) ops.toList st []):AW P Y rf (.seq (.region id ops true) b) Q st:=
 BW (rf:=rf) (id:=id) hi (AOps.lA h fun st h=>⟨st,.refl st,h⟩)
theorem aW{st':St}(hg:Ghost P st st')(h:AW P Y rf b Q st'):∃ C,Ghost P st C/\AW P Y rf b Q C:=⟨st',hg,h⟩
theorem az[eC Y]{id:Nat}(h:AOps P Y ops false [] (gK fun st=>∃ st',Ghost P st st'/\AW P Y rf b Q st') ops.toList st []):AW P Y rf (.seq (.region id ops false) b) Q st:=
 qG (rf:=rf) (id:=id) (AOps.lA h fun _ h=>h)
theorem pI[eC Y]{id:Nat}(hi:drawInfo ops=some cf)(h:AOps P Y ops true cf (gK fun st=>∃ st',Ghost P st st'/\AW P Y rf b Q st') ops.toList st []):AW P Y rf (.seq (.region id ops true) b) Q st:=
 BW (rf:=rf) (id:=id) hi (AOps.lA h fun _ h=>h)
theorem Uj[eC Y](J:St->Prop)(h:AW P Y rf a (seqQ J Q) st)(k:∀ st,J st->AW P Y rf b Q st):AW P Y rf (.seq a b) Q st:=
 wu a (fun e st h=>by
  cases e with
  |normal=>exact⟨st,.refl st,k st h⟩
  |_=>exact h) h
theorem eI[eC Y](J:St->Prop)(h:AW P Y rf a (seqQ J Q) st)(k:∀ st,J st->∃ st',Ghost P st st'/\AW P Y rf b Q st'):AW P Y rf (.seq a b) Q st:=
 wu a (fun e st h=>by
  cases e with
  |normal=>exact k st h
  |_=>exact h) h
theorem bP[eC Y](h:AW P Y rf b Q st):AW P Y rf (.seq .skip b) Q st:=⟨st,.refl st,h⟩
theorem bX(h:Q .ret st):AW P Y rf (.seq .ret b) Q st:=h
theorem jw{id:Nat}(h:Q (.exit id) st):AW P Y rf (.seq (.exit id) b) Q st:=h
theorem Zs{l:Nat}(h:AW P Y rf b Q st):AW P Y rf (.seq (.label l) b) Q st:=⟨st,.refl st,h⟩
theorem aB[eC Y](h:AW P Y rf (.seq a (.seq b c)) Q st):AW P Y rf (.seq (.seq a b) c) Q st:=by
 refine wu a (fun e st h=>?_) h;cases e with
 |normal=>
  obtain⟨st',hg,h⟩:=h;refine⟨st',hg,wu b (fun e st h=>?_) h⟩;cases e<;>exact h
 |_=>exact h
theorem aw{c:Operand}{x y:Code}{g:Bool}(hc:opd st.env c=.s (.bool g))(ht:g=true->AW P Y rf x Q st)(hf:g=false->AW P Y rf y Q st):AW P Y rf (.cond c x y) Q st:=by
 rw[RI];rw[hc];exact⟨trivial,ht,hf⟩
theorem cx{c:Operand}{x y:Code}{g:Bool}(hc:opd st.env c=.s (.bool g))(ht:g=true->AW P Y rf (.seq x b) Q st)(hf:g=false->AW P Y rf (.seq y b) Q st):AW P Y rf (.seq (.cond c x y) b) Q st:=aw hc ht hf
theorem adz{c:Operand}{x y:Code}(hc:opd st.env c=.ub)(ht:AW P Y rf x Q st)(hf:AW P Y rf y Q st):AW P Y rf (.cond c x y) Q st:=by
 rw[RI];rw[hc];exact⟨trivial,ht,hf⟩
theorem oI{id:Nat}(h:AW P Y rf b (blockQ id Q) st):AW P Y rf (.block id b) Q st:=h
theorem O9[eC Y]{id:Nat}(J:St->Prop)(h:AW P Y rf a (blockQ id (seqQ J Q)) st)(k:∀ st,J st->∃ st',Ghost P st st'/\AW P Y rf b Q st'):AW P Y rf (.seq (.block id a) b) Q st:=eI J (oI h) k
theorem adr[eC Y]{α:Type}(S:α->St)(J:α->Prop)(μ:α->Nat)(X:α)(h0:st=S X)(hJ:J X)(h:∀ x,J x->AW P Y rf b (seqQ (fun st'=>∃ M C,Ghost P st' M/\M=S C/\J C/\μ C<μ x) Q) (S x)):AW P Y rf (.loop b) Q st:=by
 refine QS (fun j st=>∃ x,st=S x/\J x/\μ x=j) (j₀:=μ X) ⟨X,h0,hJ,rfl⟩ ?_;rintro j st ⟨x,rfl,hx,rfl⟩;refine wu b (fun e st' hq=>?_) (h x hx);cases e with
 |normal=>
  obtain⟨M,C,h1,h2,h3,h4⟩:=hq;exact⟨M,h1,μ C,h4,C,h2,h3,rfl⟩
 |_=>exact hq
end
theorem gR{P:Program}{Y:YSpec}{rf:Bool}{Q:Exit->St->Prop}{st:St}{c:Operand}{x y:Code}(K:AW P Y rf y Q st)(h:opd st.env c=.s (.bool false):=by exact rfl):AW P Y rf (.cond c x y) Q st:=aw h (fun h=>by cases h) fun _=>K
theorem gH{P:Program}{Y:YSpec}{rf:Bool}{Q:Exit->St->Prop}{st:St}{c:Operand}{x y:Code}(K:AW P Y rf x Q st)(h:opd st.env c=.s (.bool true):=by exact rfl):AW P Y rf (.cond c x y) Q st:=aw h (fun _=>K) fun h=>by cases h
theorem gS{P:Program}{Y:YSpec}{rf:Bool}{Q:Exit->St->Prop}{st:St}{c:Operand}{x y b:Code}(K:AW P Y rf (.seq y b) Q st)(h:opd st.env c=.s (.bool false):=by exact rfl):AW P Y rf (.seq (.cond c x y) b) Q st:=aw h (fun h=>by cases h) fun _=>K
theorem dN{P:Program}{Y:YSpec}{rf:Bool}{Q:Exit->St->Prop}{st:St}{c:Operand}{x y b:Code}(K:AW P Y rf (.seq x b) Q st)(h:opd st.env c=.s (.bool true):=by exact rfl):AW P Y rf (.seq (.cond c x y) b) Q st:=aw h (fun _=>K) fun h=>by cases h
section
variable{P:Program}{env:Env}{m:Mem}{nx:Nat}{t:TypeId}{x y a:Operand}{d v:D}{k:IntKind}{n n':Int}{p q:TypeId}
theorem kK(hx:(opd env x).core=v):Ef P (.move x) env m nx ⟨True,v,[],[],0⟩:=⟨by simp only[aop,rho,hx],rfl,rfl⟩
theorem oE(hx:(opd env x).core=v):Ef P (.assign x) env m nx ⟨True,v,[],[],0⟩:=⟨by simp only[aop,rho,hx],rfl,rfl⟩
theorem La(op:BinOp)(v:Value)(y:Operand):nilD P m op t (.s v) y=none:=by
 unfold nilD;split<;>first|rfl|(rename_i h;cases h)
theorem aev{op:BinOp}{v w:Value}(h:∀ a b,v=.bool a->w=.bool b->False):binD P op t (.s v) (.s w)=(binV op v w).map fun r=>(r.1,.s r.2):=by
 cases v<;>cases w<;>first|rfl|exact(h _ _ rfl rfl).elim
theorem nQ{op:BinOp}{v w u:Value}{pre:Prop}(hx:(opd env x).core=.s v)(hy:(opd env y).core=.s w)(hn:∀ a b,v=.bool a->w=.bool b->False)(hb:binV op v w=some (pre,u)):Ef P (.binOp op t x y p) env m nx ⟨pre,.s u,[],[],0⟩:=
 ⟨by simp only[aop,rho,hx,hy,La,aev hn,hb,Option.map_some],rfl,rfl⟩
section ints
variable(hx:(opd env x).core=.s (.int k n))(hy:(opd env y).core=.s (.int k n'))
include hx hy
theorem LD:Ef P (.binOp .lss t x y p) env m nx ⟨k=k,.s (.bool (decide (n<n'))),[],[],0⟩:=nQ hx hy oS rfl
theorem LH:Ef P (.binOp .leq t x y p) env m nx ⟨k=k,.s (.bool (decide (n<=n'))),[],[],0⟩:=nQ hx hy oS rfl
theorem LI:Ef P (.binOp .gtr t x y p) env m nx ⟨k=k,.s (.bool (decide (n'<n))),[],[],0⟩:=nQ hx hy oS rfl
theorem LJ:Ef P (.binOp .geq t x y p) env m nx ⟨k=k,.s (.bool (decide (n'<=n))),[],[],0⟩:=nQ hx hy oS rfl
theorem LK:Ef P (.binOp .eql t x y p) env m nx ⟨k=k,.s (.bool (n==n')),[],[],0⟩:=nQ hx hy oS rfl
theorem LL:Ef P (.binOp .neq t x y p) env m nx ⟨k=k,.s (.bool (n !=n')),[],[],0⟩:=nQ hx hy oS rfl
theorem aew:Ef P (.binOp .add t x y p) env m nx ⟨k=k,.s (.int k (k.wrap (n+n'))),[],[],0⟩:=nQ hx hy oS rfl
theorem aex:Ef P (.binOp .sub t x y p) env m nx ⟨k=k,.s (.int k (k.wrap (n - n'))),[],[],0⟩:=nQ hx hy oS rfl
theorem aey:Ef P (.binOp .quo t x y p) env m nx ⟨k=k/\n'≠0,.s (.int k (k.wrap (n.tdiv n'))),[],[],0⟩:=nQ hx hy oS rfl
theorem afx:Ef P (.binOp .rem t x y p) env m nx ⟨k=k/\n'≠0,.s (.int k (n.tmod n')),[],[],0⟩:=nQ hx hy oS rfl
theorem afy:Ef P (.binOp .and t x y p) env m nx ⟨k=k,.s (.int k (intBitsV .and k n n')),[],[],0⟩:=nQ hx hy oS rfl
theorem ai0:Ef P (.binOp .or t x y p) env m nx ⟨k=k,.s (.int k (intBitsV .or k n n')),[],[],0⟩:=nQ hx hy oS rfl
end ints
theorem afz{C:IntKind}(hx:(opd env x).core=.s (.int k n))(hy:(opd env y).core=.s (.int C n')):Ef P (.binOp .shl t x y p) env m nx ⟨0<=n',.s (.int k (k.wrap (n*2 ^ (min n'.toNat k.bits)))),[],[],0⟩:=nQ hx hy oS rfl
theorem afA{C:IntKind}(hx:(opd env x).core=.s (.int k n))(hy:(opd env y).core=.s (.int C n')):Ef P (.binOp .shr t x y p) env m nx ⟨0<=n',.s (.int k (n.fdiv (2 ^ (min n'.toNat k.bits)))),[],[],0⟩:=nQ hx hy oS rfl
theorem i64_in(n:Int)(h: -9223372036854775808<=n/\n<=9223372036854775807):IntKind.i64.wrap n=n:=Go.IntWalk.i64_in n h
theorem Ub(hx:(opd env x).core=.s (.int .i64 n))(hy:(opd env y).core=.s (.int .i64 n'))(hb: -9223372036854775808<=n+n'/\n+n'<=9223372036854775807):Ef P (.binOp .add t x y p) env m nx ⟨IntKind.i64=IntKind.i64,.s (.int .i64 (n+n')),[],[],0⟩:=by
 have:=aew (P:=P) (m:=m) (nx:=nx) (t:=t) (p:=p) hx hy
 rwa[i64_in _ hb] at this
theorem LM(hx:(opd env x).core=.s (.int .i64 n))(hy:(opd env y).core=.s (.int .i64 n'))(hb: -9223372036854775808<=n - n'/\n - n'<=9223372036854775807):Ef P (.binOp .sub t x y p) env m nx ⟨IntKind.i64=IntKind.i64,.s (.int .i64 (n - n')),[],[],0⟩:=by
 have:=aex (P:=P) (m:=m) (nx:=nx) (t:=t) (p:=p) hx hy
 rwa[i64_in _ hb] at this
section strings
variable{s s':ByteArray}(hx:(opd env x).core=.s (.string s))(hy:(opd env y).core=.s (.string s'))
include hx hy
theorem Lc:Ef P (.binOp .eql t x y p) env m nx ⟨True,.s (.bool (s.toList==s'.toList)),[],[],0⟩:=nQ hx hy oS rfl
theorem S4:Ef P (.binOp .geq t x y p) env m nx ⟨True,.s (.bool !(Op.bytesLess s.toList s'.toList)),[],[],0⟩:=nQ hx hy oS rfl
end strings
theorem S5{b C:Bool}(hx:(opd env x).core=.s (.bool b))(hy:(opd env y).core=.s (.bool C)):Ef P (.binOp .eql t x y p) env m nx ⟨boT P t=true,.s (.bool (b==C)),[],[],0⟩:=
 ⟨by simp only[aop,rho,hx,hy,La,binD,Option.map_some],rfl,rfl⟩
theorem aez{b C:Bool}(hx:(opd env x).core=.s (.bool b))(hy:(opd env y).core=.s (.bool C)):Ef P (.binOp .neq t x y p) env m nx ⟨boT P t=true,.s (.bool !(b==C)),[],[],0⟩:=
 ⟨by simp only[aop,rho,hx,hy,La,binD,Option.map_some],rfl,rfl⟩
theorem Uc{b:Bool}(hx:(opd env x).core=.s (.bool b)):Ef P (.unOp .not t x) env m nx ⟨True,.s (.bool !b),[],[],0⟩:=⟨by simp only[aop,rho,hx,unV,Option.map_some],rfl,rfl⟩
theorem adn{z:List D}(C:zeroP P t=z):Ef P (.alloc t) env m nx ⟨tyOk P t=true,.rp nx 0,[(nx,some (.cells z t))],[],1⟩:=⟨by simp only[aop,C],rfl,rfl⟩
theorem Ud{cs:List D}(hx:(opd env x).core=d)(hc:d.cells=cs):Ef P (.box t x) env m nx ⟨cs.all D.one=true,.rp nx 0,[(nx,some (.cells cs t))],[],1⟩:=⟨by simp only[aop,rho,hx,hc],rfl,rfl⟩
theorem Hv(hx:(opd env x).core=d)(hc:d.cells=[d]):Ef P (.box t x) env m nx ⟨[d].all D.one=true,.rp nx 0,[(nx,some (.cells [d] t))],[],1⟩:=Ud hx hc
theorem uU{cs:List D}(hx:(opd env x).core=.agg cs):Ef P (.box t x) env m nx ⟨cs.all D.one=true,.rp nx 0,[(nx,some (.cells cs t))],[],1⟩:=Ud hx rfl
theorem S6{cs:List D}(hx:(opd env x).core=.pt (v::cs))(ha:aggP P t=false):Ef P (.load t x) env m nx ⟨tyOk P t=true/\P.cellsOf t<=(v::cs).length,v,[],[],0⟩:=⟨by simp[aop,rho,hx,takeV,ha],rfl,rfl⟩
theorem mH{cs vs:List D}{n:Nat}(hx:(opd env x).core=.pt cs)(ha:aggP P t=true)(hc:P.cellsOf t=n)(hv:cs.take n=vs):Ef P (.load t x) env m nx ⟨tyOk P t=true/\P.cellsOf t<=cs.length,.agg vs,[],[],0⟩:=⟨by simp[aop,rho,hx,takeV,ha,hc,hv],rfl,rfl⟩
theorem gO{i off:Nat}{cs cs':List D}{e:TypeId}(hx:(opd env x).core=.rp i off)(hm:m i=some (.cells cs e))(hd:cs.drop off=v::cs')(ha:aggP P t=false):Ef P (.load t x) env m nx ⟨tyOk P t=true/\off+P.cellsOf t<=cs.length,v,[],[i],0⟩:=⟨by simp[aop,rho,hx,hm,takeV,ha,hd],rfl,rfl⟩
theorem ep{i off:Nat}{cs vs:List D}{e:TypeId}{n:Nat}(hx:(opd env x).core=.rp i off)(hm:m i=some (.cells cs e))(ha:aggP P t=true)(hc:P.cellsOf t=n)(hv:(cs.drop off).take n=vs):Ef P (.load t x) env m nx ⟨tyOk P t=true/\off+P.cellsOf t<=cs.length,.agg vs,[],[i],0⟩:=⟨by simp[aop,rho,hx,hm,takeV,ha,hc,hv],rfl,rfl⟩
theorem RD{i off:Nat}{cs cs' vs:List D}{e:TypeId}(hx:(opd env x).core=.rp i off)(hy:(opd env y).core=d)(hm:m i=some (.cells cs e))(hv:d.cells=vs)(hs:splice cs off vs=cs'):
 Ef P (.store t x y) env m nx ⟨tyOk P t=true/\vs.length=P.cellsOf t/\off+P.cellsOf t<=cs.length/\vs.all D.one=true,.tup [],[(i,some (.cells cs' e))],[i],0⟩:=⟨by simp only[aop,rho,hx,hy,hm,hv,hs],rfl,rfl⟩
theorem fG{i off:Nat}{cs cs':List D}{e:TypeId}(hx:(opd env x).core=.rp i off)(hy:(opd env y).core=d)(hm:m i=some (.cells cs e))(hv:d.cells=[d])(hs:cs.set off d=cs'):
 Ef P (.store t x y) env m nx ⟨tyOk P t=true/\[d].length=P.cellsOf t/\off+P.cellsOf t<=cs.length/\[d].all D.one=true,.tup [],[(i,some (.cells cs' e))],[i],0⟩:=RD hx hy hm hv hs
theorem jh{i off:Nat}{cs cs' vs:List D}{e:TypeId}(hx:(opd env x).core=.rp i off)(hy:(opd env y).core=.agg vs)(hm:m i=some (.cells cs e))(hs:splice cs off vs=cs'):
 Ef P (.store t x y) env m nx ⟨tyOk P t=true/\vs.length=P.cellsOf t/\off+P.cellsOf t<=cs.length/\vs.all D.one=true,.tup [],[(i,some (.cells cs' e))],[i],0⟩:=RD hx hy hm rfl hs
theorem RE{cs:List D}{j off:Nat}{C:TypeId}(hx:(opd env x).core=.pt cs)(hf:fieldP P t j=some (off,C)):Ef P (.fieldAddr t x j) env m nx ⟨0<P.cellsOf C,.pt (cs.drop off),[],[],0⟩:=⟨by simp only[aop,rho,hx,hf],rfl,rfl⟩
theorem uJ{i o:Nat}{j off:Nat}{C:TypeId}{r:Row}(hx:(opd env x).core=.rp i o)(hm:m i=some r)(hf:fieldP P t j=some (off,C)):Ef P (.fieldAddr t x j) env m nx ⟨0<P.cellsOf C,.rp i (o+off),[],[i],0⟩:=⟨by simp only[aop,rho,hx,hf,hm],rfl,rfl⟩
theorem S7{cs:List D}(hx:(opd env x).core=.pt cs):Ef P (.nilCheck x) env m nx ⟨True,.pt cs,[],[],0⟩:=⟨by simp only[aop,rho,hx],rfl,rfl⟩
theorem S8{i o:Nat}{r:Row}(hx:(opd env x).core=.rp i o)(hm:m i=some r):Ef P (.nilCheck x) env m nx ⟨True,.rp i o,[],[i],0⟩:=⟨by simp only[aop,rho,hx,hm],rfl,rfl⟩
theorem LN{es cs:List D}{l sz:Nat}{e:TypeId}(hx:(opd env x).core=.sl es l)(hy:(opd env y).core=.s (.int k n))(he:elemP P t=e)(hs:P.cellsOf e=sz)(hd:es.drop (n.toNat*sz)=cs):
 Ef P (.indexAddr t x y) env m nx ⟨slT P t=true/\0<=n/\n<l/\(n.toNat+1)*sz<=es.length,.pt cs,[],[],0⟩:=⟨by simp only[aop,rho,hx,hy,he,hs,hd],rfl,rfl⟩
theorem Hw{j off l sz:Nat}{e:TypeId}{r:Row}(hx:(opd env x).core=.rs j off l)(hy:(opd env y).core=.s (.int k n))(hm:m j=some r)(he:elemP P t=e)(hs:P.cellsOf e=sz):
 Ef P (.indexAddr t x y) env m nx ⟨slT P t=true/\0<=n/\n<l,.rp j (off+n.toNat*sz),[],[j],0⟩:=⟨by simp only[aop,rho,hx,hy,hm,he,hs],rfl,rfl⟩
theorem S9{j off sz l:Nat}{e:TypeId}{r:Row}(hx:(opd env x).core=.rp j off)(hy:(opd env y).core=.s (.int k n))(hm:m j=some r)(he:elemP P t=e)(hs:P.cellsOf e=sz)(hl:lenP P t=l):
 Ef P (.indexAddr t x y) env m nx ⟨arT P t=true/\0<=n/\n<l,.rp j (off+n.toNat*sz),[],[j],0⟩:=⟨by simp only[aop,rho,hx,hy,hm,he,hs,hl],rfl,rfl⟩
section builtins
theorem wK{b:Builtin}{ts:Array TypeId}{args:Array Operand}{aS:List D}{e:Eff}(hs:ts.size=args.size)(ha:args.toList.map (fun x=>(opd env x).core)=aS)(hb:builtinD P m nx b ts aS=some e):Ef P (.call { callee:=.builtin b,args:=args,argTypes:=ts }) env m nx e:=
 ⟨by simp only[aop];rw[if_pos hs];simp only[rho];rw[ha,hb],rfl,rfl⟩
theorem Ue{es:List D}{l:Nat}(hx:(opd env x).core=.sl es l):Ef P (.call { callee:=.builtin .len,args:= #[x],argTypes:= #[t] }) env m nx ⟨slT P t=true,.s (.int .i64 l),[],[],0⟩:=wK (aS:=[.sl es l]) rfl (by simp[hx]) rfl
theorem BV{i off l:Nat}{r:Row}(hx:(opd env x).core=.rs i off l)(hm:m i=some r):Ef P (.call { callee:=.builtin .len,args:= #[x],argTypes:= #[t] }) env m nx ⟨slT P t=true,.s (.int .i64 l),[],[i],0⟩:=wK (aS:=[.rs i off l]) rfl (by simp[hx]) (by simp[builtinD,lenD,hm])
theorem aeA(hx:(opd env x).core=.z):Ef P (.call { callee:=.builtin .len,args:= #[x],argTypes:= #[t] }) env m nx ⟨slT P t=true,.s (.int .i64 0),[],[],0⟩:=wK (aS:=[.z]) rfl (by simp[hx]) rfl
theorem Ld{b:ByteArray}(hx:(opd env x).core=.s (.string b)):Ef P (.call { callee:=.builtin .len,args:= #[x],argTypes:= #[t] }) env m nx ⟨stT P t=true,.s (.int .i64 b.size),[],[],0⟩:=wK (aS:=[.s (.string b)]) rfl (by simp[hx]) rfl
theorem Uf{k:IntKind}(hx:(opd env x).core=.s (.int k n))(hy:(opd env y).core=.s (.int k n')):Ef P (.call { callee:=.builtin .min,args:= #[x,y],argTypes:= #[t,t] }) env m nx ⟨k=k,.s (.int k (if n'<n then n' else n)),[],[],0⟩:=wK (aS:=[.s (.int k n),.s (.int k n')]) rfl (by simp[hx,hy]) rfl
structure Cells(m:Mem)(sz:Nat)(d:D)(p:Prop)(rd:List Nat)(k:Nat)(news:List D):Prop where
 ok:sliceCells m sz d=some (p,rd,k,news)
theorem QJ{es news:List D}{k sz:Nat}(h:es.take (k*sz)=news):Cells m sz (.sl es k) (k*sz<=es.length) [] k news:=⟨by simp[sliceCells,h]⟩
theorem wj{i off k sz:Nat}{cs news:List D}{e:TypeId}(hm:m i=some (.cells cs e))(h:(cs.drop off).take (k*sz)=news):Cells m sz (.rs i off k) (off+k*sz<=cs.length) [i] k news:=⟨by simp[sliceCells,hm,h]⟩
theorem aeB{p:Prop}{rd:List Nat}{c sz:Nat}{news:List D}{e:TypeId}(hx:(opd env x).core=.z)(hy:(opd env y).core=d)(he:elemP P t=e)(hs:P.cellsOf e=sz)(hc:Cells m sz d p rd c news):
 Ef P (.call { callee:=.builtin .append,args:= #[x,y],argTypes:= #[t,t] }) env m nx ⟨slT P t=true/\p/\0<sz/\c<=maxLen/\c*P.bytesOf e<=140737488355328,.rs nx 0 c,[(nx,some (.cells news e))],rd,1⟩:=by
 refine wK (aS:=[.z,d]) rfl (by simp[hx,hy]) ?_;simp only[builtinD];rw[if_pos oS];simp only[appendD,Array.getD_eq_getD_getElem?,List.getElem?_toArray,List.getElem?_cons_zero,Option.getD_some,he,hs,hc.ok]
theorem uV{p:Prop}{rd:List Nat}{c sz i off l:Nat}{cs cs' news:List D}{e:TypeId}(hx:(opd env x).core=.rs i off l)(hm:m i=some (.cells cs e))(hy:(opd env y).core=d)(he:elemP P t=e)(hs:P.cellsOf e=sz)(hc:Cells m sz d p rd c news)(hn:cs.drop off++news=cs'):
 Ef P (.call { callee:=.builtin .append,args:= #[x,y],argTypes:= #[t,t] }) env m nx ⟨slT P t=true/\e=e/\p/\0<sz/\off+l*sz=cs.length/\l+c<=maxLen/\(l+c)*P.bytesOf e<=140737488355328/\i∉rd,.rs nx 0 (l+c),[(i,none),(nx,some (.cells cs' e))],i::rd,1⟩:=by
 refine wK (aS:=[.rs i off l,d]) rfl (by simp[hx,hy]) ?_;simp only[builtinD];rw[if_pos oS];simp only[appendD,Array.getD_eq_getD_getElem?,List.getElem?_toArray,List.getElem?_cons_zero,Option.getD_some,he,hs,hc.ok,hm,hn]
end builtins
theorem S'{b:ByteArray}(hx:(opd env x).core=.s (.string b))(hy:(opd env y).core=.s (.int k n)):Ef P (.index t x y) env m nx ⟨stT P t=true/\0<=n/\n<b.size,.s (.int .u8 (b.data.toList.getD n.toNat 0).toNat),[],[],0⟩:=⟨by simp only[aop,rho,hx,hy],rfl,rfl⟩
theorem tc{cs cs':List D}{j:Nat}(hx:(opd env x).core=.tup cs)(hd:cs.drop j=v::cs'):Ef P (.extract x j) env m nx ⟨j<cs.length,v,[],[],0⟩:=by
 have h:cs[j]? =some v:=by
  have:(cs.drop j)[0]? =some v:=by rw[hd];rfl
  simpa using this
 exact⟨by simp[aop,rho,hx,h],rfl,rfl⟩
theorem ado{ps:Array (Nat×Operand)}{fs:Array Field}{cs z:List D}{C:List (Nat×D)}(J:P.underlying t=some (.struct fs))(M:zeroP P t=z)(hq:(ps.toList.map fun q=>(q.1,(opd env q.2).core))=C)
 (hf:fillD (fun i=>(fs[i]?).map fun f=>(f.offset,P.cellsOf f.type)) z C=some cs):Ef P (.build t ps) env m nx ⟨tyOk P t=true/\fs.toList.all (fun f=>(P.info? f.type).isSome)=true,.agg cs,[],[],0⟩:=
 ⟨by simp only[aop,rho,J,M,hq,hf,Option.map_some],rfl,rfl⟩
theorem GW{ps:Array (Nat×Operand)}{fs:Array Field}{C:List (Nat×Nat)}{cs z:List D}{J:List (Nat×D)}(M:P.underlying t=some (.struct fs))(hp:(fs.toList.map fun(f:Field)=>(f.offset,P.cellsOf f.type))=C)(X:zeroP P t=z)(hq:(ps.toList.map fun q=>(q.1,(opd env q.2).core))=J)
 (hf:fillD (fun i=>C[i]?) z J=some cs):Ef P (.build t ps) env m nx ⟨tyOk P t=true/\fs.toList.all (fun f=>(P.info? f.type).isSome)=true,.agg cs,[],[],0⟩:=by
 refine ado M X hq ?_
 have:(fun(i:Nat)=>(fs[i]?).map fun(f:Field)=>(f.offset,P.cellsOf f.type))=fun(i:Nat)=>C[i]? :=by
  funext i;rw[<- hp];simp
 rw[this];exact hf
theorem Dy{ps:Array (Nat×Operand)}{l sz:Nat}{e:TypeId}{cs z:List D}{C:List (Nat×D)}(he:elemP P t=e)(hs:P.cellsOf e=sz)(J:zeroP P e=z)(hq:(ps.toList.map fun q=>(q.1,(opd env q.2).core))=C)
 (hf:fillD (fun i=>some (i*sz,sz)) (replD l z) C=some cs):Ef P (.buildSlice t l ps) env m nx ⟨cs.all D.one=true/\l*sz<=2 ^ 24/\slT P t=true/\l<=maxLen,.rs nx 0 l,[(nx,some (.cells cs e))],[],1⟩:=
 ⟨by simp only[aop,rho,he,hs,J,hq,hf,Option.map_some],rfl,rfl⟩
theorem Ta{f:Fn}{fs cs:Array Operand}{J C:List D}(hf:fs.toList.map (fun x=>(opd env x).core)=J)(hc:cs.toList.map (fun x=>(opd env x).core)=C):Ef P (.makeFunc f fs cs) env m nx ⟨True,.fn f J C,[],[],0⟩:=⟨by simp only[aop,rho,hf,hc],rfl,rfl⟩
theorem afB:Ef P (.makeMap t none) env m nx ⟨True,.mp nx,[(nx,some (.map []))],[],1⟩:=⟨by simp only[aop],rfl,rfl⟩
theorem Bz{e:TypeId}{z:List D}(hx:(opd env x).core=.s (.int .i64 n))(hy:(opd env y).core=.s (.int .i64 n'))(he:elemP P t=e)(C:zeroP P e=z):
 Ef P (.makeSlice t x y) env m nx ⟨0<=n/\n=n'/\n<=9223372036854775807/\P.bytesOf e*n<=281474976710656/\slT P t=true,.rs nx 0 n.toNat,[(nx,some (.cells (replD n.toNat z) e))],[],1⟩:=⟨by simp only[aop,rho,hx,hy,he,C],rfl,rfl⟩
theorem aeC{src:TypeId}{C:IntKind}(hx:(opd env x).core=.s (.int k n))(J:P.underlying t=some (.int C)):Ef P (.convert src t x) env m nx ⟨tyOk P src=true,.s (.int C (C.wrap n)),[],[],0⟩:=⟨by simp only[aop,rho,hx,J],rfl,rfl⟩
theorem adp{src e:TypeId}{b:ByteArray}(hx:(opd env x).core=.s (.string b))(C:P.underlying t=some (.slice e))(he:P.underlying e=some (.int .u8)):
 Ef P (.convert src t x) env m nx ⟨stT P src=true/\b.size<=maxLen,.sl (b.data.toList.map fun c=>.s (.int .u8 c.toNat)) b.size,[],[],0⟩:=⟨by simp only[aop,rho,hx,C,he],rfl,rfl⟩
def c7(b:ByteArray):List Int:=b.data.toList.map fun c=>(c.toNat:Int)
theorem Y0(b:ByteArray):(c7 b).length=b.size:=by unfold c7;rw[List.length_map];rfl
theorem QK{src e:TypeId}{b:ByteArray}(hx:(opd env x).core=.s (.string b))(C:P.underlying t=some (.slice e))(he:P.underlying e=some (.int .u8)):
 Ef P (.convert src t x) env m nx ⟨stT P src=true/\b.size<=maxLen,.sl ((c7 b).map fun n=>.s (.int .u8 n)) (c7 b).length,[],[],0⟩:=by
 have:=adp (P:=P) (env:=env) (m:=m) (nx:=nx) (t:=t) (src:=src) hx C he;have h:(c7 b).map (fun n=>D.s (.int .u8 n))=b.data.toList.map (fun c=>D.s (.int .u8 c.toNat)):=by rw[c7,List.map_map];rfl
 rw[Y0,h];exact this
theorem wq{es es':List D}{l:Nat}{lo hi:Option Operand}{a b:Int}{e:TypeId}{sz:Nat}(hx:(opd env x).core=.sl es l)(he:elemP P t=e)(hs:P.cellsOf e=sz)
 (ha:bndD (lo.map fun x=>(opd env x).core) 0=some a) (hb:bndD (hi.map fun x=>(opd env x).core) l=some b) (hd:(es.drop (a.toNat*sz)).take ((b - a).toNat*sz)=es'):
 Ef P (.slice t x lo hi none) env m nx ⟨slT P t=true/\0<=a/\a<=b/\b<=l,.sl es' (b - a).toNat,[],[],0⟩:=by
 refine⟨?_,rfl,rfl⟩;show sliceD P m t (opd env x).core (lo.map fun x=>(opd env x).core) (hi.map fun x=>(opd env x).core) (Option.map (fun x=>(opd env x).core) none)=_;rw[hx];simp only[sliceD,Option.map_none,ha,hb,he,hs,hd]
theorem J9{i off l:Nat}{cs:List D}{lo hi:Option Operand}{a b:Int}{e:TypeId}{sz:Nat}(hx:(opd env x).core=.rs i off l)(hm:m i=some (.cells cs e))(he:elemP P t=e)(hs:P.cellsOf e=sz)
 (ha:bndD (lo.map fun x=>(opd env x).core) 0=some a) (hb:bndD (hi.map fun x=>(opd env x).core) l=some b):
 Ef P (.slice t x lo hi none) env m nx ⟨(slT P t=true/\sz=sz)/\0<=a/\a<=b/\b<=l,.rs i (off+a.toNat*sz) (b - a).toNat,[],[i],0⟩:=by
 refine⟨?_,rfl,rfl⟩;show sliceD P m t (opd env x).core (lo.map fun x=>(opd env x).core) (hi.map fun x=>(opd env x).core) (Option.map (fun x=>(opd env x).core) none)=_;rw[hx];simp only[sliceD,hm,Option.map_none,ha,hb,he,hs]
theorem yr{i:Nat}{es:List (Value×D)}{key:Value}{ok:Bool}{kt:TypeId}(hx:(opd env x).core=.mp i)(hm:m i=some (.map es))(hk:keyV (opd env y).core=some key)(ht:mkeyP P t=kt)(hg:gotD P t ok (lookD key es)=v):
 Ef P (.lookup t x y ok) env m nx ⟨mapT P t=true/\keyP P kt key=true/\es.all (fun e=>keyP P kt e.1)=true,v,[],[i],0⟩:=by
 refine⟨?_,rfl,rfl⟩;show lookupD P m t (opd env x).core (opd env y).core ok=_;simp only[lookupD,hk,hx,hm,ht,hg]
theorem Gy{es:List (Value×D)}{key:Value}{ok:Bool}{kt:TypeId}(hx:(opd env x).core=.im es)(hk:keyV (opd env y).core=some key)(ht:mkeyP P t=kt)(hg:gotD P t ok (lookD key es)=v):
 Ef P (.lookup t x y ok) env m nx ⟨mapT P t=true/\keyP P kt key=true/\es.all (fun e=>keyP P kt e.1)=true,v,[],[],0⟩:=by
 refine⟨?_,rfl,rfl⟩;show lookupD P m t (opd env x).core (opd env y).core ok=_;simp only[lookupD,hk,hx,ht,hg]
theorem Hx{i:Nat}{es:List (Value×D)}{key:Value}{z:Operand}{kt:TypeId}(hx:(opd env x).core=.mp i)(hm:m i=some (.map es))(hk:keyV (opd env y).core=some key)(C:(opd env z).core=v)(ht:mkeyP P t=kt):
 Ef P (.mapUpdate t x y z) env m nx ⟨mapT P t=true/\keyP P kt key=true/\es.all (fun e=>keyP P kt e.1)=true,.tup [],[(i,some (.map (putD key v es)))],[i],0⟩:=by
 refine⟨?_,rfl,rfl⟩;show mapPutD P m t (opd env x).core (opd env y).core (opd env z).core=_;simp only[mapPutD,hk,hx,hm,ht,C]
end
theorem iE{α:Type}{f:α->D}:∀ {l:List α} {k:Nat} {x:α},l[k]? =some x->(l.map f).drop k=f x::(l.drop (k+1)).map f
 |[],k,x,h=>by simp at h
 |a::l,0,x,h=>by simp at h;subst h;rfl
 |a::l,k+1,x,h=>by simpa using iE (f:=f) (l:=l) (k:=k) (by simpa using h)
theorem PT{α:Type}{f:α->List D}{sz:Nat}(hs:∀ x,(f x).length=sz):∀ {l:List α} {k:Nat} {x:α},l[k]? =some x->(l.flatMap f).drop (k*sz)=f x++(l.drop (k+1)).flatMap f
 |[],k,x,h=>by simp at h
 |a::l,0,x,h=>by simp at h;subst h;simp
 |a::l,k+1,x,h=>by
  have h1:(k+1)*sz=(f a).length+k*sz:=by rw[hs];rw[Nat.add_mul];omega
  simp only[List.flatMap_cons,h1,List.drop_append,List.drop_succ_cons];rw[List.drop_of_length_le oG];have:(f a).length+k*sz - (f a).length=k*sz:=by omega
  rw[this];simpa using PT hs (l:=l) (k:=k) (by simpa using h)
theorem Ph{α:Type}{f:α->List D}{sz:Nat}(hs:∀ x,(f x).length=sz):∀ (l:List α),(l.flatMap f).length=l.length*sz
 |[]=>by simp
 |a::l=>by simp only[List.flatMap_cons,List.length_append,hs,Ph hs l,List.length_cons,Nat.add_mul];omega
section
variable{P:Program}{env:Env}{m:Mem}{nx:Nat}{t e:TypeId}{x y:Operand}{k:IntKind}
theorem Tb{α:Type}{f:α->D}{l:List α}{i n:Nat}{z:α}(hx:(opd env x).core=.sl (l.map f) n)(hy:(opd env y).core=.s (.int k i))(he:elemP P t=e)(hs:P.cellsOf e=1)(C:l[i]? =some z):
 Ef P (.indexAddr t x y) env m nx ⟨slT P t=true/\0<=(i:Int)/\(i:Int)<n/\((i:Int).toNat+1)*1<=(l.map f).length,.pt (f z::(l.drop (i+1)).map f),[],[],0⟩:=
 LN hx hy he hs (by rw[bN,Nat.mul_one];exact iE C)
theorem Tc{α:Type}{f:α->D}{l:List α}{i:Nat}{z:α}(ht:slT P t=true)(C:l[i]? =some z):slT P t=true/\0<=(i:Int)/\(i:Int)<l.length/\((i:Int).toNat+1)*1<=(l.map f).length:=by
 have:=(bw.1 C).1;exact⟨ht,oG,oG,by simp;omega⟩
theorem yF{α:Type}{f:α->List D}{sz:Nat}{l:List α}{i n:Nat}{z:α}(hx:(opd env x).core=.sl (l.flatMap f) n)(hy:(opd env y).core=.s (.int k i))(he:elemP P t=e)(hs:P.cellsOf e=sz)(hl:∀ x,(f x).length=sz)(C:l[i]? =some z):
 Ef P (.indexAddr t x y) env m nx ⟨slT P t=true/\0<=(i:Int)/\(i:Int)<n/\((i:Int).toNat+1)*sz<=(l.flatMap f).length,.pt (f z++(l.drop (i+1)).flatMap f),[],[],0⟩:=
 LN hx hy he hs (by rw[bN];exact PT hl C)
theorem yG{α:Type}{f:α->List D}{sz:Nat}{l:List α}{i:Nat}{z:α}(ht:slT P t=true)(hl:∀ x,(f x).length=sz)(C:l[i]? =some z):slT P t=true/\0<=(i:Int)/\(i:Int)<l.length/\((i:Int).toNat+1)*sz<=(l.flatMap f).length:=by
 have:=(bw.1 C).1;refine⟨ht,oG,oG,?_⟩;rw[Ph hl,bN];exact Nat.mul_le_mul_right _ this
theorem Td{v:D}{cs:List D}(ht:tyOk P t=true)(hc:P.cellsOf t=1):tyOk P t=true/\P.cellsOf t<=(v::cs).length:=⟨ht,by rw[hc];simp⟩
theorem gP{v:D}{cs cs':List D}{off:Nat}(ht:tyOk P t=true)(hc:P.cellsOf t=1)(hd:cs.drop off=v::cs'):tyOk P t=true/\off+P.cellsOf t<=cs.length:=by
 refine⟨ht,?_⟩;have:(cs.drop off).length=cs'.length+1:=by rw[hd];rfl
 rw[List.length_drop] at this;omega
theorem mI{n:Nat}{cs:List D}(ht:tyOk P t=true)(hc:P.cellsOf t=n)(hl:n<=cs.length):tyOk P t=true/\P.cellsOf t<=cs.length:=⟨ht,by rw[hc];exact hl⟩
theorem ez{n off:Nat}{cs:List D}(ht:tyOk P t=true)(hc:P.cellsOf t=n)(hl:off+n<=cs.length):tyOk P t=true/\off+P.cellsOf t<=cs.length:=⟨ht,by rw[hc];exact hl⟩
theorem sv{n:Nat}(hc:P.cellsOf t=n+1):0<P.cellsOf t:=by omega
theorem dt{n off:Nat}{cs vs:List D}(ht:tyOk P t=true)(hc:P.cellsOf t=n)(hv:vs.length=n/\off+n<=cs.length)(C:vs.all D.one=true):tyOk P t=true/\vs.length=P.cellsOf t/\off+P.cellsOf t<=cs.length/\vs.all D.one=true:=
 ⟨ht,by rw[hc];exact hv.1,by rw[hc];exact hv.2,C⟩
end
section
variable{P:Program}{K:D->St->Prop}{st:St}
theorem wE(h:K (.tup []) st):retQ P [] K .ret st:=h
theorem qN(h:K (.tup []) st):retQ P [] K .normal st:=h
theorem av{t:Nat}{d:D}(hd:st.env t=d)(h:K d st):retQ P [.tmp t] K .ret st:=⟨trivial,by subst hd;exact h⟩
theorem fj{t u:Nat}{d e:D}(hd:st.env t=d)(he:st.env u=e)(h:K (.tup [d,e]) st):retQ P [.tmp t,.tmp u] K .ret st:=⟨trivial,trivial,by subst hd;subst he;exact h⟩
theorem mF{a i off n:Nat}{ty e:TypeId}{cs vs:List D}(ha:st.env a=.rp i off)(hm:st.mem i=some (.cells cs e))(hg:aggP P ty=true)(hc:P.cellsOf ty=n)(hv:(cs.drop off).take n=vs)(ht:tyOk P ty=true)(hl:off+n<=cs.length):
 ∃ p,resD P st (.cell a ty)=some (p,.agg vs)/\p:=⟨tyOk P ty=true/\off+n<=cs.length,by simp only[resD,ha,hm,takeV,hg,if_true,hc,hv],ht,hl⟩
theorem nH{a:Nat}{ty:TypeId}{d:D}(hr:∃ p,resD P st (.cell a ty)=some (p,d)/\p)(h:K d st):retQ P [.cell a ty] K .ret st:=by
 obtain⟨p,h1,h2⟩:=hr;simp only[retQ,retL,h1];exact⟨h2,h⟩
theorem JE{a t:Nat}{ty:TypeId}{d e:D}(hr:∃ p,resD P st (.cell a ty)=some (p,d)/\p)(he:st.env t=e)(h:K (.tup [d,e]) st):retQ P [.cell a ty,.tmp t] K .ret st:=by
 obtain⟨p,h1,h2⟩:=hr;simp only[retQ,retL,h1];exact⟨h2,trivial,by subst he;exact h⟩
end
section
variable{P:Program}{Y:YSpec}{rf:Bool}{Q:Exit->St->Prop}{st:St}
theorem ap{l:List (Nat×D)}{env:Env}{m:Mem}{nx:Nat}(h:jM l env):Ghost P ⟨env,m,nx⟩ ⟨aD l,m,nx⟩:=.forget env _ m nx (pL h)
def My(P:Program):List (Nat×List D×TypeId)->Mem->Prop
 |[],_=>True
 |(i,cs,e)::fs,m=>m i=some (.cells cs e)/\My P fs (fun j=>if j=i then none else(m j).map (Row.sub (fz0 i cs (P.cellsOf e))))
def uh(P:Program):List (Nat×List D×TypeId)->D->D
 |[],d=>d
 |(i,cs,e)::fs,d=>uh P fs (sub (fz0 i cs (P.cellsOf e)) d)
theorem PV:∀ {fs:List (Nat×List D×TypeId)} {env:Env} {m:Mem} {nx:Nat},My P fs m->∃ m',Ghost P ⟨env,m,nx⟩ ⟨fun t=>uh P fs (env t),m',nx⟩
 |[],env,m,nx,_=>⟨m,.refl _⟩
 |(i,cs,e)::fs,env,m,nx,⟨h1,h2⟩=>by
  obtain⟨m',h⟩:=PV (env:=fun t=>sub (fz0 i cs (P.cellsOf e)) (env t)) (nx:=nx) h2;exact⟨m',(Ghost.freeze env m nx i cs e h1).trans h⟩
theorem bG{env:Env}{m:Mem}{nx:Nat}(fs:List (Nat×List D×TypeId))(hf:My P fs m){l:List (Nat×D)}(hl:jM l fun t=>uh P fs (env t)):Ghost P ⟨env,m,nx⟩ ⟨aD l,fun _=>none,nx⟩:=by
 obtain⟨m',h⟩:=PV (env:=env) (nx:=nx) hf;exact h.trans ((Ghost.forget _ _ _ _ (pL hl)).trans (Ghost.drop _ _ _ _ fun _=>.inr rfl))
def mQ(iD id:Nat)(next:St->Prop)(Q:Exit->St->Prop):Exit->St->Prop
 | .normal,s=>next s
 | .exit i,s=>if i=iD then next s else if i=id then Q .normal s else Q (.exit i) s
 |e,s=>Q e s
def sw(P:Program){α:Type}(S:α->St)(J:α->Prop)(μ:α->Nat)(x:α)(s:St):Prop:=∃ C,Ghost P s (S C)/\J C/\μ C<μ x
theorem aK{α:Type}{S:α->St}{J:α->Prop}{μ:α->Nat}{x:α}{s:St}(C:α)(hg:Ghost P s (S C))(M:J C)(X:μ C<μ x):sw P S J μ x s:=⟨C,hg,M,X⟩
theorem BG[eC Y]{b:Code}{α:Type}(S:α->St)(J:α->Prop)(μ:α->Nat)(C:α)(hg:Ghost P st (S C))(X:J C)(h:∀ x,J x->AW P Y rf b (seqQ (sw P S J μ x) Q) (S x)){a:Code}(ha:∀ st,Q .normal st->Q .normal st):
 ∃ st',Ghost P st st'/\AW P Y rf (.loop b) Q st':=
 ⟨S C,hg,adr S J μ C rfl X fun x hx=>wu b (fun e st' hq=>by
  cases e with
  |normal=>
   obtain⟨M,h1,h2,h3⟩:=hq;exact⟨S M,M,h1,rfl,h2,h3⟩
  |_=>exact hq) (h x hx)⟩
variable{id iD t i1 i2 i3 i4:Nat}{rc ri:Array Oper}{body rest:Code}{α:Type}
theorem KK[eC Y]{ri:Array Oper}{next:St->Prop}{s:St}(h:AW P Y rf body (mQ iD id (fun s=>AOps P Y ri false [] (gK next) ri.toList s []) Q) s):
 AW P Y rf (.seq (.block iD body) (.region i3 ri false)) (seqQ next (blockQ id Q)) s:=by
 refine wu body (fun e s h=>?_) h;have hr:∀ s,AOps P Y ri false [] (gK next) ri.toList s []->∃ s',Ghost P s s'/\AW P Y rf (.region i3 ri false) (seqQ next (blockQ id Q)) s':=fun s h=>⟨s,.refl s,qG (rf:=rf) (id:=i3) (AOps.lA h fun _ h=>h)⟩
 cases e with
 |normal=>exact hr s h
 |exit i=>
  simp only[mQ] at h;simp only[blockQ];split at h
  .rename_i hi;rw[if_pos hi];exact hr s h
  .rename_i hi;rw[if_neg hi];simp only[seqQ,blockQ];exact h
 |_=>exact h
theorem dV[eC Y](S:α->St)(J:α->Prop)(μ:α->Nat)(C:α)(hg:Ghost P st (S C))(M:J C)
 (h:∀ x,J x->AOps P Y rc false [] (gK fun s=>∃ g,opd s.env (.tmp t)=.s (.bool g)/\(g=true->AW P Y rf body (mQ iD id (fun s=>AOps P Y ri false [] (gK (sw P S J μ x)) ri.toList s []) Q) s)/\(g=false->Q .normal s)) rc.toList (S x) []):
 ∃ st',Ghost P st st'/\AW P Y rf (.block id (.loop (.seq (.region i1 rc false) (.seq (.cond (.tmp t) .skip (.exit id)) (.seq (.block iD body) (.region i3 ri false)))))) Q st':=by
 refine BG (Q:=blockQ id Q) S J μ C hg M (fun x hx=>?_) (a:=.skip) fun _ h=>h;refine qG (rf:=rf) (id:=i1) (AOps.lA (h x hx) fun s hs=>?_);obtain⟨g,h1,h2,h3⟩:=hs;refine⟨s,.refl s,cx h1 (fun X=>?_) fun xE=>?_⟩
 .exact bP (KK (h2 X))
 .refine jw ?_;simp only[seqQ,blockQ,if_true];exact h3 xE
theorem cQ[eC Y](S:α->St)(J:α->Prop)(μ:α->Nat)(C:α)(hg:Ghost P st (S C))(M:J C)
 (h:∀ x,J x->AOps P Y rc false [] (gK fun s=>∃ g,opd s.env (.tmp t)=.s (.bool g)/\(g=true->AW P Y rf body (mQ iD id (fun s=>AOps P Y ri false [] (gK (sw P S J μ x)) ri.toList s []) Q) s)/\(g=false->Q .normal s)) rc.toList (S x) []):
 ∃ st',Ghost P st st'/\AW P Y rf (.block id (.loop (.seq (.seq (.region i1 rc false) (.cond (.tmp t) .skip (.exit id))) (.seq (.block iD body) (.region i3 ri false))))) Q st':=by
 refine BG (Q:=blockQ id Q) S J μ C hg M (fun x hx=>?_) (a:=.skip) fun _ h=>h;refine aB (qG (rf:=rf) (id:=i1) (AOps.lA (h x hx) fun s hs=>?_));obtain⟨g,h1,h2,h3⟩:=hs;refine⟨s,.refl s,cx h1 (fun X=>?_) fun xE=>?_⟩
 .exact bP (KK (h2 X))
 .refine jw ?_;simp only[seqQ,blockQ,if_true];exact h3 xE
theorem abU[eC Y]{next:St->Prop}{s:St}(h:AW P Y rf body (mQ iD id next Q) s):AW P Y rf (.block iD body) (seqQ next (blockQ id Q)) s:=by
 refine wu body (fun e s h=>?_) h;cases e with
 |exit i=>
  simp only[mQ] at h;simp only[blockQ];split at h
  .rename_i hi;rw[if_pos hi];exact h
  .rename_i hi;rw[if_neg hi];simp only[seqQ,blockQ];exact h
 |_=>exact h
theorem yx[eC Y](S:α->St)(J:α->Prop)(μ:α->Nat)(C:α)(hg:Ghost P st (S C))(M:J C)
 (h:∀ x,J x->AOps P Y rc false [] (gK fun s=>∃ g,opd s.env (.tmp t)=.s (.bool g)/\(g=true->AW P Y rf body (mQ iD id (sw P S J μ x) Q) s)/\(g=false->Q .normal s)) rc.toList (S x) []):
 ∃ st',Ghost P st st'/\AW P Y rf (.block id (.loop (.seq (.seq (.region i1 rc false) (.cond (.tmp t) .skip (.exit id))) (.block iD body)))) Q st':=by
 refine BG (Q:=blockQ id Q) S J μ C hg M (fun x hx=>?_) (a:=.skip) fun _ h=>h;refine aB (qG (rf:=rf) (id:=i1) (AOps.lA (h x hx) fun s hs=>?_));obtain⟨g,h1,h2,h3⟩:=hs;refine⟨s,.refl s,cx h1 (fun X=>?_) fun xE=>?_⟩
 .exact bP (abU (h2 X))
 .refine jw ?_;simp only[seqQ,blockQ,if_true];exact h3 xE
theorem bS{s:St}(h:Q .normal s):AW P Y rf .skip Q s:=h
theorem aY{s:St}(h:Q .ret s):AW P Y rf .ret Q s:=h
theorem aeE{s:St}{i:Nat}(h:Q (.exit i) s):AW P Y rf (.exit i) Q s:=h
theorem br{next:St->Prop}{s:St}(h:Q .ret s):mQ iD id next Q .ret s:=h
theorem aR{K:St->Prop}{s:St}(h:Q .ret s):seqQ K Q .ret s:=h
theorem bO{s:St}(h:Q .ret s):blockQ id Q .ret s:=h
theorem KL{s:St}(h:Q .ret s):scopeQ Q .ret s:=h
theorem mO{next:St->Prop}{s:St}(h:next s):mQ iD id next Q (.exit iD) s:=by simp only[mQ,if_true];exact h
theorem ads{next:St->Prop}{s:St}(C:id≠iD)(h:Q .normal s):mQ iD id next Q (.exit id) s:=by simp only[mQ,if_neg C,if_true];exact h
theorem afG{i:Nat}{next:St->Prop}{s:St}(h2:i≠iD)(h1:i≠id)(h:Q (.exit i) s):mQ iD id next Q (.exit i) s:=by simp only[mQ,if_neg h2,if_neg h1];exact h
theorem Tf{K:St->Prop}{i:Nat}{s:St}(h:Q (.exit i) s):seqQ K Q (.exit i) s:=h
theorem oD[eC Y]{a:Code}(h:AW P Y rf a (blockQ id (seqQ (fun st=>AW P Y rf rest Q st) Q)) st):AW P Y rf (.seq (.block id a) rest) Q st:=Uj (fun st=>AW P Y rf rest Q st) (oI h) fun _ h=>h
theorem nI{s:St}(h:AW P Y rf rest Q s):AW P Y rf .skip (blockQ id (seqQ (fun st=>AW P Y rf rest Q st) Q)) s:=h
theorem Tg[eC Y]{a:Code}(h:AW P Y rf a (seqQ (fun st=>AW P Y rf rest Q st) Q) st):AW P Y rf (.seq a rest) Q st:=Uj _ h fun _ h=>h
theorem lm[eC Y]{r:Array Oper}{i:Nat}{J:St->Prop}(h:AOps P Y r false [] (gK J) r.toList st []):AW P Y rf (.region i r false) (seqQ J Q) st:=qG (rf:=rf) (id:=i) (AOps.lA h fun _ h=>h)
theorem nE[eC Y]{r:Array Oper}{i:Nat}{J:St->Prop}(h:AOps P Y r false [] (gK J) r.toList st []):AW P Y rf (.region i r false) (blockQ id (seqQ J Q)) st:=qG (rf:=rf) (id:=i) (AOps.lA h fun _ h=>h)
theorem bd{J:St->Prop}(h:J st):AW P Y rf .skip (seqQ J Q) st:=h
theorem Ke{J:St->Prop}(h:J st):AW P Y rf .skip (blockQ id (seqQ J Q)) st:=h
theorem bR[eC Y]{a:Code}(R:St->Prop)(h:∃ st',Ghost P st st'/\AW P Y rf a (seqQ R Q) st')(k:∀ s,R s->∃ s',Ghost P s s'/\AW P Y rf rest Q s'):∃ st',Ghost P st st'/\AW P Y rf (.seq a rest) Q st':=by
 obtain⟨st',hg,h⟩:=h;exact⟨st',hg,eI R h k⟩
end
def Real(d:D):Prop:=∃ F β w v,R F β w d v
theorem Real.sl{es:List D}{n:Nat}(h:Real (.sl es n)):n<=maxLen/\∀ d∈es,Real d:=by
 obtain⟨F,β,w,v,h⟩:=h;cases h with
 |sln=>simp[maxLen]
 |sl _ _ b o cap us hf hb ao sB fT hc C=>
  refine⟨Nat.le_trans sB fT,fun d hd=>?_⟩;obtain⟨k,hk⟩:=cC hd;exact⟨F,β,w,_,C k d hk⟩
theorem Real.agg{cs:List D}(h:Real (.agg cs)):∀ d∈cs,Real d:=by
 obtain⟨F,β,w,v,h⟩:=h;obtain⟨vs,rfl,hl,C⟩:=h.agg_inv;intro d hd;obtain⟨k,hk⟩:=cC hd;have:k<vs.length:=by rw[hl];exact(bw.1 hk).1
 exact⟨F,β,w,_,C k d vs[k] hk (by simp[this])⟩
theorem adt{F:Nat->Prop}{β:Pla}{w:World}{args:List D}{vs:Array Value}(h:Rs F β w args vs):∀ a∈args,Real a:=fun a ha=>by
 obtain⟨k,hk⟩:=cC ha;have:k<vs.size:=by rw[h.1];exact(bw.1 hk).1
 exact⟨F,β,w,vs[k],h.2 k a _ hk (by simp[this])⟩
theorem mG{P:Program}{f:FuncId}{args:List D}{r:D}(he:enterOk P f=true)(ht:∀ a∈args,Tr a)(h:(∀ a∈args,Real a)->PCall P f args r):PCall P f args r:=
 ⟨he,ht,fun F w vs hF hR=>(h (adt hR)).2.2 F w vs hF hR⟩
section
variable{P:Program}{m:Mem}{rds:List Nat}
theorem c8{a:D}(h:Tr a):Sn P rds m a a:=fun _ _ _ _ _ hv=>h.B9 hv
theorem LW{i off n:Nat}{cs es:List D}{e:TypeId}(hm:m i=some (.cells cs e))(hi:i∈rds)(J:(cs.drop off).take (n*P.cellsOf e)=es)(ht:∀ a∈es,Tr a):Sn P rds m (.rs i off n) (.sl es n):=fun F β w v hl hv=>by
 subst J;obtain⟨p,hp,hr,X⟩:=hl i hi _ hm;cases hv with
 |rsd _ _ _ _ h1 _=>rw[h1] at hp;cases hp;cases hr
 |rsn _ a h1=>
  rw[h1] at hp;cases hp;cases hr;simp only[List.drop_nil,List.take_nil];exact .sln a 0
 |rsz _ _ a b o len room sz h1=>
  simp only[Nat.zero_mul,List.take_zero];exact .sln a 0
 |rs _ _ _ cap b o len room sz h1 hn fT h2 h3=>
  rw[h1] at hp;cases hp
  have ao:b<w.heap.size:=by
   cases hr with
   |cells _ _ _ _ _ _ c hb _ _ _ _=>exact(Array.getElem?_eq_some_iff.1 hb).1
  obtain⟨C,hl,cE,_⟩:=hr.rd;obtain⟨us,M,u2⟩:=(C.drop off).take (n*P.cellsOf e);exact .sl _ n b (o+off) cap us (X b rfl) (fun k q hq=>by cases hq) ao hn fT M fun k d hk=>(ht d (bU hk)).B9 (u2 k d hk)
theorem Un{i off:Nat}{cs es:List D}{e:TypeId}(hm:m i=some (.cells cs e))(hi:i∈rds)(J:cs.drop off=es)(ht:∀ a∈es,Tr a):Sn P rds m (.rp i off) (.pt es):=fun F β w v hl hv=>by
 subst J;obtain⟨p,hp,hr,X⟩:=hl i hi _ hm;cases hv with
 |rpd _ _ _ h1 _=>rw[h1] at hp;cases hp;cases hr
 |rp _ _ b o len room sz h1=>
  rw[h1] at hp;cases hp
  have ao:b<w.heap.size:=by
   cases hr with
   |cells _ _ _ _ _ _ c hb _ _ _ _=>exact(Array.getElem?_eq_some_iff.1 hb).1
  obtain⟨C,hl,cE,_⟩:=hr.rd;obtain⟨us,M,u2⟩:=C.drop off;exact .pt _ b (o+off) us (X b rfl) (fun k q hq=>by cases hq) ao M fun k d hk=>(ht d (bU hk)).B9 (u2 k d hk)
variable{Y:YSpec}{rf:Bool}{ops:Array Oper}{dr:Bool}{cf:List (Nat×Nat)}{Q:Exit->St->Prop}{rest:List Oper}{env:Env}{nx:Nat}{tr:Tra}{t:Nat}{op:Op}{ty:TypeId}{pos:String}{after:Array Edge}
 {pre:Prop} {v:D} {rd:List Nat}
theorem aeJ{j:Nat}{b:Bool}{u:Nat}{row:Row}(hj:(ops[j]?).bind (·.dst)=some u)(hg:guardC (env u) b=some true)(he:Ef P op env m nx ⟨pre,v,[(nx,some row)],rd,1⟩)(ha:iY env op.operands.toList)(hp:pre)
 (K:AOps P Y ops dr cf Q rest ⟨up env t v,up m nx (some row),nx+1⟩ (tr++[(rd,[nx])])):AOps P Y ops dr cf Q (⟨some t,op,ty,pos,after,some (j,b)⟩::rest) ⟨env,m,nx⟩ tr:=
 afK hj hg he ha hp (fun h=>by cases h) K
theorem Hz{j:Nat}{b:Bool}{u:Nat}{f:FuncId}{args args':List D}{r:D}{rds:List Nat}(h:PCall P f args' r)(hs:r.scal=true)(hj:(ops[j]?).bind (·.dst)=some u)(hg:guardC (env u) b=some true)(hc:callD (rho env op) op=some (f,args))(C:Sns P rds m args args')(ha:iY env op.operands.toList)
 (K:AOps P Y ops dr cf Q rest ⟨up env t r,m,nx⟩ (tr++[(rds,[])])):AOps P Y ops dr cf Q (⟨some t,op,ty,pos,after,some (j,b)⟩::rest) ⟨env,m,nx⟩ tr:=
 abX hj hg hc ha (.inr (.inl ⟨args',rds,r,C,h,hs,K⟩))
end
section
variable{P:Program}{Y:YSpec}{rf:Bool}{ops:Array Oper}{dr:Bool}{cf:List (Nat×Nat)}{Q:Exit->St->Prop}{rest:List Oper}{env:Env}{m:Mem}{nx:Nat}{tr:Tra}{t:Nat}{ty:TypeId}{pos:String}{after:Array Edge}
theorem aav{j:Nat}{b0 C:Bool}{u:Nat}(hj:(ops[j]?).bind (·.dst)=some u)(hg:guardC (env u) b0=some C){c a b:Operand}{x:Bool}(hc:(opd env c).core=.s (.bool true))(ha:(opd env a).core=.s (.bool x))
 (h0:C=true->(opd env c).ask) (h1:C=true->(opd env a).ask) (K:AOps P Y ops dr cf Q rest ⟨up env t (.opt C (.s (.bool x))),m,nx⟩ (tr++[([],[])])):
 AOps P Y ops dr cf Q (⟨some t,.pick c a b,ty,pos,after,some (j,b0)⟩::rest) ⟨env,m,nx⟩ tr:=by
 have he:=BH (P:=P) (env:=env) (m:=m) (nx:=nx) (a:=a) (b:=b) hc;simp only[ha,D.bool?,Option.getD_some,if_true] at he;simp only[AOps,AOp];rw[hj];simp only[Option.bind_some];rw[hg,he.nc,he.ny,he.ok];exact⟨fun hc=>⟨by simp only[asks];exact h0 hc,fun _=>⟨h1 hc,rfl⟩,fun h=>by cases h⟩,K⟩
theorem aaw{j:Nat}{b0 C:Bool}{u:Nat}(hj:(ops[j]?).bind (·.dst)=some u)(hg:guardC (env u) b0=some C){c a b:Operand}{y:Bool}(hc:(opd env c).core=.s (.bool false))(hb:(opd env b).core=.s (.bool y))
 (h0:C=true->(opd env c).ask) (h1:C=true->(opd env b).ask) (K:AOps P Y ops dr cf Q rest ⟨up env t (.opt C (.s (.bool y))),m,nx⟩ (tr++[([],[])])):
 AOps P Y ops dr cf Q (⟨some t,.pick c a b,ty,pos,after,some (j,b0)⟩::rest) ⟨env,m,nx⟩ tr:=by
 have he:=BH (P:=P) (env:=env) (m:=m) (nx:=nx) (a:=a) (b:=b) hc;simp only[hb,D.bool?,Option.getD_some,Bool.false_eq_true,if_false] at he;simp only[AOps,AOp];rw[hj];simp only[Option.bind_some];rw[hg,he.nc,he.ny,he.ok];exact⟨fun hc=>⟨by simp only[asks];exact h0 hc,fun h=>oH,fun _=>⟨h1 hc,rfl⟩⟩,K⟩
variable{id:Nat}{st:St}
theorem Kg[eC Y]{i:Nat}{J:St->Prop}(hi:drawInfo ops=some cf)(h:AOps P Y ops true cf (gK J) ops.toList st []):AW P Y rf (.region i ops true) (blockQ id (seqQ J Q)) st:=BW (rf:=rf) (id:=i) hi (AOps.lA h fun _ h=>h)
theorem abY{r:Option Row}{i:Nat}(h:m i=r):∀ j,up (fun _=>none) i r j=m j\/up (fun _=>none) i r j=none:=fun j=>by
 by_cases hj:j=i
 .subst hj;left;rw[up_same,h]
 .right;rw[up_ne _ _ hj]
theorem pM[eC Y]{i iD:Nat}{next:St->Prop}(hi:drawInfo ops=some cf)(h:AOps P Y ops true cf (gK next) ops.toList st []):AW P Y rf (.region i ops true) (mQ iD id next Q) st:=BW (rf:=rf) (id:=i) hi (AOps.lA h fun _ h=>h)
theorem ff[eC Y]{i iD:Nat}{next:St->Prop}(h:AOps P Y ops false [] (gK next) ops.toList st []):AW P Y rf (.region i ops false) (mQ iD id next Q) st:=qG (rf:=rf) (id:=i) (AOps.lA h fun _ h=>h)
def bf:List (Nat×Row)->Mem
 |[],_=>none
 |(i,r)::l,j=>if j=i then some r else bf l j
def Er:List (Nat×Row)->Mem->Prop
 |[],_=>True
 |(i,r)::l,m=>m i=some r/\Er l m
theorem KM:∀ {l:List (Nat×Row)} {m:Mem},Er l m->∀ i,bf l i=m i\/bf l i=none
 |[],_,_,_=>.inr rfl
 |(k,r)::l,m,h,i=>by
  simp only[bf];by_cases hi:i=k
  .subst hi;rw[if_pos rfl];exact .inl h.1.symm
  .rw[if_neg hi];exact KM h.2 i
theorem aQ{l:List (Nat×D)}{ml:List (Nat×Row)}{m:Mem}{nx:Nat}(h:jM l env)(hm:Er ml m):Ghost P ⟨env,m,nx⟩ ⟨aD l,bf ml,nx⟩:=(Ghost.forget env _ m nx (pL h)).trans (.drop _ _ _ _ (KM hm))
end
section
variable{P:Program}
theorem OCall.afJ{f:FuncId}{args es:List D}{n:Nat}{t:TypeId}(h:OCall P f args es n t)(M:∀ d∈es,d.scal=true)(ht:Tr (.sl (es.take (n*P.cellsOf t)) n)):PCall P f args (.sl (es.take (n*P.cellsOf t)) n):=by
 refine⟨h.1,h.2.1,fun F w vs hF hR=>(h.2.2 F w vs hF hR).mono ?_⟩;rintro e w' ⟨v,p,h1,h2,h3,h4,h5,C⟩;refine⟨v,h1,?_,C⟩
 have b0:∀ {i q},up noRows 0 (some p) i=some q->i=0/\q=p:=fun {i q} hi=>by
  by_cases e:i=0
  .subst e;rw[up_same] at hi;cases hi;exact⟨rfl,rfl⟩
  .rw[up_ne _ _ e] at hi;cases hi
 have hm:MSim P F (up (fun _=>none) 0 (some (.cells es t))) (up noRows 0 (some p)) w':=by
  refine⟨fun i r hi=>?_,fun i j q X b hq J _ _=>(b0 hq).1.trans (b0 J).1.symm,fun i q b hq e=>?_,fun i q b hq e=>?_,fun b hb=>Nat.lt_of_lt_of_le (hF b hb) C.1⟩
  .by_cases e:i=0
   .subst e;rw[up_same] at hi;cases hi;exact⟨p,up_same _ _ _,GY ⟨es,t,rfl,M⟩ h4⟩
   .rw[up_ne _ _ e] at hi;cases hi
  .rw[(b0 hq).2] at e;exact(h3 b e).2
  .rw[(b0 hq).2] at e;intro hb;have:=hF b hb;have:=(h3 b e).1;omega
 have:=QE hm (up_same _ _ _) rfl h5;have e:fz0 0 es (P.cellsOf t) (.rs 0 0 n)=.sl (es.take (n*P.cellsOf t)) n:=by simp[fz0]
 rw[e] at this;exact ht.B9 this
end
theorem aC{α:Type}{f:Nat->α}{k j:Nat}{v r:α}(h:j≠k)(hf:f j=r):up f k v j=r:=(up_ne f v h).trans hf
theorem dI{β:Sort _}{M m:Mem}{i:Nat}{r:Option Row}(h:M=m)(x:β)(k:β->m i=r:=by intro x;repeat (first|exact x|exact rfl|exact up_same _ _ _|refine aC (by omega) ?_)):M i=r:=h ▸ k x
theorem q9{β:Sort _}{p:Prop}(x:β)(k:β->p:=by intro x;dsimp only;repeat (first|exact x|exact up_same _ _ _|refine aC (by omega) ?_)):p:=k x
theorem oX{i off sz:Nat}{cs:List D}:sub (fz0 i cs sz) (.rp i off)=.pt (cs.drop off):=by simp[sub,sub1,fz0]
theorem Cj{i off n sz:Nat}{cs:List D}:sub (fz0 i cs sz) (.rs i off n)=.sl ((cs.drop off).take (n*sz)) n:=by simp[sub,sub1,fz0]
theorem G8{i j off sz:Nat}{cs:List D}(h:j≠i):sub (fz0 i cs sz) (.rp j off)=.rp j off:=by simp[sub,sub1,fz0,h]
theorem BD{i j off n sz:Nat}{cs:List D}(h:j≠i):sub (fz0 i cs sz) (.rs j off n)=.rs j off n:=by simp[sub,sub1,fz0,h]
theorem Qt{α:Type}{f:α->List D}{sz:Nat}(hs:∀ x,(f x).length=sz):∀ (l:List α) (k:Nat),(l.flatMap f).take (k*sz)=(l.take k).flatMap f
 |[],k=>by simp
 |x::l,0=>by simp
 |x::l,k+1=>by
  rw[List.flatMap_cons,List.take_succ_cons,List.flatMap_cons, <- Qt hs l k,show(k+1)*sz=(f x).length+k*sz by rw[hs x,Nat.add_mul];omega,List.take_length_add_append]
theorem adX{α:Type}{f:α->List D}{sz k:Nat}{l:List α}(hs:∀ x,(f x).length=sz)(hk:k<=l.length):
 D.sl (((l.flatMap f).drop ((0:Int).toNat*sz)).take (((k:Int) - 0).toNat*sz)) ((k:Int) - 0).toNat=D.sl ((l.take k).flatMap f) (l.take k).length:=by
 have h1:((k:Int) - 0).toNat=k:=by omega
 have h2:(0:Int).toNat*sz=0:=by simp
 rw[h1,h2,List.drop_zero,Qt hs,List.length_take,Nat.min_eq_left hk]
section
variable{P:Program}{env:Env}{m:Mem}{nx:Nat}{x y z:Operand}{t:TypeId}{v:D}
theorem ab3{i:Nat}{es:List (Value×D)}{key:Value}{kt:TypeId}(hx:(opd env x).core=.mp i)(hm:m i=some (.map es))(hk:keyV (opd env y).core=some key)(C:(opd env z).core=v)(ht:mkeyP P t=kt):
 Ef P (.insert t x y z) env m nx ⟨mapT P t=true/\keyP P kt key=true/\es.all (fun e=>keyP P kt e.1)=true,.tup [],[(i,some (.map (putD key v es)))],[i],0⟩:=by
 refine⟨?_,rfl,rfl⟩;show mapPutD P m t (opd env x).core (opd env y).core (opd env z).core=_;simp only[mapPutD,hk,hx,hm,ht,C]
variable{n n':Int}{k:IntKind}{c:Bool}{p:TypeId}{n0:Nat}
theorem Tm(hx:(opd env x).core=.s (.int k n))(hy:(opd env y).core=.s (.int k n'))(hd:decide (n'<n)=c):Ef P (.binOp .gtr t x y p) env m nx ⟨k=k,.s (.bool c),[],[],0⟩:=by subst hd;exact LI hx hy
theorem Tk(hx:(opd env x).core=.s (.int k n))(hy:(opd env y).core=.s (.int k n'))(hd:decide (n<n')=c):Ef P (.binOp .lss t x y p) env m nx ⟨k=k,.s (.bool c),[],[],0⟩:=by subst hd;exact LD hx hy
theorem To(hx:(opd env x).core=.s (.int k n))(hy:(opd env y).core=.s (.int k n'))(hd:decide (n<=n')=c):Ef P (.binOp .leq t x y p) env m nx ⟨k=k,.s (.bool c),[],[],0⟩:=by subst hd;exact LH hx hy
theorem Lh(hx:(opd env x).core=.s (.int k n))(hy:(opd env y).core=.s (.int k n'))(hd:(n==n')=c):Ef P (.binOp .eql t x y p) env m nx ⟨k=k,.s (.bool c),[],[],0⟩:=by subst hd;exact LK hx hy
theorem Tl(hx:(opd env x).core=.s (.int k n))(hy:(opd env y).core=.s (.int k n'))(hd:(n !=n')=c):Ef P (.binOp .neq t x y p) env m nx ⟨k=k,.s (.bool c),[],[],0⟩:=by subst hd;exact LL hx hy
theorem afe(hx:(opd env x).core=.s (.int k n))(hy:(opd env y).core=.s (.int k n')){r:Int}(hd:k.wrap (n.tdiv n')=r):Ef P (.binOp .quo t x y p) env m nx ⟨k=k/\n'≠0,.s (.int k r),[],[],0⟩:=by subst hd;exact aey hx hy
theorem aff(hx:(opd env x).core=.s (.int k n))(hy:(opd env y).core=.s (.int k n')){r:Int}(hd:n.tmod n'=r):Ef P (.binOp .rem t x y p) env m nx ⟨k=k/\n'≠0,.s (.int k r),[],[],0⟩:=by subst hd;exact afx hx hy
theorem Tp(hx:(opd env x).core=.s (.int k n))(hy:(opd env y).core=.s (.int k n'))(hd:decide (n'<=n)=c):Ef P (.binOp .geq t x y p) env m nx ⟨k=k,.s (.bool c),[],[],0⟩:=by subst hd;exact LJ hx hy
theorem adA{j i l:Nat}{e:TypeId}{r:Row}(hx:(opd env x).core=.rp j 0)(hy:(opd env y).core=.s (.int k (i:Int)))(hm:m j=some r)(he:elemP P t=e)(hs:P.cellsOf e=1)(hl:lenP P t=l):
 Ef P (.indexAddr t x y) env m nx ⟨arT P t=true/\i<l,.rp j i,[],[j],0⟩:=by
 have h:=S9 (P:=P) (env:=env) (m:=m) (nx:=nx) (t:=t) hx hy hm he hs hl;have h1:0+((i:Int)).toNat*1=i:=by simp
 have h2:(arT P t=true/\(0:Int)<=(i:Int)/\(i:Int)<l)=(arT P t=true/\i<l):=by
  apply propext;constructor
  .rintro⟨a,_,b⟩;exact⟨a,oG⟩
  .rintro⟨a,b⟩;exact⟨a,oG,oG⟩
 rw[h1,h2] at h;exact h
theorem nS{l:List D}{n:Nat}(h:l.length=n):(l.drop 0).take n=l:=by rw[List.drop_zero,df oG]
theorem Tx{l:List D}{n:Nat}(h:l.length=n):l.take n=l:=df oG
theorem KN{z l:List D}(C:z.length=20)(hl:l.length=20):splice z 0 l=l:=by
 unfold splice;split
 .simp at hl
 .rw[List.take_zero,List.nil_append,List.drop_eq_nil_of_le oG,List.append_nil]
theorem afc{es:List D}(hx:(opd env x).core=.sl es 0):Ef P (.binOp .eql t x (.const (.slice none 0 0)) p) env m nx ⟨slT P t=true,.ub,[],[],0⟩:=⟨by simp only[aop,rho,hx,nilD,if_true],rfl,rfl⟩
theorem afd{es:List D}{l:Nat}(hx:(opd env x).core=.sl es l)(hl:l≠0):Ef P (.binOp .eql t x (.const (.slice none 0 0)) p) env m nx ⟨slT P t=true,.s (.bool false),[],[],0⟩:=⟨by simp only[aop,rho,hx,nilD,if_neg hl],rfl,rfl⟩
theorem ly{i off n sz:Nat}{cs es:List D}{e:TypeId}(hs:P.cellsOf e=sz)(h:(cs.drop off).take (n*sz)=es):uh P [(i,cs,e)] (.rs i off n)=.sl es n:=by subst hs h;exact Cj
theorem z6(h:env n0=.z):Ghost P ⟨env,m,nx⟩ ⟨aD [(n0,.sl [] 0)],fun _=>none,nx+1⟩:=by
 have h1:=Ghost.nilrow (P:=P) env m nx n0 0 h;have h2:=bG (P:=P) (env:=up env n0 (.rs nx 0 0)) (m:=up m nx (some (.cells [] 0))) (nx:=nx+1) [(nx,[],0)] ⟨up_same _ _ _,trivial⟩ (l:=[(n0,.sl [] 0)]) ⟨(congrArg _ (up_same _ _ _)).trans (ly (sz:=P.cellsOf 0) rfl oS),trivial⟩;exact h1.trans h2
theorem od{rds:List Nat}:Sn P rds m .z (.sl [] 0):=fun F β w v _ hv=>by
 obtain⟨x,rfl⟩:=hv.z_inv;exact .sln x 0
theorem ae9{rds:List Nat}{aS bs:List D}(h:Sns P rds m aS bs):Sn P rds m (.agg aS) (.agg bs):=fun F β w v hl hv=>by
 obtain⟨vs,rfl,hn,C⟩:=hv.agg_inv;obtain⟨h1,h2⟩:=sns_R hl h;refine .agg _ vs oG fun k d u hd J=>?_;have hk:k<aS.length:=by rw[h1];exact(bw.1 hd).1
 exact h2 k aS[k] d (by simp[hk]) hd u (C k aS[k] u (by simp[hk]) J)
theorem Q6{l:List (Nat×D)}{m':Mem}(h:jM l env)(hm:∀ i,m' i=m i\/m' i=none):Ghost P ⟨env,m,nx⟩ ⟨aD l,m',nx⟩:=(Ghost.forget env _ m nx (pL h)).trans (.drop _ _ _ _ hm)
def Nd:List (Nat×List (Value×D))->Mem->Prop
 |[],_=>True
 |(i,es)::fs,m=>m i=some (.map es)/\Nd fs (fun j=>if j=i then none else(m j).map (Row.sub (fm0 i es)))
def OW:List (Nat×List (Value×D))->D->D
 |[],d=>d
 |(i,es)::fs,d=>OW fs (sub (fm0 i es) d)
theorem Qu:∀ {fs:List (Nat×List (Value×D))} {env:Env} {m:Mem} {nx:Nat},Nd fs m->∃ m',Ghost P ⟨env,m,nx⟩ ⟨fun t=>OW fs (env t),m',nx⟩
 |[],env,m,nx,_=>⟨m,.refl _⟩
 |(i,es)::fs,env,m,nx,⟨h1,h2⟩=>by
  obtain⟨m',h⟩:=Qu (env:=fun t=>sub (fm0 i es) (env t)) (nx:=nx) h2;exact⟨m',(Ghost.freezeM env m nx i es h1).trans h⟩
theorem acE(fs:List (Nat×List (Value×D)))(hf:Nd fs m){l:List (Nat×D)}(hl:jM l fun t=>OW fs (env t)):Ghost P ⟨env,m,nx⟩ ⟨aD l,fun _=>none,nx⟩:=by
 obtain⟨m',h⟩:=Qu (P:=P) (env:=env) (nx:=nx) hf;exact h.trans ((Ghost.forget _ _ _ _ (pL hl)).trans (Ghost.drop _ _ _ _ fun _=>.inr rfl))
end
end Go.Abs
namespace Go.Proofs.Tryz.K
open Go.Abs
theorem a1:aggP prog 1=false:=kr
theorem b1:prog.bytesOf 1=8:=kr
theorem b2:prog.bytesOf 2=8:=kr
theorem a2:aggP prog 2=false:=kr
theorem c3:prog.cellsOf 3=1:=kr
theorem b3:prog.bytesOf 3=8:=kr
theorem a3:aggP prog 3=false:=kr
theorem c4:prog.cellsOf 4=1:=kr
theorem b4:prog.bytesOf 4=1:=kr
theorem a4:aggP prog 4=false:=kr
theorem c5:prog.cellsOf 5=1:=kr
theorem b5:prog.bytesOf 5=1:=kr
theorem a5:aggP prog 5=false:=kr
theorem b6:prog.bytesOf 6=1:=kr
theorem a6:aggP prog 6=false:=kr
theorem F9:elemP prog 15=275:=kr
theorem Ga:elemP prog 16=278:=kr
theorem F8:elemP prog 17=287:=kr
theorem Ye:elemP prog 22=5:=kr
theorem WV:slT prog 22=true:=kr
theorem Bd:prog.cellsOf 27=1:=kr
theorem XU:prog.bytesOf 27=24:=kr
theorem vS:elemP prog 27=3:=kr
theorem vn:slT prog 27=true:=kr
theorem Od:prog.cellsOf 30=3:=kr
theorem Oc:aggP prog 30=true:=kr
theorem t30:tyOk prog 30=true:=kr
theorem YH:prog.cellsOf 52=1:=kr
theorem YG:prog.bytesOf 52=24:=kr
theorem Xk:prog.cellsOf 133=10:=kr
theorem Xj:aggP prog 133=true:=kr
theorem t133:tyOk prog 133=true:=kr
theorem nh:prog.cellsOf 158=2:=kr
theorem Xm:prog.bytesOf 158=32:=kr
theorem ud:aggP prog 158=true:=kr
theorem t158:tyOk prog 158=true:=kr
theorem y8:prog.cellsOf 168=2:=kr
theorem Wj:prog.bytesOf 168=16:=kr
theorem Wt:aggP prog 168=true:=kr
theorem t168:tyOk prog 168=true:=kr
theorem Ic:elemP prog 169=168:=kr
theorem HR:slT prog 169=true:=kr
theorem M9:aggP prog 205=true:=kr
theorem M':zeroP prog 205=[.s (.int .i64 0),.s (.int .i64 0),.s (.int .i64 0),.s (.int .i64 0),.s (.int .i64 0),.s (.int .i64 0)]:=kr
theorem tW:prog.cellsOf 231=20:=kr
theorem WL:prog.bytesOf 231=160:=kr
theorem w9:aggP prog 231=true:=kr
theorem t231:tyOk prog 231=true:=kr
theorem WK:zeroP prog 231=[.s (.int .u64 0),.s (.int .u64 0),.s (.int .u64 0),.s (.int .u64 0),.s (.int .u64 0),.s (.int .u64 0),.s (.int .u64 0),.s (.int .u64 0),.s (.int .u64 0),.s (.int .u64 0),.s (.int .u64 0),.s (.int .u64 0),.s (.int .u64 0),.s (.int .u64 0),.s (.int .u64 0),.s (.int .u64 0),.s (.int .u64 0),.s (.int .u64 0),.s (.int .u64 0),.s (.int .u64 0)]:=kr
theorem mixed:prog.follows .mixedOrders=true:=kr
noncomputable def bo(f:Func):Code:=(f.body).getD .skip
abbrev FO(n:FuncId)(f:Func)(c:Code):=m7 prog n f c
theorem fo{n:FuncId}{f:Func}{c:Code}(h1:prog.funcs[n]? =some f:=by kernel_rfl)(h2:f.body=some c:=by kernel_rfl)(h3:ll f.ntmps c=true:=by kernel_rfl)(h4:enterOk prog n=true:=by kernel_rfl):FO n f c:=⟨h1,h2,h3,h4⟩
noncomputable def oY:=bo Tryz.f3
theorem ok3:FO 3 Tryz.f3 oY:=fo
noncomputable def jO:=bo Tryz.f15
theorem akP:FO 15 Tryz.f15 jO:=fo
noncomputable def nL:=bo Tryz.f16
theorem ajW:FO 16 Tryz.f16 nL:=fo
noncomputable def TH:=bo Tryz.f17
theorem alr:FO 17 Tryz.f17 TH:=fo
noncomputable def iw:=bo Tryz.f18
theorem MH:FO 18 Tryz.f18 iw:=fo
noncomputable def eg:=bo Tryz.f19
theorem ajT:FO 19 Tryz.f19 eg:=fo
noncomputable def nM:=bo Tryz.f20
theorem Ih:FO 20 Tryz.f20 nM:=fo
noncomputable def Ao:=bo Tryz.f21
theorem aln:FO 21 Tryz.f21 Ao:=fo
noncomputable def EB:=bo Tryz.f22
theorem Xt:FO 22 Tryz.f22 EB:=fo
noncomputable def TI:=bo Tryz.f23
theorem als:FO 23 Tryz.f23 TI:=fo
noncomputable def TJ:=bo Tryz.f26
theorem alu:FO 26 Tryz.f26 TJ:=fo
noncomputable def TK:=bo Tryz.f28
theorem alv:FO 28 Tryz.f28 TK:=fo
noncomputable def TL:=bo Tryz.f33
theorem alw:FO 33 Tryz.f33 TL:=fo
noncomputable def TM:=bo Tryz.f36
theorem alx:FO 36 Tryz.f36 TM:=fo
noncomputable def dQ:=bo Tryz.f39
theorem Xc:FO 39 Tryz.f39 dQ:=fo
theorem akS: Tryz.f39.results.toList=[.tmp 2,.tmp 3]:=kr
noncomputable def TN:=bo Tryz.f41
theorem aly:FO 41 Tryz.f41 TN:=fo
noncomputable def TO:=bo Tryz.f50
theorem alz:FO 50 Tryz.f50 TO:=fo
noncomputable def iG:=bo Tryz.f51
theorem MZ:FO 51 Tryz.f51 iG:=fo
noncomputable def ix:=bo Tryz.f52
theorem V8:FO 52 Tryz.f52 ix:=fo
noncomputable def pV:=bo Tryz.f53
theorem MG:FO 53 Tryz.f53 pV:=fo
noncomputable def EC:=bo Tryz.f54
theorem WY:FO 54 Tryz.f54 EC:=fo
noncomputable def eT:=bo Tryz.f55
theorem ak8:FO 55 Tryz.f55 eT:=fo
noncomputable def pW:=bo Tryz.f56
theorem ak3:FO 56 Tryz.f56 pW:=fo
noncomputable def uY:=bo Tryz.f57
theorem ajQ:FO 57 Tryz.f57 uY:=fo
noncomputable def ss:=bo Tryz.f58
theorem Wc:FO 58 Tryz.f58 ss:=fo
noncomputable def wI:=bo Tryz.f59
theorem Xv:FO 59 Tryz.f59 wI:=fo
noncomputable def fk:=bo Tryz.f60
theorem Xe:FO 60 Tryz.f60 fk:=fo
noncomputable def yM:=bo Tryz.f61
theorem W7:FO 61 Tryz.f61 yM:=fo
noncomputable def bJ:=bo Tryz.f62
theorem Wp:FO 62 Tryz.f62 bJ:=fo
noncomputable def nN:=bo Tryz.f63
theorem alk:FO 63 Tryz.f63 nN:=fo
noncomputable def qS:=bo Tryz.f64
theorem Nc:FO 64 Tryz.f64 qS:=fo
noncomputable def TP:=bo Tryz.f65
theorem alA:FO 65 Tryz.f65 TP:=fo
noncomputable def TQ:=bo Tryz.f66
theorem alB:FO 66 Tryz.f66 TQ:=fo
noncomputable def ED:=bo Tryz.f69
theorem WZ:FO 69 Tryz.f69 ED:=fo
noncomputable def TS:=bo Tryz.f70
theorem alC:FO 70 Tryz.f70 TS:=fo
noncomputable def TT:=bo Tryz.f71
theorem alD:FO 71 Tryz.f71 TT:=fo
noncomputable def TU:=bo Tryz.f72
theorem alE:FO 72 Tryz.f72 TU:=fo
noncomputable def TV:=bo Tryz.f73
theorem alF:FO 73 Tryz.f73 TV:=fo
noncomputable def jP:=bo Tryz.f75
theorem ald:FO 75 Tryz.f75 jP:=fo
noncomputable def uZ:=bo Tryz.f76
theorem ak1:FO 76 Tryz.f76 uZ:=fo
noncomputable def TW:=bo Tryz.f82
theorem alG:FO 82 Tryz.f82 TW:=fo
noncomputable def TX:=bo Tryz.f83
theorem alH:FO 83 Tryz.f83 TX:=fo
noncomputable def yN:=bo Tryz.f84
theorem W0:FO 84 Tryz.f84 yN:=fo
noncomputable def tI:=bo Tryz.f85
theorem W4:FO 85 Tryz.f85 tI:=fo
noncomputable def TY:=bo Tryz.f87
theorem alI:FO 87 Tryz.f87 TY:=fo
noncomputable def EE:=bo Tryz.f89
theorem WJ:FO 89 Tryz.f89 EE:=fo
noncomputable def jQ:=bo Tryz.f90
theorem Cy:FO 90 Tryz.f90 jQ:=fo
noncomputable def ln:=bo Tryz.f91
theorem ali:FO 91 Tryz.f91 ln:=fo
noncomputable def u6:=bo Tryz.f92
theorem akZ:FO 92 Tryz.f92 u6:=fo
noncomputable def TZ:=bo Tryz.f93
theorem alJ:FO 93 Tryz.f93 TZ:=fo
noncomputable def tJ:=bo Tryz.f94
theorem Xd:FO 94 Tryz.f94 tJ:=fo
noncomputable def wJ:=bo Tryz.f95
theorem WW:FO 95 Tryz.f95 wJ:=fo
noncomputable def EF:=bo Tryz.f96
theorem WO:FO 96 Tryz.f96 EF:=fo
noncomputable def oU:=bo Tryz.f97
theorem WN:FO 97 Tryz.f97 oU:=fo
noncomputable def R9:=bo Tryz.f100
theorem ah9:FO 100 Tryz.f100 R9:=fo
noncomputable def yA:=bo Tryz.f105
theorem VF:FO 105 Tryz.f105 yA:=fo
noncomputable def tq:=bo Tryz.f110
theorem Me:FO 110 Tryz.f110 tq:=fo
noncomputable def mM:=bo Tryz.f115
theorem U7:FO 115 Tryz.f115 mM:=fo
noncomputable def tt:=bo Tryz.f116
theorem Vd:FO 116 Tryz.f116 tt:=fo
noncomputable def DW:=bo Tryz.f117
theorem UC:FO 117 Tryz.f117 DW:=fo
noncomputable def qK:=bo Tryz.f118
theorem L2:FO 118 Tryz.f118 qK:=fo
noncomputable def DX:=bo Tryz.f119
theorem Ut:FO 119 Tryz.f119 DX:=fo
noncomputable def eJ:=bo Tryz.f120
theorem ahO:FO 120 Tryz.f120 eJ:=fo
noncomputable def eK:=bo Tryz.f121
theorem ahZ:FO 121 Tryz.f121 eK:=fo
noncomputable def uQ:=bo Tryz.f122
theorem alU:FO 122 Tryz.f122 uQ:=fo
noncomputable def fR:=bo Tryz.f123
theorem ahx:FO 123 Tryz.f123 fR:=fo
noncomputable def wz:=bo Tryz.f124
theorem ahr:FO 124 Tryz.f124 wz:=fo
noncomputable def gY:=bo Tryz.f125
theorem aht:FO 125 Tryz.f125 gY:=fo
noncomputable def pO:=bo Tryz.f126
theorem ahX:FO 126 Tryz.f126 pO:=fo
noncomputable def qL:=bo Tryz.f127
theorem ahV:FO 127 Tryz.f127 qL:=fo
noncomputable def lT:=bo Tryz.f128
theorem ahz:FO 128 Tryz.f128 lT:=fo
noncomputable def yB:=bo Tryz.f129
theorem UG:FO 129 Tryz.f129 yB:=fo
noncomputable def tu:=bo Tryz.f130
theorem L1:FO 130 Tryz.f130 tu:=fo
noncomputable def DY:=bo Tryz.f131
theorem UL:FO 131 Tryz.f131 DY:=fo
noncomputable def R':=bo Tryz.f132
theorem ah':FO 132 Tryz.f132 R':=fo
noncomputable def Sa:=bo Tryz.f133
theorem aia:FO 133 Tryz.f133 Sa:=fo
noncomputable def Sb:=bo Tryz.f134
theorem aib:FO 134 Tryz.f134 Sb:=fo
noncomputable def Sc:=bo Tryz.f135
theorem aic:FO 135 Tryz.f135 Sc:=fo
noncomputable def Sd:=bo Tryz.f136
theorem aid:FO 136 Tryz.f136 Sd:=fo
noncomputable def lU:=bo Tryz.f137
theorem VH:FO 137 Tryz.f137 lU:=fo
noncomputable def Se:=bo Tryz.f138
theorem aie:FO 138 Tryz.f138 Se:=fo
noncomputable def gF:=bo Tryz.f139
theorem VD:FO 139 Tryz.f139 gF:=fo
noncomputable def fI:=bo Tryz.f140
theorem VG:FO 140 Tryz.f140 fI:=fo
noncomputable def Sf:=bo Tryz.f141
theorem aif:FO 141 Tryz.f141 Sf:=fo
noncomputable def Sg:=bo Tryz.f142
theorem aih:FO 142 Tryz.f142 Sg:=fo
noncomputable def Si:=bo Tryz.f143
theorem aii:FO 143 Tryz.f143 Si:=fo
noncomputable def Sj:=bo Tryz.f144
theorem aij:FO 144 Tryz.f144 Sj:=fo
noncomputable def oL:=bo Tryz.f145
theorem aho:FO 145 Tryz.f145 oL:=fo
noncomputable def se:=bo Tryz.f146
theorem ahv:FO 146 Tryz.f146 se:=fo
noncomputable def tv:=bo Tryz.f149
theorem Ve:FO 149 Tryz.f149 tv:=fo
noncomputable def fJ:=bo Tryz.f151
theorem UQ:FO 151 Tryz.f151 fJ:=fo
noncomputable def Sk:=bo Tryz.f152
theorem aik:FO 152 Tryz.f152 Sk:=fo
noncomputable def eA:=bo Tryz.f153
theorem U5:FO 153 Tryz.f153 eA:=fo
noncomputable def gG:=bo Tryz.f154
theorem U4:FO 154 Tryz.f154 gG:=fo
noncomputable def DZ:=bo Tryz.f155
theorem US:FO 155 Tryz.f155 DZ:=fo
noncomputable def D0:=bo Tryz.f156
theorem UA:FO 156 Tryz.f156 D0:=fo
noncomputable def Sl:=bo Tryz.f158
theorem ail:FO 158 Tryz.f158 Sl:=fo
noncomputable def Ae:=bo Tryz.f166
theorem Vo:FO 166 Tryz.f166 Ae:=fo
noncomputable def uR:=bo Tryz.f168
theorem Va:FO 168 Tryz.f168 uR:=fo
noncomputable def jL:=bo Tryz.f169
theorem ahB:FO 169 Tryz.f169 jL:=fo
noncomputable def Hp:=bo Tryz.f170
theorem ag9:FO 170 Tryz.f170 Hp:=fo
noncomputable def dF:=bo Tryz.f171
theorem Vy:FO 171 Tryz.f171 dF:=fo
noncomputable def gZ:=bo Tryz.f172
theorem ahM:FO 172 Tryz.f172 gZ:=fo
noncomputable def pP:=bo Tryz.f173
theorem ahT:FO 173 Tryz.f173 pP:=fo
noncomputable def Sm:=bo Tryz.f174
theorem aim:FO 174 Tryz.f174 Sm:=fo
noncomputable def qM:=bo Tryz.f175
theorem VE:FO 175 Tryz.f175 qM:=fo
noncomputable def Af:=bo Tryz.f176
theorem U9:FO 176 Tryz.f176 Af:=fo
noncomputable def So:=bo Tryz.f177
theorem ain:FO 177 Tryz.f177 So:=fo
noncomputable def sf:=bo Tryz.f178
theorem UP:FO 178 Tryz.f178 sf:=fo
noncomputable def Sp:=bo Tryz.f179
theorem aio:FO 179 Tryz.f179 Sp:=fo
noncomputable def Sq:=bo Tryz.f180
theorem aip:FO 180 Tryz.f180 Sq:=fo
noncomputable def Sr:=bo Tryz.f181
theorem aiq:FO 181 Tryz.f181 Sr:=fo
noncomputable def Ss:=bo Tryz.f182
theorem air:FO 182 Tryz.f182 Ss:=fo
noncomputable def Su:=bo Tryz.f183
theorem ais:FO 183 Tryz.f183 Su:=fo
noncomputable def D1:=bo Tryz.f184
theorem UO:FO 184 Tryz.f184 D1:=fo
noncomputable def Sv:=bo Tryz.f185
theorem ait:FO 185 Tryz.f185 Sv:=fo
noncomputable def Sw:=bo Tryz.f186
theorem aiu:FO 186 Tryz.f186 Sw:=fo
noncomputable def Sx:=bo Tryz.f187
theorem aiv:FO 187 Tryz.f187 Sx:=fo
noncomputable def Sy:=bo Tryz.f188
theorem aiw:FO 188 Tryz.f188 Sy:=fo
noncomputable def BO:=bo Tryz.f189
theorem Vp:FO 189 Tryz.f189 BO:=fo
noncomputable def D2:=bo Tryz.f190
theorem UZ:FO 190 Tryz.f190 D2:=fo
noncomputable def D3:=bo Tryz.f191
theorem U3:FO 191 Tryz.f191 D3:=fo
noncomputable def D4:=bo Tryz.f192
theorem Ur:FO 192 Tryz.f192 D4:=fo
noncomputable def D5:=bo Tryz.f193
theorem U1:FO 193 Tryz.f193 D5:=fo
noncomputable def D6:=bo Tryz.f194
theorem U0:FO 194 Tryz.f194 D6:=fo
noncomputable def fy:=bo Tryz.f195
theorem VB:FO 195 Tryz.f195 fy:=fo
noncomputable def mN:=bo Tryz.f196
theorem Vs:FO 196 Tryz.f196 mN:=fo
noncomputable def fh:=bo Tryz.f197
theorem UW:FO 197 Tryz.f197 fh:=fo
noncomputable def jy:=bo Tryz.f198
theorem UU:FO 198 Tryz.f198 jy:=fo
noncomputable def yC:=bo Tryz.f199
theorem UT:FO 199 Tryz.f199 yC:=fo
noncomputable def D7:=bo Tryz.f200
theorem Uw:FO 200 Tryz.f200 D7:=fo
noncomputable def Ag:=bo Tryz.f201
theorem UR:FO 201 Tryz.f201 Ag:=fo
noncomputable def si:=bo Tryz.f202
theorem UB:FO 202 Tryz.f202 si:=fo
noncomputable def wA:=bo Tryz.f211
theorem ag5:FO 211 Tryz.f211 wA:=fo
noncomputable def Hq:=bo Tryz.f212
theorem ag3:FO 212 Tryz.f212 Hq:=fo
noncomputable def wB:=bo Tryz.f213
theorem ag7:FO 213 Tryz.f213 wB:=fo
noncomputable def lV:=bo Tryz.f214
theorem ahk:FO 214 Tryz.f214 lV:=fo
noncomputable def pQ:=bo Tryz.f215
theorem aha:FO 215 Tryz.f215 pQ:=fo
noncomputable def D8:=bo Tryz.f216
theorem ahc:FO 216 Tryz.f216 D8:=fo
noncomputable def tw:=bo Tryz.f217
theorem Vq:FO 217 Tryz.f217 tw:=fo
noncomputable def D9:=bo Tryz.f218
theorem ahg:FO 218 Tryz.f218 D9:=fo
noncomputable def iu:=bo Tryz.f219
theorem ahm:FO 219 Tryz.f219 iu:=fo
noncomputable def lk:=bo Tryz.f220
theorem ahF:FO 220 Tryz.f220 lk:=fo
noncomputable def lW:=bo Tryz.f221
theorem ahJ:FO 221 Tryz.f221 lW:=fo
noncomputable def Sz:=bo Tryz.f222
theorem aix:FO 222 Tryz.f222 Sz:=fo
noncomputable def SA:=bo Tryz.f223
theorem aiy:FO 223 Tryz.f223 SA:=fo
noncomputable def SB:=bo Tryz.f224
theorem aiz:FO 224 Tryz.f224 SB:=fo
noncomputable def SC:=bo Tryz.f225
theorem aiA:FO 225 Tryz.f225 SC:=fo
noncomputable def SD:=bo Tryz.f226
theorem aiB:FO 226 Tryz.f226 SD:=fo
noncomputable def D':=bo Tryz.f227
theorem UN:FO 227 Tryz.f227 D':=fo
noncomputable def Ea:=bo Tryz.f228
theorem Uq:FO 228 Tryz.f228 Ea:=fo
noncomputable def Eb:=bo Tryz.f229
theorem UX:FO 229 Tryz.f229 Eb:=fo
noncomputable def Ec:=bo Tryz.f230
theorem U2:FO 230 Tryz.f230 Ec:=fo
noncomputable def tx:=bo Tryz.f231
theorem LY:FO 231 Tryz.f231 tx:=fo
noncomputable def Ed:=bo Tryz.f232
theorem UY:FO 232 Tryz.f232 Ed:=fo
noncomputable def Ee:=bo Tryz.f233
theorem Mf:FO 233 Tryz.f233 Ee:=fo
noncomputable def Ah:=bo Tryz.f234
theorem Mg:FO 234 Tryz.f234 Ah:=fo
noncomputable def pR:=bo Tryz.f235
theorem Vg:FO 235 Tryz.f235 pR:=fo
noncomputable def tz:=bo Tryz.f236
theorem Mi:FO 236 Tryz.f236 tz:=fo
noncomputable def Eg:=bo Tryz.f237
theorem Vc:FO 237 Tryz.f237 Eg:=fo
noncomputable def Eh:=bo Tryz.f238
theorem Vm:FO 238 Tryz.f238 Eh:=fo
noncomputable def BP:=bo Tryz.f239
theorem Mh:FO 239 Tryz.f239 BP:=fo
noncomputable def BQ:=bo Tryz.f240
theorem Vr:FO 240 Tryz.f240 BQ:=fo
noncomputable def SE:=bo Tryz.f241
theorem aiC:FO 241 Tryz.f241 SE:=fo
noncomputable def yD:=bo Tryz.f242
theorem Ux:FO 242 Tryz.f242 yD:=fo
noncomputable def tA:=bo Tryz.f243
theorem Uy:FO 243 Tryz.f243 tA:=fo
noncomputable def Ei:=bo Tryz.f244
theorem VC:FO 244 Tryz.f244 Ei:=fo
noncomputable def wC:=bo Tryz.f245
theorem Uz:FO 245 Tryz.f245 wC:=fo
noncomputable def uS:=bo Tryz.f246
theorem UH:FO 246 Tryz.f246 uS:=fo
noncomputable def Ej:=bo Tryz.f247
theorem UJ:FO 247 Tryz.f247 Ej:=fo
noncomputable def SF:=bo Tryz.f251
theorem aiD:FO 251 Tryz.f251 SF:=fo
noncomputable def tB:=bo Tryz.f252
theorem LX:FO 252 Tryz.f252 tB:=fo
noncomputable def oO:=bo Tryz.f253
theorem Vf:FO 253 Tryz.f253 oO:=fo
noncomputable def Ek:=bo Tryz.f254
theorem Us:FO 254 Tryz.f254 Ek:=fo
noncomputable def El:=bo Tryz.f255
theorem Vn:FO 255 Tryz.f255 El:=fo
noncomputable def Em:=bo Tryz.f256
theorem Vb:FO 256 Tryz.f256 Em:=fo
noncomputable def En:=bo Tryz.f257
theorem Vl:FO 257 Tryz.f257 En:=fo
noncomputable def yE:=bo Tryz.f258
theorem UI:FO 258 Tryz.f258 yE:=fo
noncomputable def tC:=bo Tryz.f260
theorem LZ:FO 260 Tryz.f260 tC:=fo
theorem bg{f:FuncId}{fn:Func}{c:Code}(hf:m7 Tryz.prog f fn c){args:List D}(ht:∀ a∈args,Tr a){r:D}(hr:Tr r)(h:AW Tryz.prog noY true c (retQ Tryz.prog fn.results.toList fun d _=>d=r) ⟨envOf args,fun _=>none,0⟩)(hn:Nat.ble args.length fn.ntmps=true:=by kernel_rfl):PCall Tryz.prog f args r:=abN mixed hf hn ht hr h
theorem zH{f:FuncId}{fn:Func}{c:Code}(hf:m7 Tryz.prog f fn c){args:List D}(ht:∀ a∈args,Tr a){es:List D}(C:∀ a∈es,Tr a){k:Nat}{t:TypeId}(h:AW Tryz.prog noY true c (retQ Tryz.prog fn.results.toList fun d st=>∃ i,d=.rs i 0 k∧st.mem i=some (.cells es t)) ⟨envOf args,fun _=>none,0⟩)(hn:Nat.ble args.length fn.ntmps=true:=by kernel_rfl):OCall Tryz.prog f args es k t:=QO mixed hf hn ht C h
theorem zF{f:FuncId}{fn:Func}{c:Code}(hf:m7 Tryz.prog f fn c){args:List D}{m:Mem}{nx:Nat}{cN:D->Mem->Nat->Prop}(h:AW Tryz.prog noY true c (retQ Tryz.prog fn.results.toList fun d st=>cN d st.mem st.nx) ⟨envOf args,m,nx⟩)(hn:Nat.ble args.length fn.ntmps=true:=by kernel_rfl):ACalls Tryz.prog f args m nx cN:=QN mixed hf hn h
def gQ(P:Program)(t:TypeId):Array Field:=match P.underlying t with|some (.struct fs)=>fs|_=> #[]
theorem u8:prog.underlying 8=some (.struct (gQ prog 8)):=kr
theorem Ma:mkeyP prog 127=3:=kr
theorem Mb:mapT prog 127=true:=kr
theorem Mk:melP prog 131=205:=kr
theorem wN:mkeyP prog 165=172:=kr
theorem wO:mapT prog 165=true:=kr
theorem Ce:mkeyP prog 166=168:=kr
theorem Cf:mapT prog 166=true:=kr
theorem u2:prog.underlying 2=some (.int .i64):=kr
theorem u3:prog.underlying 3=some (.int .i64):=kr
theorem u5:prog.underlying 5=some (.int .u8):=kr
end Go.Proofs.Tryz.K
namespace Go.Argus
open Go.Abs
abbrev I(n:Int):D:=.s (.int .i64 n)
abbrev U8(n:Int):D:=.s (.int .u8 n)
abbrev B(b:Bool):D:=.s (.bool b)
abbrev S(s:ByteArray):D:=.s (.string s)
abbrev au(l:List Int):D:=.sl (l.map I) l.length
abbrev la(l:List Int):D:=.sl (l.map U8) l.length
abbrev r7(l:List ByteArray):D:=.sl (l.map S) l.length
structure bE where
 op:Int
 to:Int
 a:Int
 b:Int
 n:Int
 args:List Int
structure kQ where
 name:ByteArray
 to:Int
structure End where
 kind:Int
 a:Int
 b:Int
 to:Int
 gD:Int
 name:ByteArray
 ins:bE
 args:List Int
 aL:List kQ
 cX:Int
structure b7 where
 ins:List bE
 fin:End
structure aG where
 name:ByteArray
 iter:Bool
 args:Int
 result:Int
 al:List Int
 aZ:List Int
 signals:List ByteArray
 blocks:List b7
def bu(x:bE):List D:=[U8 x.op,I x.to,I x.a,I x.b,I x.n,au x.args]
def mJ(w:kQ):List D:=[S w.name,I w.to]
def qH(l:List kQ):D:=.sl (l.flatMap mJ) l.length
def iF(l:List bE):D:=.sl (l.flatMap bu) l.length
def bh(x:End):List D:=[U8 x.kind,I x.a,I x.b,I x.to,I x.gD,S x.name,U8 x.ins.op,I x.ins.to,I x.ins.a,I x.ins.b,I x.ins.n,au x.ins.args,au x.args,qH x.aL,I x.cX]
def fH(b:b7):List D:=iF b.ins::bh b.fin
def gv(l:List b7):D:=.sl (l.flatMap fH) l.length
def aH(f:aG):List D:=[S f.name,B f.iter,I f.args,U8 f.result,la f.al,la f.aZ,r7 f.signals,gv f.blocks]
def bq(p q:D)(f:aG):List D:=[S f.name,B f.iter,I f.args,U8 f.result,la f.al,la f.aZ,r7 f.signals,gv f.blocks,p,q]
@[simp] theorem an6 (p q : D) (x : aG) : (bq p q x).length = 10 := rfl
@[simp] theorem an' (x : bE) : (bu x).length = 6 := rfl
@[simp] theorem an7 (x : kQ) : (mJ x).length = 2 := rfl
@[simp] theorem aoa (x : End) : (bh x).length = 15 := rfl
@[simp] theorem an2 (x : b7) : (fH x).length = 16 := rfl
@[simp] theorem an8 (x : aG) : (aH x).length = 8 := rfl
theorem GD(x:bE):(bu x).length=6:=rfl
theorem Dw(x:kQ):(mJ x).length=2:=rfl
theorem GC(x:b7):(fH x).length=16:=rfl
def nX{α:Type}(p:α->Bool)(l:List α):Int:=match l.findIdx? p with
 |some i=>i
 |none=> -1
theorem Dz{α:Type}{p:α->Bool}{l:List α}{k:Nat}{x:α}(hx:l[k]? =some x)(hp:p x=true)(h:∀ j y,j<k->l[j]? =some y->p y=false):nX p l=k:=by
 have:l.findIdx? p=some k:=by
  rw[List.findIdx?_eq_some_iff_getElem];obtain⟨hk,he⟩:=bw.1 hx;refine⟨hk,by rw[he];exact hp,fun j hj=>?_⟩;have:=h j l[j] hj (by simp[show j<l.length by omega]);simp[this]
 simp[nX,this]
theorem DA{α:Type}{p:α->Bool}{l:List α}(h:∀ (j:Nat) y,l[j]? =some y->p y=false):nX p l= -1:=by
 have:l.findIdx? p=none:=by
  rw[List.findIdx?_eq_none_iff];intro x hx;obtain⟨j,hj⟩:=cC hx;exact h j x hj
 simp[nX,this]
theorem DI{α:Type}(p:α->Bool)(l:List α):decide (0<=nX p l)=l.any p:=by
 unfold nX;cases h:l.findIdx? p with
 |none=>
  rw[List.findIdx?_eq_none_iff] at h;have:l.any p=false:=List.any_eq_false.2 fun x hx=>by simp[h x hx]
  simp[this]
 |some i=>
  obtain⟨hi,hp,_⟩:=List.findIdx?_eq_some_iff_getElem.1 h;have:l.any p=true:=List.any_eq_true.2 ⟨l[i],oS,hp⟩;simp[this]
theorem cL(l:List Int):Tr (au l):=.sl (.map fun _=>.s _)
theorem rZ(l:List Int):Tr (la l):=.sl (.map fun _=>.s _)
theorem Ac(l:List ByteArray):Tr (r7 l):=.sl (.map fun _=>.s _)
theorem r8(x:bE):∀ a∈bu x,Tr a:=.cons (.s _) (.cons (.s _) (.cons (.s _) (.cons (.s _) (.cons (.s _) (.cons (cL _) .nil)))))
theorem G9(x:kQ):∀ a∈mJ x,Tr a:=.cons (.s _) (.cons (.s _) .nil)
theorem kH(l:List kQ):Tr (qH l):=.sl (.flat G9)
theorem aeb(l:List bE):Tr (iF l):=.sl (.flat r8)
theorem lR(x:End):∀ a∈bh x,Tr a:=.cons (.s _) (.cons (.s _) (.cons (.s _) (.cons (.s _) (.cons (.s _) (.cons (.s _) (.cons (.s _) (.cons (.s _) (.cons (.s _) (.cons (.s _) (.cons (.s _) (.cons (cL _) (.cons (cL _) (.cons (kH _) (.cons (.s _) .nil))))))))))))))
theorem Qb(x:b7):∀ a∈fH x,Tr a:=.cons (aeb _) (lR _)
theorem GK(l:List b7):Tr (gv l):=.sl (.flat Qb)
theorem iq(x:aG):∀ a∈aH x,Tr a:=.cons (.s _) (.cons (.s _) (.cons (.s _) (.cons (.s _) (.cons (rZ _) (.cons (rZ _) (.cons (Ac _) (.cons (GK _) .nil)))))))
theorem DK{p q:D}(hp:Tr p)(hq:Tr q)(x:aG):∀ a∈bq p q x,Tr a:=.cons (.s _) (.cons (.s _) (.cons (.s _) (.cons (.s _) (.cons (rZ _) (.cons (rZ _) (.cons (Ac _) (.cons (GK _) (.cons hp (.cons hq .nil)))))))))
theorem nG{p q:D}(hp:Tr p)(hq:Tr q)(x:aG):Tr (.agg (bq p q x)):=.agg (DK hp hq x)
theorem wl{p q:D}{f:aG}(h1:p.one=true)(h2:q.one=true):(bq p q f).all D.one=true:=by
 simp only[bq,List.all_cons,List.all_nil,h1,h2];rfl
abbrev c6(n:Int):D:=.s (.int .u64 n)
abbrev iA(w:List Int):D:=.agg (w.map c6)
theorem l6(w:List Int):(w.map c6).all D.one=true:=bj.2 fun x hx=>by obtain⟨y,_,rfl⟩:=List.mem_map.1 hx;rfl
theorem Kh{w:List Int}{i:Nat}{x:Int}:((w.map c6).set i (c6 x)).all D.one=true:=by rw[<- List.map_set];exact l6 _
theorem sE(w:List Int):Tr (iA w):=.agg (.map fun _=>.s _)
def rh(a b:Int):Int:=intBitsV .and .u64 a b
def Bg(a b:Int):Int:=intBitsV .or .u64 a b
def yR(w:List Int)(m:Nat):List Int:=w.set (m / 64) (Bg (w.getD (m / 64) 0) (IntKind.u64.wrap (1*2 ^ (min (m % 64) 64))))
def na(w:List Int)(m:Nat):Bool:=rh ((w.getD (m / 64) 0).fdiv (2 ^ (min (m % 64) 64))) 1==1
def iH(w:List Int)(n:Int):List Int:=if 0<=n then yR w n.toNat else w
def fK(w v:List Int):Nat->List Int
 |0=>w
 |k+1=>(fK w v k).set k (rh ((fK w v k).getD k 0) (v.getD k 0))
def iI(w v:List Int):List Int:=fK w v 20
@[simp] theorem Qv (w v : List Int) : ∀ k, (fK w v k).length = w.length
 |0=>rfl
 |k+1=>by simp[fK,Qv w v k]
@[simp] theorem aof (w : List Int) (m : Nat) : (yR w m).length = w.length := by simp [yR]
@[simp] theorem aog (w : List Int) (n : Int) : (iH w n).length = w.length := by unfold iH; split <;> simp
@[simp] theorem Qe (w v : List Int) : (iI w v).length = w.length := Qv w v 20
theorem wrap_i64{n:Nat}(h:n<2 ^ 62):IntKind.i64.wrap (n:Int)=n:=by
 unfold IntKind.wrap;simp[IntKind.signed,IntKind.bits];omega
theorem Uu{m:Nat}(h:m<2 ^ 62):IntKind.i64.wrap ((m:Int).tdiv 64)=((m / 64:Nat):Int):=by
 rw[show(m:Int).tdiv 64=((m / 64:Nat):Int) from by rw[Int.tdiv_eq_ediv_of_nonneg oG];omega];exact wrap_i64 oG
theorem Uv(m:Nat):(m:Int).tmod 64=((m % 64:Nat):Int):=by rw[Int.tmod_eq_emod_of_nonneg oG];omega
theorem ib(a b:Int):(a==b)=decide (a=b):=rfl
def dg(n a b:Int):Bool:=decide (a<=n)&&decide (n<=b)
def uK(b:Int):Bool:=decide (b<33)||decide (126<b)
def lX(s:ByteArray):Bool:=dg s.size 1 120&& !(c7 s).any uK
def uL(b:Int):Bool:=(decide (b<97)||decide (122<b))&&(decide (b<48)||decide (57<b))
def isName(s:ByteArray):Bool:=dg s.size 1 12&& !(c7 s).any uL
def nB(C k:Int):Bool:=decide (k<1)||decide (C<k)
def fx(l:List Int)(C:Int):Bool:= !l.any (nB C)
def cG(l:List Int)(r:Int):Int:=if 0<=r then l.getD r.toNat 0 else 0
theorem uN{l:List Int}{i:Nat}{x:Int}(h:l[i]? =some x):cG l i=x:=by
 simp[cG,bl,h]
theorem JU{l:List Int}{r:Int}(h:¬ (0<=r/\r<l.length)):cG l r=0:=by
 unfold cG;split
 .rename_i h0;have:l.length<=r.toNat:=by omega
  simp[bl,List.getElem?_eq_none this]
 .rfl
theorem lh{n a b:Int}:dg n a b=true↔a<=n/\n<=b:=by simp[dg]
theorem aa4{n a b:Int}:dg n a b=false↔¬ (a<=n/\n<=b):=by
 rw[<- Bool.not_eq_true,lh]
def eX(l:List Int)(r:Int):Bool:=cG l r==1||cG l r==2
def gX(l rs:List Int):Bool:=rs.all (eX l)
def mT(l aZ:List Int)(r n:Int):Bool:=dg n 0 (aZ.length - 1)&&(cG l r==cG aZ n)
def mP(l:List Int)(r want C:Int):Bool:=
 if want=0 then r==0 else if want=1 then cG l r==1 else if want=2 then cG l r==2 else if want=3 then eX l r
 else cG l r !=0&&cG l r==C
structure Shape where
 to:Int
 a:Int
 b:Int
 args:Int
 low:Int
 high:Int
def j6(s:Shape):List D:=[I s.to,I s.a,I s.b,I s.args,I s.low,I s.high]
@[simp] theorem an3 (x : Shape) : (j6 x).length = 6 := rfl
theorem Ql(x:Shape):∀ a∈j6 x,Tr a:=.cons (.s _) (.cons (.s _) (.cons (.s _) (.cons (.s _) (.cons (.s _) (.cons (.s _) .nil)))))
def r6(l:List Int)(x:bE)(s:Shape):Int:=if s.to=0\/s.to=1 then cG l x.a else cG l x.to
def rX(l:List Int)(x:bE)(s:Shape):Bool:=if s.args=5 then dg x.args.length 1 6&&gX l x.args else if s.args=6 then decide ((x.args.length:Int)=1)&&gX l x.args else decide ((x.args.length:Int)=0)
def qJ(l:List Int)(x:bE)(s:Shape):Bool:=
 mP l x.to s.to 0&&(mP l x.a s.a (r6 l x s)&&(mP l x.b s.b (r6 l x s)&&(rX l x s&&dg x.n s.low s.high)))
def sL(l:List (Int×Shape)):List (Value×D):=l.map fun x=>(.int .u8 x.1,.agg (j6 x.2))
def Ad:Shape:=⟨0,0,0,0,0,0⟩
def gz(l:List (Int×Shape))(op:Int):Option Shape:=(l.find? fun x=>x.1==op).map (·.2)
def pU:List (Int×Shape):=[(1,⟨1,0,0,0, -1000000000,1000000000⟩),(2,⟨3,4,0,0,0,0⟩),(3,⟨1,1,1,0,0,0⟩),(4,⟨1,1,1,0,0,0⟩),(5,⟨1,3,4,0,0,0⟩),(6,⟨1,1,1,0,0,0⟩),(7,⟨1,1,1,0,0,0⟩),(8,⟨1,1,0,0,0,0⟩),
 (9,⟨2,0,0,0,0,1⟩),(10,⟨2,0,0,5,0,5⟩),(11,⟨3,2,0,0,0,5⟩),(12,⟨0,2,3,0,0,5⟩),(13,⟨1,2,0,0,0,0⟩),(14,⟨1,2,0,0,0,0⟩),(15,⟨0,1,0,0,0,0⟩)]
def j9:List (Int×Shape):=[(30,⟨1,1,1,0,0,0⟩),(31,⟨1,1,1,0,0,0⟩),(32,⟨1,1,1,0,0,0⟩),(33,⟨1,1,1,0,0,0⟩),(34,⟨1,1,1,0,0,0⟩),(35,⟨0,2,3,0,0,0⟩),(36,⟨3,2,0,0,0,0⟩),(37,⟨3,2,1,0,0,0⟩),(38,⟨0,2,1,6,0,0⟩)]
theorem Cl(l:List (Int×Shape)):Tr (.im (sL l)):=.im fun x hx=>by
 obtain⟨y,_,rfl⟩:=List.mem_map.1 hx;exact .agg (Ql _)
theorem R8(op:Int):∀ l:List (Int×Shape),(lookD (.int .u8 op) (sL l)).map (·.2)=(gz l op).map fun s=>.agg (j6 s)
 |[]=>rfl
 |(o,s)::l=>by
  have ih:=R8 op l;unfold sL at ih ⊢;simp only[List.map_cons,lookD,veq,veq1,gz,List.find?_cons] at ih ⊢;by_cases h:o=op
  .subst h;simp
  .have hb:(o==op)=false:=by simpa using h
   simp only[hb,beq_self_eq_true,Bool.and_false,Bool.false_eq_true,if_false,Option.map_map] at ih ⊢;exact ih
theorem TE{P:Program}{t:TypeId}{C:D}(M:zeroD P (melP P t)=C)(op:Int)(l:List (Int×Shape))(J:C=.agg (j6 Ad)):gotD P t true (lookD (.int .u8 op) (sL l))=.tup [.agg (j6 ((gz l op).getD Ad)),.s (.bool (gz l op).isSome)]:=by
 have h:=R8 op l;cases h1:lookD (.int .u8 op) (sL l) with
 |none=>
  rw[h1] at h;have:gz l op=none:=by simpa using h.symm
  simp only[gotD,this,M,J,Option.getD_none,Option.isSome_none,if_true]
 |some x=>
  rw[h1] at h;cases h2:gz l op with
  |none=>rw[h2] at h;simp at h
  |some s=>
   rw[h2] at h;obtain⟨i,d⟩:=x;simp only[Option.map_some,aV] at h;subst h;simp[gotD]
theorem R1{P:Program}{kt:TypeId}(hk:P.underlying kt=some (.int .u8))(l:List (Int×Shape)):(sL l).all (fun e=>keyP P kt e.1)=true:=by
 refine bj.2 fun x hx=>?_;obtain⟨y,_,rfl⟩:=List.mem_map.1 hx;simp[keyP,hk]
def aX(a b:Int):Bool:=decide (a=b)
def ke(x:bE):Bool:=decide ((x.args.length:Int)=0)
def jN(f:aG)(b:Int)(x:bE)(phis:Bool)(ahead:Int):Bool:=
 if x.op=16 then aX x.to 0&&(aX (cG f.al x.a) 3&&(aX x.b 0&&(aX x.n 0&&ke x)))
 else if x.op=17 then aX x.a 0&&(aX x.b 0&&(ke x&&mT f.al f.aZ x.to x.n))
 else if x.op=18 then aX x.to 0&&(aX x.b 0&&(ke x&&mT f.al f.aZ x.a x.n))
 else if x.op=19 then phis&&(decide (0<b)&&(eX f.al x.to&&(aX x.a 0&&(aX x.b 0&&(aX x.n 0&&(aX x.args.length ahead&& !x.args.any fun r=> !aX (cG f.al r) (cG f.al x.to)))))))
 else(gz pU x.op).isSome&&qJ f.al x ((gz pU x.op).getD Ad)
def Ex(x:bE):Bool:=decide (x.op=0)&&(decide (x.to=0)&&(decide (x.a=0)&&(decide (x.b=0)&&(decide (x.n=0)&&decide ((x.args.length:Int)=0)))))
def Aw(x:End):Bool:=decide (x.kind=0)&&(decide (x.a=0)&&(decide (x.b=0)&&(decide (x.to=0)&&(decide (x.gD=0)&&(x.name.toList==[]&&(decide (x.cX= -1)&&(decide ((x.args.length:Int)=0)&&(decide ((x.aL.length:Int)=0)&&Ex x.ins))))))))
def cu(f:aG)(n:Int):Bool:=dg n 0 (f.blocks.length - 1)
def qa(f:aG)(ws:List kQ)(i:Nat)(w:kQ):Bool:=isName w.name&&(cu f w.to&& !(ws.take i).any fun v=>v.name.toList==w.name.toList)
def HD(f:aG)(ws:List kQ):Bool:=ws.zipIdx.all fun x=>qa f ws x.2 x.1
theorem Pp{f:aG}{ws:List kQ}(h:∀ (i:Nat) w,ws[i]? =some w->qa f ws i w=true):HD f ws=true:=by
 refine bj.2 fun x hx=>?_;obtain⟨h1,h2⟩:=List.mem_zipIdx' hx;exact h x.2 x.1 (by rw[h2];simp[h1])
theorem Js{f:aG}{ws:List kQ}{i:Nat}{w:kQ}(C:ws[i]? =some w)(h:qa f ws i w=false):HD f ws=false:=by
 refine Bool.eq_false_iff.2 fun ht=>?_;have hx:(w,i)∈ws.zipIdx:=List.mem_zipIdx_iff_getElem?.2 C;have:=bj.1 ht _ hx;rw[h] at this;cases this
def nD(f:aG)(x:End):Bool:=HD f x.aL&&(decide ((x.aL.length:Int)<=7)&&(decide (x.cX= -1)||cu f x.cX))
def eB:bE:=⟨0,0,0,0,0,[]⟩
def gI(f:aG)(x:End):Bool×End:=
 let r:End:={ x with kind:=0 }
 if x.kind=1 then(cu f x.to,{ r with to:=0 })
 else if x.kind=2 then(aX (cG f.al x.a) 1&&(cu f x.to&&cu f x.gD),{ r with a:=0,to:=0,gD:=0 })
 else if x.kind=3 then(if f.result≠0/\f.iter=false then aX (cG f.al x.a) f.result else aX x.a (-1),{ r with a:=0 })
 else if x.kind=4 then(isName x.name,{ r with name:=.empty })
 else if x.kind=5 then((gz j9 x.ins.op).isSome&&(qJ f.al x.ins ((gz j9 x.ins.op).getD Ad)&&(cu f x.to&&nD f x)),{ r with ins:=eB,to:=0,aL:=[],cX:= -1 })
 else if x.kind=6 then(lX x.name&&(decide ((x.args.length:Int)<=6)&&(gX f.al x.args&&((aX x.a (-1)||eX f.al x.a)&&(cu f x.to&&nD f x)))),{ r with name:=.empty,args:=[],a:=0,to:=0,aL:=[],cX:= -1 })
 else if x.kind=7 then(lX x.name&&(decide ((x.args.length:Int)<=6)&&(gX f.al x.args&&(aX (cG f.al x.a) 3&&cu f x.to))),{ r with name:=.empty,args:=[],a:=0,to:=0 })
 else if x.kind=8 then(aX (cG f.al x.a) 3&&(eX f.al x.b&&(cu f x.to&&(cu f x.gD&&nD f x))),{ r with a:=0,b:=0,to:=0,gD:=0,aL:=[],cX:= -1 })
 else if x.kind=9 then(f.iter&&(aX (cG f.al x.a) f.result&&cu f x.to),{ r with a:=0,to:=0 })
 else(false,r)
def aU(l:List Int)(n:Int):Bool:=l.any fun c=>n==c
def k8(n:Int):Int:=1200+n
def nC:List Int:=[1,2,3,4,5,6,7,8,9,10,11,13,14,17,19]
def pK:List Int:=[30,31,32,33,34,36,37]
def dL(x:bE):Int:=if aU nC x.op then x.to else if aU pK x.op then x.to else -1
def eS(x:End):Int:=if x.kind=5 then dL x.ins else if aU [6,7] x.kind then x.a else if x.kind=8 then x.b else -1
def pN:List Int:=[2,8,11,13,14,15,16,18,36]
def tm:List Int:=[3,4,5,6,7,12,30,31,32,33,34,35,37]
def cP(x:bE):List Int:=if aU pN x.op then [x.a] else if aU tm x.op then [x.a,x.b] else if x.op=10 then x.args else if x.op=38 then x.a::x.b::x.args else []
def cK(x:End):List Int:=if aU [2,8,9] x.kind then [x.a] else if x.kind=3 then(if x.a≠ -1 then [x.a] else []) else if x.kind=5 then cP x.ins else if aU [6,7] x.kind then x.args else []
def j8(f:aG)(x:End):Bool:=(gI f x).1&&Aw (gI f x).2
end Go.Argus
namespace Go.Proofs.Tryz.K
open Go.Abs
def zf(i:Nat):Code->Option (Array Oper)
 | .region j o _=>bif Nat.beq i j then some o else none
 | .seq a b=>match zf i a with
  |some x=>some x
  |none=>zf i b
 | .cond _ a b=>match zf i a with
  |some x=>some x
  |none=>zf i b
 | .block _ b=>zf i b
 | .loop b=>zf i b
 | .scope b=>zf i b
 | .rangeFunc _ _ a b=>match zf i a with
  |some x=>some x
  |none=>zf i b
 |_=>none
def Z(b:Code)(i:Nat):Array Oper:=(zf i b).getD #[]
abbrev G(i:Nat)(o:Array Oper):Code:=.region i o false
abbrev G1(b:Code)(i:Nat):Code:=.region i (Z b i) false
abbrev G2(b:Code)(i:Nat):Code:=.region i (Z b i) true
abbrev S1(a b:Code):Code:=.seq a b
abbrev C1(n:Nat)(a b:Code):Code:=.cond (.tmp n) a b
abbrev B1(n:Nat)(a:Code):Code:=.block n a
abbrev X1(n:Nat):Code:=.exit n
abbrev K1:Code:=.skip
theorem akt:EF=(S1 (G1 EF 0) (S1 (G1 EF 1) .ret)):=kr
theorem agz:D6=(S1 (G1 D6 0) (S1 (G1 D6 1) .ret)):=kr
theorem afP:Ea=(S1 (G1 Ea 0) (S1 (G1 Ea 1) .ret)):=kr
theorem agx:Ed=(S1 (G1 Ed 0) (S1 (G1 Ed 1) .ret)):=kr
theorem afO:tB=(S1 (G1 tB 0) (S1 (S1 (G1 tB 1) (B1 0 (.loop (S1 (G1 tB 2) (S1 (C1 9 K1 (X1 0)) (S1 (B1 1 (S1 (G1 tB 3) (S1 (G1 tB 4) (C1 16 (S1 (G1 tB 5) .ret) K1)))) (G1 tB 6))))))) (S1 (G1 tB 7) .ret))):=kr
theorem af8:uS=(S1 (G1 uS 0) (S1 (G1 uS 1) (S1 (S1 (G1 uS 2) (B1 0 (.rangeFunc (.tmp 8) #[9] (G1 uS 3) (B1 1 (S1 (G1 uS 4) (C1 12 (G1 uS 5) K1)))))) (S1 (G1 uS 6) .ret)))):=kr
theorem af1:si=(S1 (S1 (G1 si 0) (C1 19 .ret K1)) (S1 (S1 (G1 si 1) (C1 34 .ret K1)) (S1 (S1 (G1 si 2) (B1 0 (.loop (S1 (G1 si 3) (S1 (C1 39 K1 (X1 0)) (S1 (B1 1 (S1 (G1 si 4) (S1 (G1 si 5) (C1 46 .ret K1)))) (G1 si 6))))))) (S1 (G1 si 7) (C1 65 (G1 si 8) K1))))):=kr
theorem af0:D0=(S1 (G1 D0 0) (S1 (G1 D0 1) .ret)):=kr
theorem afQ:tx=(S1 (G1 tx 0) (S1 (S1 (G1 tx 1) (B1 0 (.loop (S1 (G1 tx 2) (S1 (C1 9 K1 (X1 0)) (S1 (B1 1 (S1 (G1 tx 3) (S1 (G1 tx 4) (C1 16 (S1 (G1 tx 5) .ret) K1)))) (G1 tx 6))))))) (S1 (G1 tx 7) .ret))):=kr
theorem afR:D4=(S1 (G1 D4 0) (S1 (G1 D4 1) .ret)):=kr
theorem afS:tC=(S1 (G1 tC 0) (S1 (S1 (G1 tC 1) (B1 0 (.loop (S1 (G1 tC 2) (S1 (C1 9 K1 (X1 0)) (S1 (B1 1 (S1 (G1 tC 3) (S1 (G1 tC 4) (C1 16 (S1 (G1 tC 5) .ret) K1)))) (G1 tC 6))))))) (S1 (G1 tC 7) .ret))):=kr
theorem afT:Ek=(S1 (G1 Ek 0) (S1 (G1 Ek 1) .ret)):=kr
theorem afU:tu=(S1 (G1 tu 0) (S1 (S1 (G1 tu 1) (B1 0 (.loop (S1 (G1 tu 2) (S1 (C1 9 K1 (X1 0)) (S1 (B1 1 (S1 (G1 tu 3) (S1 (G1 tu 4) (C1 16 (S1 (G1 tu 5) .ret) K1)))) (G1 tu 6))))))) (S1 (G1 tu 7) .ret))):=kr
theorem afV:DX=(S1 (G1 DX 0) (S1 (G1 DX 1) .ret)):=kr
theorem agI:tq=(S1 (G1 tq 0) (S1 (S1 (G1 tq 1) (B1 0 (.loop (S1 (G1 tq 2) (S1 (C1 9 K1 (X1 0)) (S1 (B1 1 (S1 (G1 tq 3) (S1 (G1 tq 4) (C1 16 (S1 (G1 tq 5) .ret) K1)))) (G1 tq 6))))))) (S1 (G1 tq 7) .ret))):=kr
theorem akE:EC=(S1 (G1 EC 0) (S1 (G1 EC 1) .ret)):=kr
theorem agw:Eb=(S1 (G1 Eb 0) (S1 (G1 Eb 1) .ret)):=kr
theorem agy:D2=(S1 (G1 D2 0) (S1 (G1 D2 1) .ret)):=kr
theorem agA:D5=(S1 (G1 D5 0) (S1 (G1 D5 1) .ret)):=kr
theorem agB:Ec=(S1 (G1 Ec 0) (S1 (G1 Ec 1) .ret)):=kr
theorem agC:D3=(S1 (G1 D3 0) (S1 (G1 D3 1) .ret)):=kr
theorem ag2:BO=(S1 (G1 BO 0) (S1 (G1 BO 1) (S1 (G1 BO 2) .ret))):=kr
theorem ag1:Ae=(S1 (G1 Ae 0) (S1 (G1 Ae 1) (S1 (G1 Ae 2) (S1 (G1 Ae 3) .ret)))):=kr
theorem agL:Ee=(S1 (G1 Ee 0) (S1 (G1 Ee 1) .ret)):=kr
theorem agM:Ah=(S1 (G1 Ah 0) (S1 (S1 (G1 Ah 1) (C1 12 (S1 (G1 Ah 2) .ret) K1)) (S1 (G1 Ah 3) .ret))):=kr
theorem agT:pR=(S1 (G1 pR 0) (S1 (G1 pR 1) (S1 (S1 (G1 pR 2) (C1 20 (G1 pR 3) K1)) (S1 (G1 pR 4) (S1 (S1 (G1 pR 5) (B1 0 (S1 (G1 pR 6) (C1 31 (G1 pR 7) (S1 (G1 pR 8) (C1 43 (G1 pR 9) K1)))))) (S1 (G1 pR 10) .ret)))))):=kr
theorem ag0:tz=(S1 (G1 tz 0) (S1 (S1 (G1 tz 1) (B1 0 (.loop (S1 (G1 tz 2) (S1 (C1 11 K1 (X1 0)) (S1 (B1 1 (S1 (G1 tz 3) (S1 (G1 tz 4) (C1 33 (S1 (G1 tz 5) .ret) K1)))) (G1 tz 6))))))) (S1 (G1 tz 7) .ret))):=kr
theorem agO:Eg=(S1 (G1 Eg 0) (S1 (G1 Eg 1) .ret)):=kr
theorem Qi:drawInfo (Z BP 1)=some [(10,11),(10,12),(10,13),(10,15),(10,16)]:=kr
theorem agP:BP=(S1 (G1 BP 0) (S1 (G2 BP 1) .ret)):=kr
theorem abe:drawInfo (Z BQ 1)=some [(2,3)]:=kr
theorem ahi:BQ=(S1 (G1 BQ 0) (S1 (G2 BQ 1) .ret)):=kr
theorem agS:oO=(S1 (G1 oO 0) (S1 (G1 oO 1) (S1 (S1 (G1 oO 2) (B1 0 (S1 (G1 oO 3) (C1 14 (S1 (G1 oO 4) .ret) (S1 (G1 oO 5) (C1 18 (S1 (G1 oO 6) .ret) (S1 (G1 oO 7) (C1 22 (S1 (G1 oO 8) .ret) (S1 (G1 oO 9) (C1 26 (S1 (G1 oO 10) .ret) K1)))))))))) (S1 (G1 oO 11) .ret)))):=kr
theorem agZ:El=(S1 (G1 El 0) (S1 (G1 El 1) .ret)):=kr
theorem agN:Em=(S1 (G1 Em 0) (S1 (G1 Em 1) .ret)):=kr
theorem agY:Eh=(S1 (G1 Eh 0) (S1 (G1 Eh 1) .ret)):=kr
theorem agX:En=(S1 (G1 En 0) (S1 (G1 En 1) .ret)):=kr
theorem Z':drawInfo (Z fy 11)=some [(3,4),(3,5),(3,6)]:=kr
theorem aaa:drawInfo (Z fy 28)=some [(7,8),(7,9),(7,10)]:=kr
theorem ahQ:fy=(S1 (G1 fy 0) (S1 (G1 fy 1) (S1 (G1 fy 2) (S1 (S1 (G1 fy 3) (B1 0 (S1 (G1 fy 4) (C1 13 (G1 fy 5) (S1 (G1 fy 6) (C1 20 (G1 fy 7) (S1 (G1 fy 8) (C1 42 (S1 (G1 fy 9) (S1 (G1 fy 10) (C1 57 (G2 fy 11) K1))) (S1 (G1 fy 12) (C1 66 (G1 fy 13) (S1 (G1 fy 14) (C1 72 (S1 (G1 fy 15) (S1 (G1 fy 16) (G1 fy 17))) (S1 (G1 fy 18) (C1 107 (S1 (G1 fy 19) (G1 fy 20)) (S1 (G1 fy 21) (C1 153 (S1 (G1 fy 22) (G1 fy 23)) (S1 (G1 fy 24) (C1 187 (S1 (G1 fy 25) (G1 fy 26)) (S1 (G1 fy 27) (C1 224 (G2 fy 28) K1)))))))))))))))))))) (S1 (G1 fy 29) .ret))))):=kr
theorem ahj:mN=(S1 (G1 mN 0) (S1 (S1 (G1 mN 1) (B1 0 (S1 (G1 mN 2) (C1 17 (S1 (G1 mN 3) .ret) (S1 (G1 mN 4) (C1 45 (S1 (G1 mN 5) .ret) (S1 (G1 mN 6) (C1 69 (S1 (G1 mN 7) .ret) (S1 (G1 mN 8) (C1 93 (S1 (G1 mN 9) (S1 (G1 mN 10) (S1 (G1 mN 11) .ret))) K1)))))))))) (S1 (G1 mN 12) (S1 (G1 mN 13) .ret)))):=kr
theorem ZZ:drawInfo (Z eA 10)=some []:=kr
theorem Z0:drawInfo (Z eA 32)=some []:=kr
theorem agF:eA=(S1 (G1 eA 0) (S1 (G1 eA 1) (S1 (G1 eA 2) (S1 (S1 (G1 eA 3) (C1 71 (S1 (G1 eA 4) .ret) K1)) (S1 (S1 (G1 eA 5) (C1 101 (S1 (G1 eA 6) .ret) K1)) (S1 (S1 (G1 eA 7) (B1 0 (.loop (S1 (S1 (G1 eA 8) (C1 106 K1 (X1 0))) (S1 (B1 1 (S1 (G2 eA 10) (C1 120 (S1 (G1 eA 11) .ret) K1))) (G1 eA 9)))))) (S1 (G1 eA 12) (S1 (S1 (G1 eA 13) (B1 2 (.loop (S1 (G1 eA 14) (S1 (C1 126 K1 (X1 2)) (S1 (B1 3 (S1 (G1 eA 15) (S1 (S1 (G1 eA 16) (C1 139 (S1 (G1 eA 17) .ret) K1)) (S1 (G1 eA 18) (C1 143 (S1 (S1 (G1 eA 19) (C1 148 (S1 (G1 eA 20) .ret) K1)) (G1 eA 21)) K1))))) (G1 eA 22))))))) (S1 (G1 eA 23) (S1 (S1 (G1 eA 24) (B1 4 (.loop (S1 (G1 eA 25) (S1 (C1 160 K1 (X1 4)) (S1 (B1 5 (S1 (G1 eA 26) (S1 (G1 eA 27) (S1 (G1 eA 28) (B1 6 (.loop (S1 (G1 eA 29) (S1 (C1 168 K1 (X1 6)) (S1 (B1 7 (S1 (G1 eA 30) (S1 (G1 eA 31) (S1 (G2 eA 32) (C1 187 (S1 (G1 eA 33) .ret) K1))))) (G1 eA 34)))))))))) (G1 eA 35))))))) (S1 (G1 eA 36) .ret))))))))))):=kr
theorem aks:oU=(S1 (G1 oU 0) (S1 (G1 oU 1) (S1 (S1 (G1 oU 2) (B1 0 (.loop (S1 (G1 oU 3) (S1 (C1 18 K1 (X1 0)) (S1 (B1 1 (S1 (G1 oU 4) (S1 (G1 oU 5) (B1 2 (.loop (S1 (G1 oU 6) (S1 (C1 28 K1 (X1 2)) (S1 (B1 3 (S1 (G1 oU 7) (G1 oU 8))) (G1 oU 9))))))))) (G1 oU 10))))))) (S1 (G1 oU 11) .ret)))):=kr
theorem agk:DZ=(S1 (G1 DZ 0) (S1 (G1 DZ 1) .ret)):=kr
theorem aaX:drawInfo (Z yC 2)=some [(0,2)]:=kr
theorem agl:yC=(S1 (G1 yC 0) (S1 (S1 (G1 yC 1) (C1 9 (S1 (G2 yC 2) .ret) K1)) (S1 (G1 yC 3) .ret))):=kr
theorem JH:drawInfo (Z jy 10)=some [(6,9)]:=kr
theorem agm:jy=(S1 (G1 jy 0) (S1 (G1 jy 1) (S1 (S1 (G1 jy 2) (B1 0 (.loop (S1 (G1 jy 3) (S1 (C1 17 K1 (X1 0)) (S1 (B1 1 (S1 (G1 jy 4) (S1 (S1 (G1 jy 5) (B1 2 (.loop (S1 (G1 jy 6) (S1 (C1 24 K1 (X1 2)) (S1 (B1 3 (S1 (G1 jy 7) (G1 jy 8))) (G1 jy 9))))))) (S1 (G2 jy 10) (G1 jy 11))))) (G1 jy 12))))))) (S1 (S1 (G1 jy 13) (B1 4 (.loop (S1 (G1 jy 14) (S1 (C1 56 K1 (X1 4)) (S1 (B1 5 (S1 (G1 jy 15) (G1 jy 16))) (G1 jy 17))))))) (S1 (G1 jy 18) .ret))))):=kr
theorem aaB:drawInfo (Z wC 2)=some [(0,3)]:=kr
theorem aaA:drawInfo (Z wC 3)=some [(0,2)]:=kr
theorem afZ:wC=(S1 (G1 wC 0) (S1 (S1 (G1 wC 1) (C1 7 (S1 (G2 wC 2) .ret) K1)) (S1 (G2 wC 3) .ret))):=kr
theorem aay:drawInfo (Z yD 2)=some []:=kr
theorem afX:yD=(S1 (G1 yD 0) (S1 (S1 (G1 yD 1) (C1 6 (G2 yD 2) K1)) (S1 (G1 yD 3) .ret))):=kr
theorem aaz:drawInfo (Z tA 4)=some []:=kr
theorem afY:tA=(S1 (G1 tA 0) (S1 (S1 (G1 tA 1) (B1 0 (.loop (S1 (G1 tA 2) (S1 (C1 7 K1 (X1 0)) (S1 (B1 1 (S1 (G1 tA 3) (G2 tA 4))) (G1 tA 5))))))) (S1 (G1 tA 6) .ret))):=kr
theorem afW:D7=(S1 (G1 D7 0) (S1 (G1 D7 1) .ret)):=kr
theorem ah2:Ei=(S1 (G1 Ei 0) (S1 (G1 Ei 1) .ret)):=kr
theorem aaZ:drawInfo (Z fh 1)=some [(4,5),(4,6),(4,7),(4,8)]:=kr
theorem ZS:drawInfo (Z fh 20)=some []:=kr
theorem ZT:drawInfo (Z fh 24)=some [(2,8),(3,8)]:=kr
theorem ZU:drawInfo (Z fh 25)=some []:=kr
theorem agu:fh=(S1 (G1 fh 0) (S1 (G2 fh 1) (S1 (S1 (G1 fh 2) (B1 0 (.loop (S1 (G1 fh 3) (S1 (C1 29 K1 (X1 0)) (S1 (B1 1 (S1 (G1 fh 4) (G1 fh 5))) (G1 fh 6))))))) (S1 (G1 fh 7) (S1 (S1 (G1 fh 8) (B1 2 (.loop (S1 (G1 fh 9) (S1 (C1 45 K1 (X1 2)) (S1 (B1 3 (S1 (G1 fh 10) (G1 fh 11))) (G1 fh 12))))))) (S1 (S1 (G1 fh 13) (B1 4 (.loop (S1 (S1 (G1 fh 14) (C1 55 K1 (X1 4))) (B1 5 (S1 (G1 fh 15) (S1 (G1 fh 16) (B1 6 (.loop (S1 (G1 fh 17) (S1 (C1 61 K1 (X1 6)) (S1 (B1 7 (S1 (G1 fh 18) (S1 (S1 (G1 fh 19) (C1 69 (X1 7) K1)) (S1 (G2 fh 20) (S1 (G1 fh 21) (B1 8 (.loop (S1 (G1 fh 22) (S1 (C1 85 K1 (X1 8)) (S1 (B1 9 (S1 (G1 fh 23) (S1 (G2 fh 24) (S1 (G2 fh 25) (C1 110 (G1 fh 26) K1))))) (G1 fh 27))))))))))) (G1 fh 28))))))))))))) (S1 (G1 fh 29) .ret))))))):=kr
theorem aa1:drawInfo (Z gG 7)=some []:=kr
theorem ZX:drawInfo (Z gG 17)=some []:=kr
theorem ZY:drawInfo (Z gG 18)=some [(14,15),(14,16),(14,18),(14,19)]:=kr
theorem agD:gG=(S1 (G1 gG 0) (.scope (S1 (G1 gG 1) (S1 (G1 gG 2) (S1 (.label 0) (S1 (S1 (G1 gG 3) (B1 0 (.loop (S1 (G1 gG 4) (S1 (C1 28 K1 (X1 0)) (S1 (B1 1 (S1 (G1 gG 5) (S1 (S1 (G1 gG 6) (C1 36 (X1 1) K1)) (S1 (S1 (G2 gG 7) (S1 (G1 gG 8) (C1 47 (S1 (G1 gG 9) .ret) K1))) (S1 (G1 gG 10) (B1 2 (.loop (S1 (G1 gG 11) (S1 (C1 52 K1 (X1 2)) (S1 (B1 3 (S1 (G1 gG 12) (S1 (S1 (G1 gG 13) (C1 57 (X1 1) K1)) (S1 (G1 gG 14) (B1 4 (.loop (S1 (G1 gG 15) (S1 (C1 64 K1 (X1 4)) (S1 (B1 5 (S1 (G1 gG 16) (S1 (G2 gG 17) (S1 (G2 gG 18) (C1 104 (S1 (G1 gG 19) .ret) K1))))) (G1 gG 20)))))))))) (G1 gG 21))))))))))) (G1 gG 22))))))) (S1 (G1 gG 23) .ret))))))):=kr
theorem akB:wJ=(S1 (G1 wJ 0) (S1 (B1 0 (S1 (G1 wJ 1) (C1 3 (S1 (G1 wJ 2) .ret) (S1 (G1 wJ 3) (C1 7 (S1 (G1 wJ 4) .ret) K1))))) (S1 (G1 wJ 5) .ret))):=kr
theorem ah3:gF=(S1 (G1 gF 0) (S1 (S1 (G1 gF 1) (B1 0 (S1 (S1 (G1 gF 2) (C1 5 K1 (S1 (G1 gF 3) (C1 5 K1 (S1 (G1 gF 4) (C1 5 K1 (S1 (G1 gF 5) (C1 5 K1 (S1 (G1 gF 6) (C1 5 K1 (S1 (G1 gF 7) (C1 5 K1 (S1 (G1 gF 8) (C1 5 K1 (S1 (G1 gF 9) (C1 5 K1 (S1 (G1 gF 10) (C1 5 K1 (S1 (G1 gF 11) (C1 5 K1 (S1 (G1 gF 12) (C1 5 K1 (S1 (G1 gF 13) (C1 5 K1 (S1 (G1 gF 14) (C1 5 K1 (S1 (G1 gF 15) (C1 5 K1 (G1 gF 16))))))))))))))))))))))))))))) (C1 5 (S1 (G1 gF 17) .ret) (S1 (S1 (G1 gF 18) (C1 23 K1 (S1 (G1 gF 19) (C1 23 K1 (S1 (G1 gF 20) (C1 23 K1 (S1 (G1 gF 21) (C1 23 K1 (S1 (G1 gF 22) (C1 23 K1 (S1 (G1 gF 23) (C1 23 K1 (G1 gF 24))))))))))))) (C1 23 (S1 (G1 gF 25) .ret) K1)))))) (S1 (G1 gF 26) .ret))):=kr
theorem ah6:fI=(S1 (G1 fI 0) (S1 (S1 (G1 fI 1) (B1 0 (S1 (S1 (G1 fI 2) (C1 5 K1 (S1 (G1 fI 3) (C1 5 K1 (S1 (G1 fI 4) (C1 5 K1 (S1 (G1 fI 5) (C1 5 K1 (S1 (G1 fI 6) (C1 5 K1 (S1 (G1 fI 7) (C1 5 K1 (S1 (G1 fI 8) (C1 5 K1 (S1 (G1 fI 9) (C1 5 K1 (G1 fI 10))))))))))))))))) (C1 5 (S1 (G1 fI 11) .ret) (S1 (S1 (G1 fI 12) (C1 18 K1 (S1 (G1 fI 13) (C1 18 K1 (S1 (G1 fI 14) (C1 18 K1 (S1 (G1 fI 15) (C1 18 K1 (S1 (G1 fI 16) (C1 18 K1 (S1 (G1 fI 17) (C1 18 K1 (S1 (G1 fI 18) (C1 18 K1 (S1 (G1 fI 19) (C1 18 K1 (S1 (G1 fI 20) (C1 18 K1 (S1 (G1 fI 21) (C1 18 K1 (S1 (G1 fI 22) (C1 18 K1 (S1 (G1 fI 23) (C1 18 K1 (G1 fI 24))))))))))))))))))))))))) (C1 18 (S1 (G1 fI 25) .ret) (S1 (G1 fI 26) (C1 37 (S1 (G1 fI 27) .ret) (S1 (G1 fI 28) (C1 42 (S1 (G1 fI 29) .ret) K1)))))))))) (S1 (G1 fI 30) .ret))):=kr
theorem ah7:lU=(S1 (G1 lU 0) (S1 (S1 (G1 lU 1) (B1 0 (S1 (S1 (G1 lU 2) (C1 5 K1 (S1 (G1 lU 3) (C1 5 K1 (G1 lU 4))))) (C1 5 (S1 (G1 lU 5) .ret) (S1 (G1 lU 6) (C1 12 (S1 (G1 lU 7) (C1 16 (S1 (G1 lU 8) .ret) K1)) (S1 (G1 lU 9) (C1 20 (S1 (G1 lU 10) .ret) (S1 (S1 (G1 lU 11) (C1 25 K1 (G1 lU 12))) (C1 25 (S1 (G1 lU 13) .ret) K1)))))))))) (S1 (G1 lU 14) .ret))):=kr
theorem ah4:qM=(S1 (G1 qM 0) (S1 (S1 (G1 qM 1) (B1 0 (S1 (G1 qM 2) (C1 5 (S1 (G1 qM 3) .ret) (S1 (S1 (G1 qM 4) (C1 10 K1 (G1 qM 5))) (C1 10 (S1 (G1 qM 6) .ret) (S1 (G1 qM 7) (C1 15 (S1 (G1 qM 8) .ret) K1)))))))) (S1 (G1 qM 9) .ret))):=kr
theorem ah5:yA=(S1 (G1 yA 0) (S1 (S1 (G1 yA 1) (C1 4 (S1 (G1 yA 2) .ret) K1)) (S1 (G1 yA 3) .ret))):=kr
theorem akn:EE=(S1 (G1 EE 0) (G1 EE 1)):=kr
theorem agi:fJ=(S1 (G1 fJ 0) (S1 (G1 fJ 1) (B1 0 (.loop (B1 1 (S1 (G1 fJ 2) (S1 (S1 (G1 fJ 3) (C1 23 (S1 (G1 fJ 4) .ret) K1)) (S1 (S1 (G1 fJ 5) (C1 29 (S1 (G1 fJ 6) .ret) K1)) (S1 (S1 (G1 fJ 7) (C1 35 (S1 (G1 fJ 8) (G1 fJ 9)) K1)) (S1 (G1 fJ 10) (S1 (S1 (G1 fJ 11) (C1 50 (S1 (G1 fJ 12) (S1 (G1 fJ 13) (G1 fJ 14))) K1)) (S1 (S1 (G1 fJ 15) (C1 68 (S1 (G1 fJ 16) (C1 72 .ret K1)) K1)) (S1 (S1 (G2 fJ 17) (C1 87 (S1 (G1 fJ 18) (S1 (G1 fJ 19) (X1 1))) K1)) (S1 (G1 fJ 20) (S1 (G1 fJ 21) (S1 (G1 fJ 22) (S1 (G1 fJ 23) (S1 (G1 fJ 24) (C1 113 (S1 (G1 fJ 25) (S1 (G1 fJ 26) (G1 fJ 27))) (S1 (G1 fJ 28) (S1 (G1 fJ 29) (G1 fJ 30)))))))))))))))))))))):=kr
theorem aaT:drawInfo (Z sf 4)=some []:=kr
theorem aaU:drawInfo (Z sf 6)=some []:=kr
theorem agh:sf=(S1 (G1 sf 0) (B1 0 (.loop (S1 (S1 (G1 sf 1) (C1 12 K1 (X1 0))) (S1 (B1 1 (S1 (G1 sf 3) (B1 2 (.loop (S1 (S1 (G2 sf 4) (C1 30 K1 (X1 2))) (S1 (B1 3 (G2 sf 6)) (G1 sf 5))))))) (G1 sf 2)))))):=kr
theorem agf:D1=(S1 (G1 D1 0) (S1 (G1 D1 1) .ret)):=kr
theorem age:D'=(S1 (G1 D' 0) (S1 (G1 D' 1) .ret)):=kr
theorem ack:drawInfo (Z jQ 6)=some []:=kr
theorem aaW:drawInfo (Z jQ 11)=some []:=kr
theorem ako:jQ=(S1 (G1 jQ 0) (S1 (S1 (G1 jQ 1) (C1 8 (S1 (G1 jQ 2) .ret) K1)) (S1 (S1 (G1 jQ 3) (B1 0 (.loop (S1 (S1 (G1 jQ 4) (C1 13 K1 (X1 0))) (S1 (B1 1 (S1 (G2 jQ 6) (C1 25 (S1 (G1 jQ 7) (S1 (S1 (G1 jQ 8) (B1 2 (.loop (S1 (S1 (G1 jQ 9) (C1 32 K1 (X1 2))) (S1 (B1 3 (S1 (G2 jQ 11) (C1 44 (S1 (G1 jQ 12) (G1 jQ 13)) K1))) (G1 jQ 10)))))) (S1 (G1 jQ 14) (S1 (G1 jQ 15) .ret)))) K1))) (G1 jQ 5)))))) (S1 (G1 jQ 16) .ret)))):=kr
theorem agj:Ag=(S1 (G1 Ag 0) (S1 (G1 Ag 1) (S1 (G1 Ag 2) (S1 (G1 Ag 3) .ret)))):=kr
theorem af':Ej=(S1 (G1 Ej 0) (S1 (G1 Ej 1) .ret)):=kr
theorem af9:yE=(S1 (G1 yE 0) (S1 (S1 (G1 yE 1) (B1 0 (.rangeFunc (.tmp 6) #[7] (G1 yE 2) (B1 1 (G1 yE 3))))) (S1 (G1 yE 4) .ret))):=kr
theorem agH:mM=(S1 (G1 mM 0) (S1 (G1 mM 1) (S1 (S1 (G1 mM 2) (C1 13 (G1 mM 3) K1)) (S1 (S1 (G1 mM 4) (C1 26 (G1 mM 5) K1)) (S1 (S1 (G1 mM 6) (B1 0 (.loop (S1 (G1 mM 7) (S1 (C1 36 K1 (X1 0)) (S1 (B1 1 (S1 (G1 mM 8) (G1 mM 9))) (G1 mM 10))))))) (S1 (S1 (G1 mM 11) (C1 47 (G1 mM 12) K1)) (S1 (G1 mM 13) .ret))))))):=kr
theorem agQ:tt=(S1 (G1 tt 0) (S1 (G1 tt 1) (S1 (S1 (G1 tt 2) (C1 15 (S1 (G1 tt 3) .ret) K1)) (S1 (G1 tt 4) (S1 (G1 tt 5) (S1 (G1 tt 6) (S1 (G1 tt 7) .ret))))))):=kr
theorem agK:uR=(S1 (G1 uR 0) (S1 (G1 uR 1) (B1 0 (.loop (S1 (G1 uR 2) (S1 (C1 20 K1 (X1 0)) (S1 (B1 1 (S1 (G1 uR 3) (S1 (G1 uR 4) (C1 32 (G1 uR 5) K1)))) (G1 uR 6)))))))):=kr
theorem acz:drawInfo (Z iG 5)=some []:=kr
theorem aa5:drawInfo (Z iG 11)=some [(1,6),(2,6),(3,6)]:=kr
theorem aa6:drawInfo (Z iG 15)=some [(1,14),(2,14),(3,14)]:=kr
theorem W5:iG=(S1 (G1 iG 0) (S1 (S1 (G1 iG 1) (S1 (G1 iG 2) (C1 15 (S1 (G1 iG 3) .ret) K1))) (S1 (G1 iG 4) (S1 (G2 iG 5) (S1 (S1 (G1 iG 6) (B1 0 (.loop (S1 (G1 iG 7) (S1 (C1 31 K1 (X1 0)) (S1 (B1 1 (S1 (G1 iG 8) (S1 (G1 iG 9) (S1 (G1 iG 10) (S1 (G2 iG 11) (S1 (G1 iG 12) (B1 2 (.loop (S1 (G1 iG 13) (S1 (C1 57 K1 (X1 2)) (S1 (B1 3 (S1 (G1 iG 14) (G2 iG 15))) (G1 iG 16)))))))))))) (G1 iG 17))))))) (S1 (G1 iG 18) (S1 (G1 iG 19) .ret))))))):=kr
theorem agR:tv=(S1 (G1 tv 0) (S1 (S1 (G1 tv 1) (B1 0 (.loop (S1 (G1 tv 2) (S1 (C1 20 K1 (X1 0)) (S1 (B1 1 (S1 (G1 tv 3) (S1 (G1 tv 4) (C1 27 (G1 tv 5) K1)))) (G1 tv 6))))))) (G1 tv 7))):=kr
theorem akK:tI=(S1 (G1 tI 0) (S1 (G1 tI 1) (S1 (G1 tI 2) (S1 (G1 tI 3) (S1 (G1 tI 4) (S1 (G1 tI 5) (S1 (G1 tI 6) (S1 (G1 tI 7) .ret)))))))):=kr
theorem acx:drawInfo (Z yN 3)=some []:=kr
theorem akJ:yN=(S1 (G1 yN 0) (B1 0 (.loop (S1 (S1 (G1 yN 1) (C1 9 K1 (X1 0))) (S1 (B1 1 (G2 yN 3)) (G1 yN 2)))))):=kr
theorem agJ:Af=(S1 (G1 Af 0) (B1 0 (.loop (S1 (S1 (G1 Af 1) (C1 8 K1 (X1 0))) (S1 (B1 1 (S1 (G1 Af 3) (C1 18 .ret K1))) (G1 Af 2)))))):=kr
theorem akF:ED=(S1 (G1 ED 0) (S1 (G1 ED 1) .ret)):=kr
theorem akQ:jO=(S1 (G1 jO 0) (S1 (S1 (G1 jO 1) (C1 58 (S1 (G1 jO 2) .ret) K1)) (S1 (S1 (G1 jO 3) (B1 0 (.loop (S1 (S1 (G1 jO 4) (C1 63 K1 (X1 0))) (S1 (B1 1 (S1 (G1 jO 6) (C1 72 (S1 (G1 jO 7) .ret) K1))) (G1 jO 5)))))) (S1 (S1 (G1 jO 8) (B1 2 (.loop (S1 (S1 (G1 jO 9) (C1 77 K1 (X1 2))) (S1 (B1 3 (S1 (G1 jO 11) (S1 (S1 (G1 jO 12) (C1 117 (S1 (G1 jO 13) .ret) K1)) (S1 (G1 jO 14) (B1 4 (.loop (S1 (S1 (G1 jO 15) (C1 122 K1 (X1 4))) (S1 (B1 5 (S1 (G1 jO 17) (C1 132 (S1 (G1 jO 18) .ret) K1))) (G1 jO 16))))))))) (G1 jO 10)))))) (S1 (G1 jO 19) .ret))))):=kr
theorem af3:DW=(S1 (G1 DW 0) (S1 (G1 DW 1) .ret)):=kr
theorem af2:qK=(S1 (G1 qK 0) (S1 (S1 (G1 qK 1) (B1 0 (.loop (S1 (G1 qK 2) (S1 (C1 10 K1 (X1 0)) (S1 (B1 1 (S1 (S1 (G1 qK 3) (C1 13 (S1 (G1 qK 4) .ret) K1)) (S1 (S1 (G1 qK 5) (C1 31 (S1 (G1 qK 6) .ret) K1)) (G1 qK 7)))) (G1 qK 8))))))) (S1 (G1 qK 9) .ret))):=kr
theorem akU:tJ=(S1 (G1 tJ 0) (S1 (G1 tJ 1) (S1 (S1 (G1 tJ 2) (B1 0 (.loop (S1 (G1 tJ 3) (S1 (C1 12 K1 (X1 0)) (S1 (B1 1 (S1 (G1 tJ 4) (G1 tJ 5))) (G1 tJ 6))))))) (S1 (G1 tJ 7) .ret)))):=kr
theorem aba:drawInfo (Z fk 24)=some []:=kr
theorem akV:fk=(S1 (G1 fk 0) (S1 (G1 fk 1) (S1 (G1 fk 2) (S1 (S1 (G1 fk 3) (B1 0 (.loop (S1 (G1 fk 4) (S1 (C1 26 K1 (X1 0)) (S1 (B1 1 (S1 (G1 fk 5) (G1 fk 6))) (G1 fk 7))))))) (S1 (G1 fk 8) (S1 (G1 fk 9) (S1 (S1 (G1 fk 10) (B1 2 (.loop (S1 (S1 (G1 fk 11) (C1 44 K1 (X1 2))) (B1 3 (S1 (G1 fk 12) (S1 (G1 fk 13) (B1 4 (.loop (S1 (G1 fk 14) (S1 (C1 49 K1 (X1 4)) (S1 (B1 5 (S1 (G1 fk 15) (S1 (G1 fk 16) (S1 (S1 (G1 fk 17) (B1 6 (.loop (S1 (G1 fk 18) (S1 (C1 61 K1 (X1 6)) (S1 (B1 7 (S1 (G1 fk 19) (S1 (S1 (G1 fk 20) (C1 68 (X1 7) K1)) (S1 (S1 (G1 fk 21) (C1 70 (S1 (G1 fk 22) (X1 7)) K1)) (B1 8 (.loop (S1 (S1 (G1 fk 23) (C1 74 K1 (X1 8))) (B1 9 (S1 (G2 fk 24) (C1 83 (G1 fk 25) (G1 fk 26))))))))))) (G1 fk 27))))))) (S1 (G1 fk 28) (C1 98 (G1 fk 29) K1)))))) (G1 fk 30))))))))))))) (S1 (G1 fk 31) (S1 (G1 fk 32) .ret))))))))):=kr
theorem akR:yM=(S1 (G1 yM 0) (B1 0 (.loop (S1 (G1 yM 1) (S1 (C1 12 K1 (X1 0)) (S1 (B1 1 (S1 (G1 yM 2) (S1 (G1 yM 3) (C1 22 .ret K1)))) (G1 yM 4))))))):=kr
theorem DC:drawInfo (Z dQ 20)=some [(0,6)]:=kr
theorem W9:dQ=(S1 (G1 dQ 0) (S1 (G1 dQ 1) (S1 (S1 (G1 dQ 2) (C1 19 (S1 (G1 dQ 3) .ret) K1)) (S1 (G1 dQ 4) (S1 (G1 dQ 5) (S1 (S1 (G1 dQ 6) (B1 0 (.rangeFunc (.tmp 31) #[32] (G1 dQ 7) (B1 1 (S1 (G1 dQ 8) (B1 2 (.loop (S1 (G1 dQ 9) (S1 (C1 42 K1 (X1 2)) (S1 (B1 3 (S1 (G1 dQ 10) (S1 (G1 dQ 11) (B1 4 (.loop (S1 (S1 (G1 dQ 12) (C1 64 K1 (X1 4))) (S1 (B1 5 (G2 dQ 14)) (G1 dQ 13)))))))) (G1 dQ 15))))))))))) (S1 (S1 (G1 dQ 16) (B1 6 (.loop (S1 (G1 dQ 17) (S1 (C1 83 K1 (X1 6)) (S1 (B1 7 (S1 (G1 dQ 18) (S1 (G1 dQ 19) (G2 dQ 20)))) (G1 dQ 21))))))) (S1 (G1 dQ 22) .ret)))))))):=kr
noncomputable def EZ:T (Func×Code):=
 (.node none (.node none (.node none (.node none (.node none (.node none (.node none (.node none (.node (some (Tryz.f255,El)) .leaf .leaf) .leaf) (.node (some (Tryz.f191,D3)) .leaf .leaf)) (.node (some (Tryz.f95,wJ)) .leaf (.node (some (Tryz.f223,SA)) .leaf .leaf))) (.node none (.node none (.node (some (Tryz.f143,Si)) .leaf .leaf) .leaf) (.node none (.node (some (Tryz.f175,qM)) .leaf .leaf) (.node (some (Tryz.f239,BP)) .leaf .leaf)))) (.node (some (Tryz.f23,TI)) (.node (some (Tryz.f39,dQ)) (.node (some (Tryz.f71,TT)) (.node (some (Tryz.f135,Sc)) .leaf .leaf) (.node (some (Tryz.f199,yC)) .leaf .leaf)) (.node none .leaf (.node (some (Tryz.f231,tx)) .leaf .leaf))) (.node none (.node (some (Tryz.f87,TY)) (.node (some (Tryz.f151,fJ)) .leaf .leaf) .leaf) (.node (some (Tryz.f119,DX)) (.node (some (Tryz.f183,Su)) .leaf .leaf) (.node (some (Tryz.f247,Ej)) .leaf .leaf))))) (.node none (.node none (.node none (.node none (.node (some (Tryz.f131,DY)) .leaf .leaf) (.node (some (Tryz.f195,fy)) .leaf .leaf)) (.node none .leaf (.node (some (Tryz.f227,D')) .leaf .leaf))) (.node (some (Tryz.f51,iG)) (.node (some (Tryz.f83,TX)) .leaf .leaf) (.node (some (Tryz.f115,mM)) (.node (some (Tryz.f179,Sp)) .leaf .leaf) (.node (some (Tryz.f243,tA)) .leaf .leaf)))) (.node none (.node none (.node none (.node (some (Tryz.f139,gF)) .leaf .leaf) .leaf) (.node none .leaf (.node (some (Tryz.f235,pR)) .leaf .leaf))) (.node none (.node none (.node (some (Tryz.f155,DZ)) .leaf .leaf) .leaf) (.node none (.node (some (Tryz.f187,Sx)) .leaf .leaf) (.node (some (Tryz.f251,SF)) .leaf .leaf)))))) (.node none (.node none (.node (some (Tryz.f17,TH)) (.node (some (Tryz.f33,TL)) (.node (some (Tryz.f65,TP)) (.node (some (Tryz.f129,yB)) (.node (some (Tryz.f257,En)) .leaf .leaf) .leaf) (.node (some (Tryz.f193,D5)) .leaf .leaf)) (.node (some (Tryz.f97,oU)) .leaf (.node (some (Tryz.f225,SC)) .leaf .leaf))) (.node none .leaf (.node none (.node (some (Tryz.f177,So)) .leaf .leaf) (.node (some (Tryz.f241,SE)) .leaf .leaf)))) (.node none (.node (some (Tryz.f41,TN)) (.node (some (Tryz.f73,TV)) (.node (some (Tryz.f137,lU)) .leaf .leaf) (.node (some (Tryz.f201,Ag)) .leaf .leaf)) (.node (some (Tryz.f105,yA)) .leaf (.node (some (Tryz.f233,Ee)) .leaf .leaf))) (.node none (.node (some (Tryz.f89,EE)) (.node (some (Tryz.f153,eA)) .leaf .leaf) .leaf) (.node none (.node (some (Tryz.f185,Sv)) .leaf .leaf) .leaf)))) (.node none (.node none (.node none (.node (some (Tryz.f69,ED)) (.node (some (Tryz.f133,Sa)) .leaf .leaf) (.node (some (Tryz.f197,fh)) .leaf .leaf)) (.node none .leaf (.node (some (Tryz.f229,Eb)) .leaf .leaf))) (.node (some (Tryz.f53,pV)) (.node (some (Tryz.f85,tI)) (.node (some (Tryz.f149,tv)) .leaf .leaf) .leaf) (.node (some (Tryz.f117,DW)) (.node (some (Tryz.f181,Sr)) .leaf .leaf) (.node (some (Tryz.f245,wC)) .leaf .leaf)))) (.node none (.node none (.node none (.node (some (Tryz.f141,Sf)) .leaf .leaf) .leaf) (.node none .leaf (.node (some (Tryz.f237,Eg)) .leaf .leaf))) (.node (some (Tryz.f61,yM)) (.node (some (Tryz.f93,TZ)) .leaf .leaf) (.node none (.node (some (Tryz.f189,BO)) .leaf .leaf) (.node (some (Tryz.f253,oO)) .leaf .leaf))))))) (.node none (.node none (.node none (.node none (.node none (.node (some (Tryz.f64,qS)) (.node none (.node (some (Tryz.f256,Em)) .leaf .leaf) .leaf) (.node (some (Tryz.f192,D4)) .leaf .leaf)) (.node (some (Tryz.f96,EF)) .leaf (.node (some (Tryz.f224,SB)) .leaf .leaf))) (.node none (.node none (.node (some (Tryz.f144,Sj)) .leaf .leaf) .leaf) (.node none (.node (some (Tryz.f176,Af)) .leaf .leaf) (.node (some (Tryz.f240,BQ)) .leaf .leaf)))) (.node none (.node none (.node (some (Tryz.f72,TU)) (.node (some (Tryz.f136,Sd)) .leaf .leaf) (.node (some (Tryz.f200,D7)) .leaf .leaf)) (.node none (.node (some (Tryz.f168,uR)) .leaf .leaf) (.node (some (Tryz.f232,Ed)) .leaf .leaf))) (.node none (.node none (.node (some (Tryz.f152,Sk)) .leaf .leaf) .leaf) (.node none (.node (some (Tryz.f184,D1)) .leaf .leaf) .leaf)))) (.node none (.node (some (Tryz.f20,nM)) (.node (some (Tryz.f36,TM)) (.node none (.node (some (Tryz.f132,R')) (.node (some (Tryz.f260,tC)) .leaf .leaf) .leaf) (.node (some (Tryz.f196,mN)) .leaf .leaf)) (.node (some (Tryz.f100,R9)) .leaf (.node (some (Tryz.f228,Ea)) .leaf .leaf))) (.node (some (Tryz.f52,ix)) (.node (some (Tryz.f84,yN)) .leaf .leaf) (.node (some (Tryz.f116,tt)) (.node (some (Tryz.f180,Sq)) .leaf .leaf) (.node (some (Tryz.f244,Ei)) .leaf .leaf)))) (.node (some (Tryz.f28,TK)) (.node none (.node none (.node (some (Tryz.f140,fI)) .leaf .leaf) .leaf) (.node none .leaf (.node (some (Tryz.f236,tz)) .leaf .leaf))) (.node (some (Tryz.f60,fk)) (.node none (.node (some (Tryz.f156,D0)) .leaf .leaf) .leaf) (.node none (.node (some (Tryz.f188,Sy)) .leaf .leaf) (.node (some (Tryz.f252,tB)) .leaf .leaf)))))) (.node none (.node none (.node (some (Tryz.f18,iw)) (.node none (.node (some (Tryz.f66,TQ)) (.node (some (Tryz.f130,tu)) (.node (some (Tryz.f258,yE)) .leaf .leaf) .leaf) (.node (some (Tryz.f194,D6)) .leaf .leaf)) (.node none .leaf (.node (some (Tryz.f226,SD)) .leaf .leaf))) (.node (some (Tryz.f50,TO)) (.node (some (Tryz.f82,TW)) .leaf .leaf) (.node none (.node (some (Tryz.f178,sf)) .leaf .leaf) (.node (some (Tryz.f242,yD)) .leaf .leaf)))) (.node (some (Tryz.f26,TJ)) (.node none (.node none (.node (some (Tryz.f138,Se)) .leaf .leaf) (.node (some (Tryz.f202,si)) .leaf .leaf)) (.node none .leaf (.node (some (Tryz.f234,Ah)) .leaf .leaf))) (.node none (.node (some (Tryz.f90,jQ)) (.node (some (Tryz.f154,gG)) .leaf .leaf) .leaf) (.node none (.node (some (Tryz.f186,Sw)) .leaf .leaf) .leaf)))) (.node none (.node (some (Tryz.f22,EB)) (.node none (.node (some (Tryz.f70,TS)) (.node (some (Tryz.f134,Sb)) .leaf .leaf) (.node (some (Tryz.f198,jy)) .leaf .leaf)) (.node none (.node (some (Tryz.f166,Ae)) .leaf .leaf) (.node (some (Tryz.f230,Ec)) .leaf .leaf))) (.node (some (Tryz.f54,EC)) .leaf (.node (some (Tryz.f118,qK)) (.node (some (Tryz.f182,Ss)) .leaf .leaf) (.node (some (Tryz.f246,uS)) .leaf .leaf)))) (.node none (.node none (.node none (.node (some (Tryz.f142,Sg)) .leaf .leaf) .leaf) (.node (some (Tryz.f110,tq)) (.node (some (Tryz.f174,Sm)) .leaf .leaf) (.node (some (Tryz.f238,Eh)) .leaf .leaf))) (.node (some (Tryz.f62,bJ)) (.node (some (Tryz.f94,tJ)) (.node (some (Tryz.f158,Sl)) .leaf .leaf) (.node (some (Tryz.f222,Sz)) .leaf .leaf)) (.node none (.node (some (Tryz.f190,D2)) .leaf .leaf) (.node (some (Tryz.f254,Ek)) .leaf .leaf))))))))
def Iz(p:Nat->Func×Code->Prop):(Nat->Nat)->T (Func×Code)->Prop
 |_,.leaf=>True
 |g,.node v l r=>(∀ a,v=some a->p (g 0) a)/\Iz p (fun i=>g (2*i+1)) l/\Iz p (fun i=>g (2*i+2)) r
theorem KE{p:Nat->Func×Code->Prop}:∀ {t:T (Func×Code)} {g:Nat->Nat},Iz p g t->∀ i a,t.get i=some a->p (g i) a
 | .leaf,_,_,i,a,h=>by cases h
 | .node v l r,g,⟨h1,h2,h3⟩,i,a,h=>by
  rw[T.wk] at h;by_cases h0:i=0
  .subst h0;exact h1 a (by simpa using h)
  .rw[if_neg h0] at h;by_cases C:i % 2=1
   .rw[if_pos C] at h;have:=KE h2 _ a h;have e:2*(i / 2)+1=i:=by omega
    simpa only[e] using this
   .rw[if_neg C] at h;have:=KE h3 _ a h;have e:2*(i / 2 - 1)+2=i:=by omega
    simpa only[e] using this
theorem e0{p:Func×Code->Prop}:∀ a,(none:Option (Func×Code))=some a->p a:=fun _ h=>by cases h
theorem e1{i:Nat}{fn:Func}{c:Code}(h:m7 prog i fn c):∀ a,some (fn,c)=some a->m7 prog i a.1 a.2:=fun _ e=>by cases e;exact h
theorem aer:Iz (fun i a=>m7 prog i a.1 a.2) (fun i=>i) EZ:=
 ⟨e0,⟨e0,⟨e0,⟨e0,⟨e0,⟨e0,⟨e0,⟨e0,⟨e1 Vn,trivial,trivial⟩,trivial⟩,⟨e1 U3,trivial,trivial⟩⟩,⟨e1 WW,trivial,⟨e1 aiy,trivial,trivial⟩⟩⟩,⟨e0,⟨e0,⟨e1 aii,trivial,trivial⟩,trivial⟩,⟨e0,⟨e1 VE,trivial,trivial⟩,⟨e1 Mh,trivial,trivial⟩⟩⟩⟩,⟨e1 als,⟨e1 Xc,⟨e1 alD,⟨e1 aic,trivial,trivial⟩,⟨e1 UT,trivial,trivial⟩⟩,⟨e0,trivial,⟨e1 LY,trivial,trivial⟩⟩⟩,⟨e0,⟨e1 alI,⟨e1 UQ,trivial,trivial⟩,trivial⟩,⟨e1 Ut,⟨e1 ais,trivial,trivial⟩,⟨e1 UJ,trivial,trivial⟩⟩⟩⟩⟩,⟨e0,⟨e0,⟨e0,⟨e0,⟨e1 UL,trivial,trivial⟩,⟨e1 VB,trivial,trivial⟩⟩,⟨e0,trivial,⟨e1 UN,trivial,trivial⟩⟩⟩,⟨e1 MZ,⟨e1 alH,trivial,trivial⟩,⟨e1 U7,⟨e1 aio,trivial,trivial⟩,⟨e1 Uy,trivial,trivial⟩⟩⟩⟩,⟨e0,⟨e0,⟨e0,⟨e1 VD,trivial,trivial⟩,trivial⟩,⟨e0,trivial,⟨e1 Vg,trivial,trivial⟩⟩⟩,⟨e0,⟨e0,⟨e1 US,trivial,trivial⟩,trivial⟩,⟨e0,⟨e1 aiv,trivial,trivial⟩,⟨e1 aiD,trivial,trivial⟩⟩⟩⟩⟩⟩,⟨e0,⟨e0,⟨e1 alr,⟨e1 alw,⟨e1 alA,⟨e1 UG,⟨e1 Vl,trivial,trivial⟩,trivial⟩,⟨e1 U1,trivial,trivial⟩⟩,⟨e1 WN,trivial,⟨e1 aiA,trivial,trivial⟩⟩⟩,⟨e0,trivial,⟨e0,⟨e1 ain,trivial,trivial⟩,⟨e1 aiC,trivial,trivial⟩⟩⟩⟩,⟨e0,⟨e1 aly,⟨e1 alF,⟨e1 VH,trivial,trivial⟩,⟨e1 UR,trivial,trivial⟩⟩,⟨e1 VF,trivial,⟨e1 Mf,trivial,trivial⟩⟩⟩,⟨e0,⟨e1 WJ,⟨e1 U5,trivial,trivial⟩,trivial⟩,⟨e0,⟨e1 ait,trivial,trivial⟩,trivial⟩⟩⟩⟩,⟨e0,⟨e0,⟨e0,⟨e1 WZ,⟨e1 aia,trivial,trivial⟩,⟨e1 UW,trivial,trivial⟩⟩,⟨e0,trivial,⟨e1 UX,trivial,trivial⟩⟩⟩,⟨e1 MG,⟨e1 W4,⟨e1 Ve,trivial,trivial⟩,trivial⟩,⟨e1 UC,⟨e1 aiq,trivial,trivial⟩,⟨e1 Uz,trivial,trivial⟩⟩⟩⟩,⟨e0,⟨e0,⟨e0,⟨e1 aif,trivial,trivial⟩,trivial⟩,⟨e0,trivial,⟨e1 Vc,trivial,trivial⟩⟩⟩,⟨e1 W7,⟨e1 alJ,trivial,trivial⟩,⟨e0,⟨e1 Vp,trivial,trivial⟩,⟨e1 Vf,trivial,trivial⟩⟩⟩⟩⟩⟩⟩,⟨e0,⟨e0,⟨e0,⟨e0,⟨e0,⟨e1 Nc,⟨e0,⟨e1 Vb,trivial,trivial⟩,trivial⟩,⟨e1 Ur,trivial,trivial⟩⟩,⟨e1 WO,trivial,⟨e1 aiz,trivial,trivial⟩⟩⟩,⟨e0,⟨e0,⟨e1 aij,trivial,trivial⟩,trivial⟩,⟨e0,⟨e1 U9,trivial,trivial⟩,⟨e1 Vr,trivial,trivial⟩⟩⟩⟩,⟨e0,⟨e0,⟨e1 alE,⟨e1 aid,trivial,trivial⟩,⟨e1 Uw,trivial,trivial⟩⟩,⟨e0,⟨e1 Va,trivial,trivial⟩,⟨e1 UY,trivial,trivial⟩⟩⟩,⟨e0,⟨e0,⟨e1 aik,trivial,trivial⟩,trivial⟩,⟨e0,⟨e1 UO,trivial,trivial⟩,trivial⟩⟩⟩⟩,⟨e0,⟨e1 Ih,⟨e1 alx,⟨e0,⟨e1 ah',⟨e1 LZ,trivial,trivial⟩,trivial⟩,⟨e1 Vs,trivial,trivial⟩⟩,⟨e1 ah9,trivial,⟨e1 Uq,trivial,trivial⟩⟩⟩,⟨e1 V8,⟨e1 W0,trivial,trivial⟩,⟨e1 Vd,⟨e1 aip,trivial,trivial⟩,⟨e1 VC,trivial,trivial⟩⟩⟩⟩,⟨e1 alv,⟨e0,⟨e0,⟨e1 VG,trivial,trivial⟩,trivial⟩,⟨e0,trivial,⟨e1 Mi,trivial,trivial⟩⟩⟩,⟨e1 Xe,⟨e0,⟨e1 UA,trivial,trivial⟩,trivial⟩,⟨e0,⟨e1 aiw,trivial,trivial⟩,⟨e1 LX,trivial,trivial⟩⟩⟩⟩⟩⟩,⟨e0,⟨e0,⟨e1 MH,⟨e0,⟨e1 alB,⟨e1 L1,⟨e1 UI,trivial,trivial⟩,trivial⟩,⟨e1 U0,trivial,trivial⟩⟩,⟨e0,trivial,⟨e1 aiB,trivial,trivial⟩⟩⟩,⟨e1 alz,⟨e1 alG,trivial,trivial⟩,⟨e0,⟨e1 UP,trivial,trivial⟩,⟨e1 Ux,trivial,trivial⟩⟩⟩⟩,⟨e1 alu,⟨e0,⟨e0,⟨e1 aie,trivial,trivial⟩,⟨e1 UB,trivial,trivial⟩⟩,⟨e0,trivial,⟨e1 Mg,trivial,trivial⟩⟩⟩,⟨e0,⟨e1 Cy,⟨e1 U4,trivial,trivial⟩,trivial⟩,⟨e0,⟨e1 aiu,trivial,trivial⟩,trivial⟩⟩⟩⟩,⟨e0,⟨e1 Xt,⟨e0,⟨e1 alC,⟨e1 aib,trivial,trivial⟩,⟨e1 UU,trivial,trivial⟩⟩,⟨e0,⟨e1 Vo,trivial,trivial⟩,⟨e1 U2,trivial,trivial⟩⟩⟩,⟨e1 WY,trivial,⟨e1 L2,⟨e1 air,trivial,trivial⟩,⟨e1 UH,trivial,trivial⟩⟩⟩⟩,⟨e0,⟨e0,⟨e0,⟨e1 aih,trivial,trivial⟩,trivial⟩,⟨e1 Me,⟨e1 aim,trivial,trivial⟩,⟨e1 Vm,trivial,trivial⟩⟩⟩,⟨e1 Wp,⟨e1 Xd,⟨e1 ail,trivial,trivial⟩,⟨e1 aix,trivial,trivial⟩⟩,⟨e0,⟨e1 UZ,trivial,trivial⟩,⟨e1 Us,trivial,trivial⟩⟩⟩⟩⟩⟩⟩⟩
theorem Lj(f:FuncId)(fn:Func)(c:Code)(h:EZ.get f=some (fn,c)):m7 prog f fn c:=KE aer f (fn,c) h
end Go.Proofs.Tryz.K
namespace Go.Abs
open Go.ChangeShapes Go.WideShapes
inductive Sh
 |int (k:IntKind)
 |bool
 |str
 |sl (s:Sh)
 |unit
 |pair (a b:Sh)
def Sh.val:Sh->Type
 | .int _=>Int
 | .bool=>Bool
 | .str=>ByteArray
 | .sl s=>List s.val
 | .unit=>Unit
 | .pair a b=>a.val×b.val
def Sh.size:Sh->Nat
 | .unit=>0
 | .pair a b=>a.size+b.size
 |_=>1
def Sh.enc:(s:Sh)->s.val->List D
 | .int k,n=>[.s (.int k n)]
 | .bool,b=>[.s (.bool b)]
 | .str,b=>[.s (.string b)]
 | .sl s,l=>[.sl (List.flatMap s.enc l) (List.length l)]
 | .unit,_=>[]
 | .pair a b,x=>a.enc x.1++b.enc x.2
def Sh.arg:(s:Sh)->s.val->D
 | .int k,n=>.s (.int k n)
 | .bool,b=>.s (.bool b)
 | .str,b=>.s (.string b)
 | .sl s,l=>.sl (List.flatMap s.enc l) (List.length l)
 | .unit,_=>.agg []
 | .pair a b,x=>.agg (a.enc x.1++b.enc x.2)
def Sh.ok:(s:Sh)->s.val->Prop
 | .int k,n=>(Lit.int k n).wf=true
 | .bool,_=>True
 | .str,b=>ByteArray.size b<=maxLen
 | .sl s,l=>∀ x:s.val,List.Mem x l->s.ok x
 | .unit,_=>True
 | .pair a b,x=>a.ok x.1/\b.ok x.2
theorem Sh.enc_length:∀ (s:Sh) (x:s.val),(s.enc x).length=s.size
 | .int _,_ | .bool,_ | .str,_ | .sl _,_ | .unit,_=>rfl
 | .pair a b,x=>by simp[Sh.enc,Sh.size,Sh.enc_length a,Sh.enc_length b]
section
variable(P:Program)
def shFs(C:TypeId->Option Sh):Nat->List Field->Option Sh
 |_,[]=>some .unit
 |off,f::fs=>if f.offset=off then match C f.type,shFs C (off+P.cellsOf f.type) fs with
  |some a,some b=>some (.pair a b)
  |_,_=>none
  else none
def shT:Nat->TypeId->Option Sh
 |0,_=>none
 |n+1,t=>match P.underlying t with
  |some .bool=>if P.cellsOf t=1 then some .bool else none
  |some (.int k)=>if P.cellsOf t=1 then some (.int k) else none
  |some .string=>if P.cellsOf t=1 then some .str else none
  |some (.slice e)=>if P.cellsOf t=1/\0<P.cellsOf e then(shT n e).map .sl else none
  |some (.struct fs)=>match shFs P (shT n) 0 fs.toList with
   |some s=>if s.size=P.cellsOf t then some s else none
   |none=>none
  |_=>none
end
section
variable{P:Program}{H:Type}{ec:TypeId×Value->H}{w:World}{base:Nat}{spare:Nat->Bool}{held:Bool}
def Holds(w:World)(ds:List D)(cs:List Value):Prop:=ds.length=cs.length/\∀ (k:Nat) (d:D) (u:Value),ds[k]? =some d->cs[k]? =some u->R (fun _=>False) noRows w d u/\u.oneCell'=true
theorem Holds.app{ds J:List D}{cs cs':List Value}(h:Holds w ds cs)(h':Holds w J cs'):Holds w (ds++J) (cs++cs'):=by
 refine⟨by simp[h.1,h'.1],fun k d u hd C=>?_⟩;by_cases hk:k<ds.length
 .rw[List.getElem?_append_left hk] at hd;rw[List.getElem?_append_left (by have:=h.1;omega)] at C;exact h.2 k d u hd C
 .rw[List.getElem?_append_right oG] at hd;rw[List.getElem?_append_right (by have:=h.1;omega), <- h.1] at C;exact h'.2 (k - ds.length) d u hd C
theorem Holds.one{d:D}{u:Value}(h:R (fun _=>False) noRows w d u)(h':u.oneCell'=true):Holds w [d] [u]:=⟨rfl,fun k d' J hd C=>by
 cases k with
 |zero=>simp at hd C;subst hd C;exact⟨h,h'⟩
 |succ k=>simp at hd⟩
theorem Holds.nil:Holds w [] []:=⟨rfl,oS⟩
theorem shFs_nil{C:TypeId->Option Sh}{off:Nat}{s:Sh}(h:shFs P C off []=some s):s=.unit:=by
 simp only[shFs,aV] at h;exact h.symm
theorem shFs_cons{C:TypeId->Option Sh}{off:Nat}{f:Field}{fs:List Field}{s:Sh}(h:shFs P C off (f::fs)=some s):
 f.offset=off/\∃ a b,C f.type=some a/\shFs P C (off+P.cellsOf f.type) fs=some b/\s=.pair a b:=by
 simp only[shFs] at h;split at h
 .rename_i J;split at h
  .rename_i a b ha hb;simp only[aV] at h;exact⟨J,a,b,ha,hb,h.symm⟩
  .cases h
 .cases h
theorem shT_size:∀ (n:Nat) (t:TypeId) (s:Sh),shT P n t=some s->s.size=P.cellsOf t
 |0,_,_,h=>by cases h
 |n+1,t,s,h=>by
  unfold shT at h;split at h
  .split at h
   .rename_i h1;simp only[aV] at h;subst h;exact h1.symm
   .cases h
  .split at h
   .rename_i h1;simp only[aV] at h;subst h;exact h1.symm
   .cases h
  .split at h
   .rename_i h1;simp only[aV] at h;subst h;exact h1.symm
   .cases h
  .split at h
   .rename_i h1;simp only[dw] at h;obtain⟨a,_,rfl⟩:=h;exact h1.1.symm
   .cases h
  .split at h
   .split at h
    .rename_i h1;simp only[aV] at h;subst h;exact h1
    .cases h
   .cases h
  .cases h
def Reads(P:Program)(w:World)(C:TypeId->Option Sh)(rd:TypeId->List Value->Option (DataW H×List MemPlace)):Prop:=
 ∀ t s cs x,C t=some s->cs.length=P.cellsOf t->rd t cs=some x->∃ v:s.val,s.ok v/\Holds w (s.enc v) cs
theorem reads_fs{J:TypeId->Option Sh}{rd:TypeId->List Value->Option (DataW H×List MemPlace)}(M:∀ t s,J t=some s->s.size=P.cellsOf t)(h:Reads P w J rd){cs:List Value}:∀ (fs:List Field) (off:Nat) (s:Sh),shFs P J off fs=some s->off+s.size<=cs.length->
 (∀ f∈fs,∃ x,rd f.type ((cs.drop f.offset).take (P.cellsOf f.type))=some x)->∃ v:s.val,s.ok v/\Holds w (s.enc v) ((cs.drop off).take s.size)
 |[],off,s,hs,_,_=>by
  obtain rfl:=shFs_nil hs;exact⟨(),trivial,by simp[Sh.enc,Sh.size,Holds]⟩
 |f::fs,off,s,hs,hl,hr=>by
  obtain⟨o4,a,b,ha,hb,rfl⟩:=shFs_cons hs;obtain⟨x,hx⟩:=hr f oS;have jW:off+(a.size+b.size)<=cs.length:=hl;have cE:=M _ _ ha;rw[o4] at hx;obtain⟨v,Gj,hv⟩:=h f.type a _ x ha (by simp only[List.length_take,List.length_drop];omega) hx;rw[<- cE] at hb hv;obtain⟨X,C,Np⟩:=reads_fs M h fs (off+a.size) b hb oG fun g hg=>hr g (by simp[hg]);refine⟨(v,X),⟨Gj,C⟩,?_⟩;have:=hv.app Np;show Holds w (a.enc v++b.enc X) ((cs.drop off).take (a.size+b.size));rw[List.take_add,List.drop_drop];exact this
theorem cells_get{a:Addr}{n:Nat}{cs:List Value}(h:w.cells? base a n=some cs):cs.length=n/\∀ k,k<n->w.cell? (a.add k)=cs[k]? /\k<cs.length:=by
 unfold World.cells? at h;split at h
 .have hl:cs.length=n:=by simpa using mapM_some_length h
  exact⟨hl,fun k hk=>⟨mapM_some_get h k k (by simp[hk]),oG⟩⟩
 .cases h
theorem choose_list{α β:Type}{p:Nat->α->β->Prop}:∀ (n:Nat) (l:Nat->α),(∀ i,i<n->∃ y,p i (l i) y)->∃ ys:List β,ys.length=n/\∀ i (h:i<n) y,ys[i]? =some y->p i (l i) y
 |0,_,_=>⟨[],rfl,fun i h=>by omega⟩
 |n+1,l,h=>by
  obtain⟨ys,h1,h2⟩:=choose_list n l fun i hi=>h i oG;obtain⟨y,hy⟩:=h n oG;refine⟨ys++[y],by simp[h1],fun i hi z C=>?_⟩;by_cases J:i<n
  .rw[List.getElem?_append_left oG] at C;exact h2 i J z C
  .have:i=n:=by omega
   subst this;rw[List.getElem?_append_right oG] at C;simp[h1] at C;subst C;exact hy
theorem flat_get{α:Type}{f:α->List D}{sz:Nat}(hs:∀ x,(f x).length=sz):∀ (l:List α) (i j:Nat),j<sz->(l.flatMap f)[i*sz+j]? =(l[i]?).bind fun x=>(f x)[j]?
 |[],i,j,_=>by simp
 |x::l,0,j,h=>by simp[List.getElem?_append_left (show j<(f x).length by rw[hs];exact h)]
 |x::l,i+1,j,h=>by
  rw[List.flatMap_cons,List.getElem?_append_right (by rw[hs,Nat.add_mul];omega)];have:(i+1)*sz+j - (f x).length=i*sz+j:=by rw[hs,Nat.add_mul];omega
  rw[this,flat_get hs l i j h];simp
theorem reads_T:∀ (jC n:Nat),Reads P w (shT P n) (DataW.trod ec P w base spare held jC)
 |jC,0,t,s,cs,x,h,_,_=>by cases h
 |jC,n+1,t,s,cs,x,h,hl,hr=>by
  have cE:=shT_size _ _ _ h;unfold shT at h;split at h
  .rename_i ht;split at h
   .simp only[aV] at h;subst h;obtain⟨b,rfl,_⟩:=DataW.trod_bool ht hr;exact⟨b,trivial,.one (.s _ rfl) rfl⟩
   .cases h
  .rename_i k ht;split at h
   .simp only[aV] at h;subst h;obtain⟨b,rfl,_,hw⟩:=DataW.trod_int ht hr;exact⟨b,hw,.one (.s _ rfl) rfl⟩
   .cases h
  .rename_i ht;split at h
   .simp only[aV] at h;subst h;obtain⟨b,rfl,_,hw⟩:=DataW.trod_string ht hr;exact⟨b,hw,.one (.s _ rfl) rfl⟩
   .cases h
  .rename_i e ht;split at h
   .rename_i hc;simp only[dw] at h;obtain⟨a,ha,rfl⟩:=h;have haz:=shT_size _ _ _ ha;rcases DataW.trod_slice ht hr with⟨rfl,_⟩|⟨M,len,cap,VM,rest,X,rfl,rfl,_,hb,hlc,hm,hlen,FZ,_,_⟩
    .exact⟨([]:List a.val),(fun x h=>nomatch h),.one (by exact .sln none 0) rfl⟩
    .have XA:∀ i,i<len->∃ C:List Value,w.cells? base (M.add (i*P.cellsOf e)) (P.cellsOf e)=some C/\∃ y,DataW.trod ec P w base spare held X e C=some y:=fun i hi=>by
      have:=FZ i hi;have hg:VM[i]? =some VM[i]:=by simp[hlen,hi]
      rw[hg,Option.bind_eq_some_iff] at this;obtain⟨C,h1,h2⟩:=this;exact⟨C,h1,_,h2⟩
     have Fi:∀ i,i<len->∃ v:a.val,a.ok v/\∃ C,w.cells? base (M.add (i*P.cellsOf e)) (P.cellsOf e)=some C/\Holds w (a.enc v) C:=fun i hi=>by
      obtain⟨C,h1,y,h2⟩:=XA i hi;obtain⟨v,Gj,hv⟩:=reads_T X n e a C y ha (cells_get h1).1 h2;exact⟨v,Gj,C,h1,hv⟩
     obtain⟨vs,vK,YV⟩:=choose_list (p:=fun(i:Nat) (_:Nat) (v:a.val)=>a.ok v/\∃ C,w.cells? base (M.add (i*P.cellsOf e)) (P.cellsOf e)=some C/\Holds w (a.enc v) C) len (fun i=>i) Fi
     have alQ:∀ x:a.val,x∈vs->a.ok x:=fun x hm=>by
      obtain⟨i,hx⟩:=cC hm;exact(YV i (by have:=(bw.1 hx).1;omega) x hx).1
     cases len with
     |zero=>
      have:vs=[]:=List.length_eq_zero_iff.1 vK;subst this;exact⟨([]:List a.val),(fun x h=>nomatch h),.one (by exact .sln _ cap) rfl⟩
     |succ l=>
      obtain⟨C,h0,_⟩:=XA 0 oG;have vQ:=(cells_get h0).2 0 hc.2;simp only[Nat.zero_mul,Addr.add,if_true] at vQ;obtain⟨b,o,sp⟩:=M;have HM:∃ u,w.cell? ⟨b,o,sp⟩=some u:=⟨C[0],by rw[vQ.1];simp[vQ.2]⟩
      obtain⟨u0,J⟩:=HM;unfold World.cell? at J
      have kV:b<w.heap.size:=by
       cases hh:w.heap[b]? with
       |none=>rw[hh] at J;cases J
       |some x=>exact(Array.getElem?_eq_some_iff.1 hh).1
      have rV:sp=none:=by
       cases sp with
       |none=>rfl
       |some q=>
        simp only at J;split at J
        .simp at J
        .cases J
      subst rV
      have alR:∀ i j,((⟨b,o,none⟩:Addr).add i).add j=⟨b,o+(i+j),none⟩:=fun i j=>by
       unfold Addr.add;split<;>split<;>simp_all;omega
      have hk:∀ k d,(vs.flatMap a.enc)[k]? =some d->∃ u,w.cell? ⟨b,o+k,none⟩=some u/\R (fun _=>False) noRows w d u/\u.oneCell'=true:=fun k d hd=>by
       have iL:0<a.size:=by omega
       have Fu:k / a.size*a.size+k % a.size=k:=by rw[Nat.mul_comm];exact Nat.div_add_mod k a.size
       have OQ:=Nat.mod_lt k iL;rw[<- Fu,flat_get a.enc_length _ _ _ OQ,Option.bind_eq_some_iff] at hd;obtain⟨x,hx,hd⟩:=hd
       have hi:k / a.size<l+1:=by
        have:=(bw.1 hx).1;omega
       obtain⟨_,C,lM,hho⟩:=YV _ hi x hx;obtain⟨h1,h2⟩:=(cells_get lM).2 (k % a.size) oG;rw[alR, <- haz,Fu] at h1;refine⟨C[k % a.size],by rw[h1];simp[h2],hho.2 _ d _ hd (by simp[h2])⟩
      refine⟨vs,fun x h=>alQ x h,.one (by
       have rJ:(List.length vs)=l+1:=vK;show R _ _ _ (.sl (List.flatMap a.enc vs) (List.length vs)) _;rw[rJ];refine .sl _ _ b o cap (fun k=>(w.cell? ⟨b,o+k,none⟩).getD undef) oS (fun _ _ h=>by cases h) kV hlc hm (fun k rC=>?_) fun k d hd=>?_
       .obtain⟨u,h1,_,h3⟩:=hk k _ (aM rC);simp[h1,h3]
       .obtain⟨u,h1,h2,_⟩:=hk k d hd
        simpa[h1] using h2) rfl⟩
   .cases h
  .rename_i fs ht;obtain⟨xs,X,rfl,_,_,sT,vL⟩:=DataW.trod_struct ht hr;split at h
   .rename_i s' eZ;split at h
    .rename_i hs;simp only[aV] at h;subst h
     obtain⟨v,Gj,hv⟩:=reads_fs (P:=P) (w:=w) (fun t s=>shT_size n t s) (reads_T X n) (cs:=cs) fs.toList 0 s' eZ oG fun f hf=>by
      obtain⟨i,hi,rfl⟩:=Array.getElem_of_mem (Array.mem_toList_iff.1 hf);have:=vL i fs[i] (by simp[hi]);exact⟨xs[i],by rw[this];simp[sT,hi]⟩
     refine⟨v,Gj,?_⟩;rw[List.drop_zero,df oG] at hv;exact hv
    .cases h
   .cases h
  .cases h
theorem arg_R{r:Reach}{b0:Nat}{t:TypeId}{v:Value}{d:DataW H}{ps:List MemPlace}{n:Nat}{s:Sh}(hs:shT P n t=some s)(hv:Value.okWide P w r b0 t v)(hd:DataW.Trod ec P w base spare held t v d ps):
 ∃ x:s.val,s.ok x/\R (fun _=>False) noRows w (s.arg x) v:=by
 cases n with
 |zero=>cases hs
 |succ n=>
  obtain⟨jC,hf⟩:=hd;have hz:=shT_size _ _ _ hs;have key:v.cells.toList.length=P.cellsOf t->∃ x:s.val,s.ok x/\Holds w (s.enc x) v.cells.toList:=fun hl=>reads_T jC (n+1) t s _ _ hs hl hf;unfold shT at hs;split at hs
  .rename_i ht;obtain⟨b,rfl⟩:=okWide_bool ht hv;split at hs
   .simp only[aV] at hs;subst hs;exact⟨b,trivial,.s _ rfl⟩
   .cases hs
  .rename_i k ht;obtain⟨b,rfl⟩:=okWide_int ht hv;split at hs
   .simp only[aV] at hs;subst hs;obtain⟨c,hc,_,J⟩:=DataW.trod_int ht hf;simp[Value.cells] at hc;subst hc;exact⟨b,J,.s _ rfl⟩
   .cases hs
  .rename_i ht;obtain⟨b,rfl⟩:=okWide_string ht hv;split at hs
   .simp only[aV] at hs;subst hs;obtain⟨c,hc,_,J⟩:=DataW.trod_string ht hf;simp[Value.cells] at hc;subst hc;exact⟨b,J,.s _ rfl⟩
   .cases hs
  .rename_i e ht;obtain⟨a,len,cap,rfl⟩:=okWide_slice ht hv;split at hs
   .rename_i h1;simp only[dw] at hs;obtain⟨q,_,rfl⟩:=hs;obtain⟨x,M,hx⟩:=key h1.1.symm;exact⟨x,M,(hx.2 0 _ _ rfl rfl).1⟩
   .cases hs
  .rename_i fs ht;obtain⟨cs,rfl,cE⟩:=okWide_struct ht hv;obtain⟨x,M,hx⟩:=key (by simpa[Value.cells] using cE);refine⟨x,M,?_⟩
   have ha:s.arg x=.agg (s.enc x):=by
    split at hs
    .rename_i s' C;split at hs
     .simp only[aV] at hs;subst hs;cases X:fs.toList with
      |nil=>
       rw[X] at C;obtain rfl:=shFs_nil C;rfl
      |cons f Jc=>
       rw[X] at C;obtain⟨_,a,b,_,_,rfl⟩:=shFs_cons C;rfl
     .cases hs
    .cases hs
   rw[ha];have:=hx.1;simp only[Value.cells] at this hx;have e:cs=cs.toList.toArray:=by simp
   rw[e];exact .agg _ cs.toList this.symm fun k d v h1 h2=>(hx.2 k d v h1 h2).1
  .cases hs
theorem flat_one{α β:Type}(f:α->β):∀ l:List α,(l.flatMap fun x=>[f x])=l.map f
 |[]=>rfl
 |x::l=>by rw[List.flatMap_cons,flat_one f l];rfl
theorem flat_congr{α β γ:Type}{f:α->List γ}{g:β->List γ}{h:α->β}(he:∀ x,f x=g (h x)):∀ l:List α,l.flatMap f=(l.map h).flatMap g
 |[]=>rfl
 |x::l=>by rw[List.flatMap_cons,List.map_cons,List.flatMap_cons,he,flat_congr he l]
end
end Go.Abs
namespace Go.Argus
open Go.Abs
abbrev mY:Sh:=.int .i64
abbrev Fk:Sh:=.int .u8
abbrev ET:Sh:=.pair Fk (.pair mY (.pair mY (.pair mY (.pair mY (.pair (.sl mY) .unit)))))
abbrev HE:Sh:=.pair .str (.pair mY .unit)
abbrev H2:Sh:=.pair Fk (.pair mY (.pair mY (.pair mY (.pair mY (.pair .str (.pair ET (.pair (.sl mY) (.pair (.sl HE) (.pair mY .unit)))))))))
abbrev Hu:Sh:=.pair (.sl ET) (.pair H2 .unit)
abbrev An:Sh:=.pair .str (.pair .bool (.pair mY (.pair Fk (.pair (.sl Fk) (.pair (.sl Fk) (.pair (.sl .str) (.pair (.sl Hu) .unit)))))))
def Mp(x:ET.val):bE:=⟨x.1,x.2.1,x.2.2.1,x.2.2.2.1,x.2.2.2.2.1,x.2.2.2.2.2.1⟩
def T7(x:HE.val):kQ:=⟨x.1,x.2.1⟩
def VN(x:H2.val):End:=⟨x.1,x.2.1,x.2.2.1,x.2.2.2.1,x.2.2.2.2.1,x.2.2.2.2.2.1,Mp x.2.2.2.2.2.2.1,x.2.2.2.2.2.2.2.1,List.map T7 x.2.2.2.2.2.2.2.2.1,x.2.2.2.2.2.2.2.2.2.1⟩
def SZ(x:Hu.val):b7:=⟨List.map Mp x.1,VN x.2.1⟩
def T8(x:An.val):aG:=⟨x.1,x.2.1,x.2.2.1,x.2.2.2.1,x.2.2.2.2.1,x.2.2.2.2.2.1,x.2.2.2.2.2.2.1,List.map SZ x.2.2.2.2.2.2.2.1⟩
theorem B5{k:IntKind}(l:List Int):D.sl (List.flatMap (Sh.enc (.int k)) l) l.length=.sl (l.map fun n=>.s (.int k n)) l.length:=congrArg (D.sl · l.length) (flat_one (fun n=>D.s (.int k n)) l)
theorem afn(l:List ByteArray):D.sl (List.flatMap (Sh.enc .str) l) l.length=r7 l:=congrArg (D.sl · l.length) (flat_one S l)
theorem Mq{s:Sh}{β:Type}{g:β->List D}{h:s.val->β}(he:∀ x,s.enc x=g (h x))(l:List s.val):D.sl (List.flatMap s.enc l) l.length=.sl ((l.map h).flatMap g) (l.map h).length:=by
 rw[flat_congr he l,List.length_map]
theorem c1'{α β:Type}(f:α->β){a a':α}(h:a=a'):f a=f a':=by rw[h]
theorem c2'{α β γ:Type}(f:α->β->γ){a a':α}{b C:β}(h:a=a')(h2:b=C):f a b=f a' C:=by rw[h,h2]
theorem YW{α β γ δ:Type}(f:α->β->γ->δ){a a':α}{b C:β}{c J:γ}(h:a=a')(h2:b=C)(h3:c=J):f a b c=f a' C J:=by rw[h,h2,h3]
theorem c4'{α β γ δ ε:Type}(f:α->β->γ->δ->ε){a a':α}{b C:β}{c J:γ}{d d':δ}(h:a=a')(h2:b=C)(h3:c=J)(h4:d=d'):f a b c d=f a' C J d':=by rw[h,h2,h3,h4]
theorem S0(x:ET.val):ET.enc x=bu (Mp x):=
 c1' (fun q=>[U8 x.1,I x.2.1,I x.2.2.1,I x.2.2.2.1,I x.2.2.2.2.1,q]) (B5 (k:=.i64) x.2.2.2.2.2.1)
theorem adh(x:HE.val):HE.enc x=mJ (T7 x):=rfl
theorem aes(x:H2.val):H2.enc x=bh (VN x):=
 YW (fun a b c=>[U8 x.1,I x.2.1,I x.2.2.1,I x.2.2.2.1,I x.2.2.2.2.1,S x.2.2.2.2.2.1]++(a++[b,c,I x.2.2.2.2.2.2.2.2.2.1])) (S0 x.2.2.2.2.2.2.1) (B5 (k:=.i64) x.2.2.2.2.2.2.2.1) (Mq adh x.2.2.2.2.2.2.2.2.1)
theorem abH(x:Hu.val):Hu.enc x=fH (SZ x):=by
 have:=c2' (fun a b=>a::(b++[])) (Mq S0 x.1) (aes x.2.1);refine Eq.trans this ?_;rw[List.append_nil];rfl
theorem acW(x:An.val):An.arg x=.agg (aH (T8 x)):=
 c4' (fun a b c d=>D.agg [S x.1,B x.2.1,I x.2.2.1,U8 x.2.2.2.1,a,b,c,d]) (B5 (k:=.u8) x.2.2.2.2.1) (B5 (k:=.u8) x.2.2.2.2.2.1) (afn x.2.2.2.2.2.2.1) (Mq abH x.2.2.2.2.2.2.2.1)
end Go.Argus
