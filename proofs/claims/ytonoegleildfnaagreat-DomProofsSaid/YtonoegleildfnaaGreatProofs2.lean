/- Part 2. -/
import Derived.Test.YtonoegleildfnaaGreatProofs1
import Derived.IntWalk
import Derived.ProofKit
import Derived.RangeFuncRecord
import Derived.Scope
import Derived.Test.YtonoegleildfnaaGreatChecked
import Derived.Test.YtonoegleildfnaaGreatProg
set_option linter.all false
namespace Go.Abs
section
variable{P:Program}{F:Nat->Prop}
theorem QJ{β β':Pla}{w:World}{m:Mem}(hm:MSim P F m β w){i:Nat}{cs:List D}{e:TypeId}(ax:m i=some (.cells cs e))(hβ:β'=up β i (some .dead)){d:D}{v:Value}(h:R F β w d v):
 R F β' w (fz0 i cs (P.cellsOf e) d) v:=by
 have hs:Step β w β' w:=by rw[hβ];exact step_dead β w i
 have X:=h.step hs;obtain⟨p,hp,hr⟩:=hm.row i _ ax;unfold fz0;split
 .rename_i j off n;split
  .rename_i dm;subst dm;cases h with
   |rsd _ _ _ _ h1 _=>
    rw[h1] at hp;cases hp;cases hr
   |rsn _ a h1=>
    rw[h1] at hp;cases hp;cases hr;simp only[List.drop_nil,List.take_nil];exact .sln a 0
   |rsz _ _ a b o len room sz h1=>
    simp only[Nat.zero_mul,List.take_zero];exact .sln a 0
   |rs _ _ _ cap b o len room sz h1 hn fV h2 h3=>
    rw[h1] at hp;cases hp;have J:β j=some (.cells b o len room sz):=h1;obtain⟨dK,hl,cE,_⟩:=hr.rd;have M:=(dK.drop off).take (n*P.cellsOf e);obtain⟨us,u1,u2⟩:=M;refine .sl _ n b (o+off) cap us (hm.nf j _ b J rfl) ?_ (hm.lt j _ b J rfl) hn fV u1 fun k d hk=>(u2 k d hk).step hs;rw[hβ];intro k q hq;by_cases C:k=j
    .subst C;rw[up_same] at hq;cases hq;simp[Pl.blk]
    .rw[up_ne _ _ C] at hq;exact hm.free_other J rfl hq C
  .exact X
 .rename_i j off;split
  .rename_i dm;subst dm;cases h with
   |rpd _ _ _ h1 _=>
    rw[h1] at hp;cases hp;cases hr
   |rp _ _ b o len room sz h1=>
    rw[h1] at hp;cases hp;obtain⟨dK,hl,cE,_⟩:=hr.rd;obtain⟨us,u1,u2⟩:=dK.drop off;refine .pt _ b (o+off) us (hm.nf j _ b h1 rfl) ?_ (hm.lt j _ b h1 rfl) u1 fun k d hk=>(u2 k d hk).step hs;rw[hβ];intro k q hq;by_cases C:k=j
    .subst C;rw[up_same] at hq;cases hq;simp[Pl.blk]
    .rw[up_ne _ _ C] at hq;exact hm.free_other h1 rfl hq C
  .exact X
 .exact X
theorem abQ{β β':Pla}{w:World}{m:Mem}(hm:MSim P F m β w){i:Nat}{es:List (Value×D)}(ax:m i=some (.map es))(M:β'=up β i (some .dead)){d:D}{v:Value}(h:R F β w d v):R F β' w (fm0 i es d) v:=by
 have hs:Step β w β' w:=by rw[M];exact step_dead β w i
 unfold fm0;split
 .rename_i j;split
  .rename_i X;subst X;obtain⟨r,ms,clock,h1,rfl,h3,h4,h5,J⟩:=h.mp_inv hm ax;refine .im es r ms clock (hm.nf j _ r h1 rfl) ?_ h3 h4 h5 (fun k x m hx hm=>(J k x m hx hm).1) fun k x m hx hm=>(J k x m hx hm).2.step hs;rw[M];intro k q hq;by_cases C:k=j
   .subst C;rw[up_same] at hq;cases hq;simp[Pl.blk]
   .rw[up_ne _ _ C] at hq;exact hm.free_other h1 rfl hq C
  .exact h.step hs
 .exact h.step hs
section subst
variable{σ:D->D}{β β':Pla}{w:World}
theorem PV(C:∀ {d v},R F β w d v->R F β' w (σ d) v){d:D}{v:Value}(h:R F β w d v):R F β' w (sub1 σ d) v:=by
 unfold sub1;split
 .rename_i ds;obtain⟨vs,rfl,hl,J⟩:=h.agg_inv;refine .agg _ vs (by simpa using hl) fun k d v hd hv=>?_;simp only[List.getElem?_map,dx] at hd;obtain⟨d',M,rfl⟩:=hd;exact C (J k d' v M hv)
 .cases h with
  |opt c d _ h1 h2=>exact .opt _ _ v (fun hc=>C (h1 hc)) h2
 .exact C h
theorem GZ(J:∀ {d v},R F β w d v->R F β' w (σ d) v){d:D}{v:Value}(h:R F β w d v):R F β' w (sub σ d) v:=by
 have map:∀ (ds:List D) (vs:List Value),(∀ (k:Nat) (d:D) (v:Value),ds[k]? =some d->vs[k]? =some v->R F β w d v)->
  ∀ (k:Nat) (d:D) (v:Value),(ds.map (sub1 σ))[k]? =some d->vs[k]? =some v->R F β' w d v:=fun ds vs C k d v hd hv=>by
  simp only[List.getElem?_map,dx] at hd;obtain⟨d',M,rfl⟩:=hd;exact PV J (C k d' v M hv)
 unfold sub;split
 .rename_i ds;obtain⟨vs,rfl,hl,C⟩:=h.tup_inv;exact .tup _ vs (by simpa using hl) (map ds vs C)
 .rename_i f fs ds;cases h with
  |fn _ _ _ us vs hl jX h1 h2=>exact .fn f _ _ us vs (by simpa using hl) (by simpa using jX) (map fs us h1) (map ds vs h2)
 .exact PV J h
theorem ado(X:∀ {d v},R F β w d v->R F β' w (σ d) v)(hs:Step β w β' w){r:Row}{p:Pl}(h:RowR P F β w r p):RowR P F β' w (r.sub σ) p:=by
 cases h with
 |nil C=>exact .nil C
 |cells ds C b o room sz c hc hr hlen cE J=>
  have:=RowR.cells (P:=P) (F:=F) (β:=β') (w:=w) (ds.map (Abs.sub σ)) C b o room sz c hc hr (by simpa using hlen) cE fun k d hk=>by
   simp only[List.getElem?_map,dx] at hk;obtain⟨d',pj,rfl⟩:=hk;obtain⟨v,h1,h2,h3⟩:=J k d' pj;exact⟨v,h1,GZ X h2,h3⟩
  simpa[Row.sub] using this
 |map es r ms clock hc hl cR J=>
  refine .map _ r ms clock hc (by simpa using hl) (by simpa[List.map_map,Function.comp_def] using cR) fun k x mm hk M=>?_;simp only[List.getElem?_map,dx] at hk;obtain⟨x',pk,rfl⟩:=hk;obtain⟨h1,h2⟩:=J k x' mm pk M;exact⟨h1,GZ X h2⟩
 |raw r o hc=>exact .raw r o hc
 |ren f r _ F₂ h1 h2 h=>exact(RowR.ren f r p F₂ h1 h2 h).step hs fun _ _=>rfl
end subst
theorem Pk{σ:D->D}{env:Env}{m:Mem}{nx i:Nat}{row:Row}(h:m i=some row){w:World}{a:Act}{β:Pla}(hs:fN P F ⟨env,m,nx⟩ β w a)(X:∀ {d v},R F β w d v->R F (up β i (some .dead)) w (σ d) v):
 ∃ β',fN P F ⟨fun t=>sub σ (env t),fun j=>if j=i then none else(m j).map (Row.sub σ),nx⟩ β' w a/\jm nx β w a ⟨fun t=>sub σ (env t),fun j=>if j=i then none else(m j).map (Row.sub σ),nx⟩ β' w a:=by
 have M:=step_dead β w i;have hm:=hs.m;simp only at hm
 have J:∀ j q b,up β i (some .dead) j=some q->q.blk=some b->j≠i/\β j=some q:=fun j q b hq e=>by
  by_cases hj:j=i
  .subst hj;rw[up_same] at hq;cases hq;simp[Pl.blk] at e
  .rw[up_ne _ _ hj] at hq;exact⟨hj,hq⟩
 have hi:∃ p,β i=some p:=by
  obtain⟨p,hp,_⟩:=hm.row i _ h;exact⟨p,hp⟩
 refine⟨up β i (some .dead),⟨fun t=>GZ X (hs.e t),⟨fun j r hj=>?_,fun j k q q' b hq iN e1 e2=>hm.inj j k q q' b (J j q b hq e1).2 (J k q' b iN e2).2 e1 e2,
  fun j q b hq e1=>hm.lt j q b (J j q b hq e1).2 e1,fun j q b hq e1=>hm.nf j q b (J j q b hq e1).2 e1,hm.fb⟩,fun j hj=>?_⟩,⟨M,bF _,fun j hj hn=>?_,rfl,rfl⟩⟩
 .simp only at hj;by_cases C:j=i
  .rw[if_pos C] at hj;cases hj
  .rw[if_neg C] at hj;simp only[dx] at hj;obtain⟨r',js,rfl⟩:=hj;obtain⟨q,hq,ax⟩:=hm.row j r' js;exact⟨q,by rw[up_ne _ _ C];exact hq,ado X M ax⟩
 .have C:j≠i:=fun e1=>by
   subst e1;obtain⟨p,hp⟩:=hi;rw[hs.n j hj] at hp;cases hp
  rw[up_ne _ _ C];exact hs.n j hj
 .have C:j≠i:=fun e1=>by
   subst e1;obtain⟨p,hp⟩:=hi;rw[hn] at hp;cases hp
  rw[up_ne _ _ C];exact hn
theorem abR{β:Pla}{w:World}{cs cs':List D}{e:TypeId}{p:Pl}(hl:cs'.length=cs.length)(M:∀ (k:Nat) (d d':D),cs[k]? =some d->cs'[k]? =some d'->Wk d d')(h:RowR P F β w (.cells cs e) p):RowR P F β w (.cells cs' e) p:=by
 cases h with
 |nil _=>
  have:cs'=[]:=List.length_eq_zero_iff.1 (by simpa using hl);subst this;exact .nil e
 |cells _ _ b o room sz c hc hr hlen cE J=>
  rw[<- hl];refine .cells cs' e b o room sz c hc hr oG cE fun k d' C=>?_;have hk:k<cs.length:=by rw[<- hl];exact(bw.1 C).1
  obtain⟨v,h1,h2,h3⟩:=J k cs[k] (by simp[hk]);exact⟨v,h1,M k cs[k] d' (by simp[hk]) C _ _ _ _ h2,h3⟩
theorem Pm{st st':St}(h:Ghost P st st'){w:World}{a:Act}:∀ {β:Pla},fN P F st β w a->∃ β',fN P F st' β' w a/\jm st.nx β w a st' β' w a:=by
 induction h with
 |refl st=>exact fun {β} hs=>⟨β,hs,jm.refl st β w a⟩
 |trans _ _ X ih₂=>
  intro β hs;obtain⟨β₁,h1,h2⟩:=X hs;obtain⟨β₂,h3,h4⟩:=ih₂ h1;exact⟨β₂,h3,h2.trans h4⟩
 |forget env env' m nx h=>
  intro β hs;refine⟨β,⟨fun t=>?_,hs.m,hs.n⟩,⟨Step.refl β w,bF _,fun _ _ h=>h,rfl,rfl⟩⟩;rcases h t with h1|h1
  .simp only[h1];exact hs.e t
  .simp only[h1];exact .u _
 |drop env m m' nx h=>
  intro β hs;refine⟨β,⟨hs.e,⟨fun i r hi=>?_,hs.m.inj,hs.m.lt,hs.m.nf,hs.m.fb⟩,hs.n⟩,⟨Step.refl β w,bF _,fun _ _ h=>h,rfl,rfl⟩⟩;rcases h i with h1|h1
  .exact hs.m.row i r (h1.symm.trans hi)
  .simp only at hi;rw[h1] at hi;cases hi
 |weak env env' m m' nx h fY=>
  intro β hs;refine⟨β,⟨fun t=>h t _ _ _ _ (hs.e t),⟨fun i r hi=>?_,hs.m.inj,hs.m.lt,hs.m.nf,hs.m.fb⟩,hs.n⟩,⟨Step.refl β w,bF _,fun _ _ h=>h,rfl,rfl⟩⟩;rcases fY i with h1|⟨cs,cs',e,h1,h2,h3,h4⟩
  .exact hs.m.row i r (h1.symm.trans hi)
  .simp only at hi;rw[h2] at hi;cases hi;obtain⟨p,hp,hr⟩:=hs.m.row i _ h1;exact⟨p,hp,abR h3 h4 hr⟩
 |freeze env m nx i cs e h=>
  intro β hs;exact Pk h hs fun hr=>QJ hs.m h rfl hr
 |freezeM env m nx i es h=>
  intro β hs;exact Pk h hs fun hr=>abQ hs.m h rfl hr
 |nilrow env m nx t e h=>
  intro β hs;have hm:=hs.m;have hn:β nx=none:=hs.n nx (bF _);simp only at hm
  have C:∀ j q b,up β nx (some .nil) j=some q->q.blk=some b->j≠nx/\β j=some q:=fun j q b hq e=>by
   by_cases hj:j=nx
   .subst hj;rw[up_same] at hq;cases hq;simp[Pl.blk] at e
   .rw[up_ne _ _ hj] at hq;exact⟨hj,hq⟩
  have J:Step β w (up β nx (some .nil)) w:=by
   refine⟨bF _,fun b _ hf=>⟨rfl,fun j q hq e1=>?_⟩,fun j q hq=>.inl ?_,rfl,rfl⟩
   .exact hf j q (C j q b hq e1).2 e1
   .rw[up_ne _ _ (fun e1=>by rw[e1,hn] at hq;cases hq)];exact hq
  refine⟨up β nx (some .nil),⟨fun u=>?_,⟨fun j r hj=>?_,fun j k q q' b hq iN e1 e2=>hm.inj j k q q' b (C j q b hq e1).2 (C k q' b iN e2).2 e1 e2,
   fun j q b hq e1=>hm.lt j q b (C j q b hq e1).2 e1,fun j q b hq e1=>hm.nf j q b (C j q b hq e1).2 e1,hm.fb⟩,fun j hj=>?_⟩,⟨J,Nat.le_succ _,fun j hj hb=>?_,rfl,rfl⟩⟩
  .by_cases hu:u=t
   .subst hu;have h1:=hs.e u;simp only at h1;rw[h] at h1;obtain⟨x,hx⟩:=h1.z_inv;simp only[up_same,hx];exact .rsn nx x (up_same _ _ _)
   .simp only[up_ne _ _ hu];exact(hs.e u).step J
  .simp only at hj;by_cases M:j=nx
   .subst M;rw[up_same] at hj;cases hj;exact⟨.nil,up_same _ _ _,.nil e⟩
   .rw[up_ne _ _ M] at hj;obtain⟨q,hq,ax⟩:=hm.row j r hj;exact⟨q,by rw[up_ne _ _ M];exact hq,ax.step J fun _ _=>rfl⟩
  .simp only at hj;rw[up_ne _ _ (show j≠nx by omega)];exact hs.n j (by simp only;omega)
  .simp only at hj;rw[up_ne _ _ (show j≠nx by omega)];exact hb
def ln(N:Nat):Code->Bool
 | .region _ ops _=>At N ops
 | .seq a b=>ln N a&&ln N b
 | .cond _ a b=>ln N a&&ln N b
 | .block _ b=>ln N b
 | .loop b=>ln N b
 | .scope b=>ln N b
 | .rangeFunc _ ps a b=>(ps.toList.all fun t=>Nat.blt t N)&&(ln N a&&ln N b)
 |_=>true
theorem Za{Fc:Fence}{n:Nat}{Q:Exit->Act->World->Prop}{c:Code}(J:Nat->Act->World->Prop){j₀:Nat}{a:Act}{w:World}(h₀:J j₀ a w)
 (round:∀ j a w,J j a w->c.wpIn Fc n P (Exit.then (fun a' w'=>∃ j',j'<j/\J j' a' w') Q) a w):(Code.loop c).wpIn Fc n P Q a w:=by
 intro b k cs No hb hr
 have key:∀ j a w,J j a w->
  ∃ e a' w',Q e a' w'/\ArrivesIn (Machine.fenced P Fc) P (lone (b.atR a (.code c::.inLoop c::k)) cs w) b k cs e a' w':=by
  intro j
  induction j using Nat.strongRecOn with
  |_ j ih=>
   intro a w hI;obtain⟨e,M,X,hq,C⟩:=round j a w hI b (.inLoop c::k) cs No hb hr;cases e with
   |normal=>
    obtain⟨j',ao,hI₁⟩:=hq;obtain⟨e₂,a₂,w₂,hq₂,afw⟩:=ih j' ao M X hI₁;exact⟨e₂,a₂,w₂,hq₂,.of_steps (StepsIn.trans C (.one (fenced_calm hb hr rfl) stepR_inLoop)) afw⟩
   |exit id=>exact⟨_,M,X,hq,.pass (x:=.inLoop c) rfl (fun _ _=>.inl oS) C⟩
   |goto l=>exact⟨_,M,X,hq,.pass (x:=.inLoop c) rfl (fun _ _=>.inl oS) C⟩
   |ret=>exact⟨_,M,X,hq,.pass (x:=.inLoop c) rfl (fun _ _=>.inl oS) C⟩
   |panic ch=>exact⟨_,M,X,hq,.pass (x:=.inLoop c) rfl (fun _ _=>.inl oS) C⟩
   |outgrown=>exact⟨_,M,X,hq,.pass (x:=.inLoop c) rfl (fun _ _=>.inl oS) C⟩
 obtain⟨e,a',w',hq,C⟩:=key _ a w h₀;exact⟨e,a',w',hq,.of_steps (.one (fenced_calm hb hr rfl) stepR_loop) C⟩
def mark(b:Nat):Deferred:={ target:=.collected b,args:= #[] }
def Marks(β:Pla)(w:World)(lo:Nat):List Deferred->Nat->Prop
 |[],_=>True
 |d::ds,hi=>∃ b,d=mark b/\lo<=b/\b<hi/\w.heap[b]? =some (.deferred (some []))/\β.free b/\Marks β w lo ds b
theorem Marks.step{β β':Pla}{w w':World}(hs:Step β w β' w'){lo:Nat}:∀ {ds:List Deferred} {hi:Nat},hi<=w.heap.size->Marks β w lo ds hi->Marks β' w' lo ds hi
 |[],_,_,_=>trivial
 |d::ds,hi,hle,⟨b,h1,h2,h3,h4,h5,h6⟩=>by
  obtain⟨C,J⟩:=hs.imm b oG h5;exact⟨b,h1,h2,h3,C.trans h4,J,Marks.step hs oG h6⟩
theorem Marks.mono{β:Pla}{w:World}{lo hi C:Nat}(h:hi<=C):∀ {ds:List Deferred},Marks β w lo ds hi->Marks β w lo ds C
 |[],_=>trivial
 |_::_,⟨b,h1,h2,h3,h4⟩=>⟨b,h1,h2,oG,h4⟩
theorem Marks.append{β:Pla}{w:World}{lo mid:Nat}(J:lo<=mid){C:List Deferred}:∀ {ds:List Deferred} {hi:Nat},mid<=hi->Marks β w mid ds hi->Marks β w lo C mid->Marks β w lo (ds++C) hi
 |[],_,hle,_,h'=>Marks.mono hle h'
 |_::_,_,_,⟨b,h1,h2,h3,h4,h5,h6⟩,h'=>⟨b,h1,oG,h3,h4,h5,Marks.append J h2 h6 h'⟩
structure sR(N:Nat)(β:Pla)(w:World)(a:Act)(st':St)(β':Pla)(w':World)(a':Act):Prop where
 step:Step β w β' w'
 le:N<=st'.nx
 grow:∀ i,i<N->β i=none->β' i=none
 size:a'.tmps.size=a.tmps.size
 defers:∃ ds,a'.defers=ds++a.defers/\Marks β' w' w.heap.size ds w'.heap.size
theorem jm.IG{N:Nat}{β β':Pla}{w w':World}{a a':Act}{st':St}(h:jm N β w a st' β' w' a'):sR N β w a st' β' w' a':=
 ⟨h.step,h.le,h.grow,h.size,[],h.defers,trivial⟩
theorem sR.trans{N:Nat}{β β₁ β₂:Pla}{w M X:World}{a C J:Act}{zp zq:St}(h:sR N β w a zp β₁ M C)(k:sR zp.nx β₁ M C zq β₂ X J):sR N β w a zq β₂ X J:=by
 obtain⟨ds,e1,h1⟩:=h.defers;obtain⟨zo,e2,h2⟩:=k.defers
 exact⟨h.step.trans k.step,Nat.le_trans h.le k.le,fun i hi hn=>k.grow i (Nat.lt_of_lt_of_le hi h.le) (h.grow i hi hn),k.size.trans h.size,zo++ds,by rw[e2,e1,List.append_assoc],
  Marks.append h.step.size k.step.size h2 (h1.step k.step (bF _))⟩
theorem sR.since{N:Nat}{β β₁ β₂:Pla}{w M X:World}{a C J:Act}{zp zq:St}(h:sR N β w a zp β₁ M C)(k:jm zp.nx β₁ M C zq β₂ X J):sR N β w a zq β₂ X J:=h.trans k.IG
def afx(P:Program)(F:Nat->Prop)(N:Nat)(β:Pla)(w:World)(a:Act)(Q:Exit->St->Prop)(e:Exit)(a':Act)(w':World):Prop:=
 ∃ st' β',Q e st'/\fN P F st' β' w' a'/\sR N β w a st' β' w' a'
theorem YCall.base{J:Pla}{C:World}{β:Pla}{w:World}(hs:Step J C β w){l:Nat}{args:List D}{m:Mem}{nx:Nat}{K:D->Mem->Nat->Prop}(h:YCall P F J C l args m nx K):YCall P F β w l args m nx K:=
 fun β' w' us M=>h β' w' us (hs.trans M)
theorem free_other{β:Pla}{i:Nat}{p:Option Pl}{b:Nat}(h:β.free b)(hp:∀ q,p=some q->q.blk≠some b):Pla.free (up β i p) b:=fun j q hq=>by
 by_cases hj:j=i
 .subst hj;rw[up_same] at hq;exact hp q hq
 .rw[up_ne _ _ hj] at hq;exact h j q hq
theorem R.vj{β:Pla}{w:World}{l:Nat}(hF:F l)(o:Obj){d:D}{v:Value}(h:R F β w d v):R F β (w.putObj l o) d v:=
 h.gen oS (fun b _ hb hf=>⟨same_of (World.putObj_heap_other fun e=>hb (e▸hF)),hf,hb⟩) fun _ _ _ h=>.inl h
theorem RowR.vj{β:Pla}{w:World}{l:Nat}(hF:F l)(o:Obj){r:Row}{p:Pl}(hp:∀ b,p.blk=some b->b≠l)(h:RowR P F β w r p):RowR P F β (w.putObj l o) r p:=
 h.gen oS (fun b _ hb hf=>⟨same_of (World.putObj_heap_other fun e=>hb (e▸hF)),hf,hb⟩) (fun _ _ _ h=>.inl h) fun b hb=>World.putObj_heap_other (hp b hb)
theorem MSim.vj{m:Mem}{β:Pla}{w:World}{l:Nat}(hF:F l)(o:Obj)(h:MSim P F m β w):MSim P F m β (w.putObj l o):=
 ⟨fun i r hi=>by
  obtain⟨p,hp,hr⟩:=h.row i r hi
  exact⟨p,hp,hr.vj hF o fun b hb e=>h.nf i p b hp hb (e▸hF)⟩,h.inj,fun i p b hp hb=>by simpa using h.lt i p b hp hb,h.nf,fun b hb=>by simpa using h.fb b hb⟩
theorem fN.vj{st:St}{β:Pla}{w:World}{a:Act}{l:Nat}(hF:F l)(o:Obj)(h:fN P F st β w a):fN P F st β (w.putObj l o) a:=
 ⟨fun t=>(h.e t).vj hF o,h.m.vj hF o,h.n⟩
theorem R.weak{F':Nat->Prop}(hF:∀ b,F' b->F b){β:Pla}{w:World}{d:D}{v:Value}(h:R F β w d v):R F' β w d v:=
 h.gen (bF _) (fun b _ hb hf=>⟨SameB.refl w b,hf,fun e=>hb (hF b e)⟩) fun _ _ _ h=>.inl h
theorem MSim.weak{F':Nat->Prop}(hF:∀ b,F' b->F b){m:Mem}{β:Pla}{w:World}(h:MSim P F m β w):MSim P F' m β w:=
 ⟨fun i r hi=>by
  obtain⟨p,hp,hr⟩:=h.row i r hi
  exact⟨p,hp,hr.gen (bF _) (fun b _ hb hf=>⟨SameB.refl w b,hf,fun e=>hb (hF b e)⟩) (fun _ _ _ h=>.inl h) fun _ _=>rfl⟩,h.inj,h.lt,fun i p b hp hb e=>h.nf i p b hp hb (hF b e),fun b hb=>h.fb b (hF b hb)⟩
theorem QK{β:Pla}{b:Nat}(h:¬ β.free b):∃ i p,β i=some p/\p.blk=some b:=by
 unfold Pla.free at h;simp only[Classical.not_forall] at h;obtain⟨i,p,hp,hb⟩:=h;exact⟨i,p,hp,Decidable.not_not.1 hb⟩
structure View(il n₀:Nat)(f:Nat->Option Nat)(mc:Mem)(nc:Nat)(m:Mem)(nx:Nat):Prop where
 low:n₀<=nc
 lt:il<nx
 id:∀ i,i<n₀->f i=some i
 vM:∀ i,i<nc->∃ j,f i=some j/\j<nx/\j≠il
 out:∀ i,nc<=i->f i=none
 inj:∀ i i' j,f i=some j->f i'=some j->i=i'
 rows:∀ i r,mc i=some r->∃ j,f i=some j/\m j=some (r.renB f)
theorem View.y7{il n₀:Nat}{f:Nat->Option Nat}{mc:Mem}{nc:Nat}{m:Mem}{nx:Nat}(h:View il n₀ f mc nc m nx){i j:Nat}(hf:f i=some j):i<nc/\j<nx/\j≠il:=by
 rcases Nat.lt_or_ge i nc with ao|C
 .obtain⟨j',h1,h2,h3⟩:=h.vM i ao;rw[hf] at h1;cases h1;exact⟨ao,h2,h3⟩
 .rw[h.out i C] at hf;cases hf
theorem View.ext{il n₀:Nat}{f:Nat->Option Nat}{mc:Mem}{nc:Nat}{m m':Mem}{nx nx':Nat}(h:View il n₀ f mc nc m nx)(C:nx<=nx')(he:∀ i,i<nx->m' i=m i):View il n₀ f mc nc m' nx':=
 ⟨h.low,Nat.lt_of_lt_of_le h.lt C,h.id,fun i hi=>by
  obtain⟨j,h1,h2,h3⟩:=h.vM i hi;exact⟨j,h1,oG,h3⟩,h.out,h.inj,fun i r hi=>by
  obtain⟨j,h1,h2⟩:=h.rows i r hi
  exact⟨j,h1,(he j (h.y7 h1).2.1).trans h2⟩⟩
theorem aau{f:Nat->Option Nat}{m:Mem}{β:Pla}{w:World}(hm:MSim P F m β w){b:Nat}(h:hidden F β f b):b<w.heap.size:=by
 rcases h with h|⟨h,_⟩
 .exact hm.fb b h
 .obtain⟨i,p,hp,hb⟩:=QK h;exact hm.lt i p b hp hb
theorem View.enter{il n₀:Nat}{f:Nat->Option Nat}{mc:Mem}{nc:Nat}{m:Mem}{nx:Nat}(h:View il n₀ f mc nc m nx){β:Pla}{w:World}(hm:MSim P F m β w):
 MSim P (hidden F β f) mc (β.via f) w/\∀ i,nc<=i->(β.via f) i=none:=by
 have look:∀ i p,(β.via f) i=some p->∃ j,f i=some j/\β j=some p:=fun i p hp=>Option.bind_eq_some_iff.1 hp;refine⟨⟨fun i r hi=>?_,fun i i' p q b hp hq e C=>?_,fun i p b hp e=>?_,fun i p b hp e hF=>?_,fun b hb=>aau hm hb⟩,fun i hi=>?_⟩
 .obtain⟨j,h1,h2⟩:=h.rows i r hi;obtain⟨p,hp,hr⟩:=hm.row j _ h2;exact⟨p,by simp[Pla.via,h1,hp],hr.seen⟩
 .obtain⟨j,h1,h2⟩:=look i p hp;obtain⟨j',h3,h4⟩:=look i' q hq;have:=hm.inj j j' p q b h2 h4 e C;subst this;exact h.inj i i' j h1 h3
 .obtain⟨j,h1,h2⟩:=look i p hp;exact hm.lt j p b h2 e
 .obtain⟨j,h1,h2⟩:=look i p hp;rcases hF with hF|⟨_,hF⟩
  .exact hm.nf j p b h2 e hF
  .exact hF i p hp e
 .simp[Pla.via,h.out i hi]
theorem MSim.B'{m:Mem}{β:Pla}{w:World}{i l:Nat}{o:Obj}(h:MSim P F m β w)(hm:m i=some (.raw l o)):β i=some (.raw l)/\w.heap[l]? =some o/\¬ F l/\l<w.heap.size:=by
 obtain⟨p,hp,hr⟩:=h.row i _ hm;cases hr with
 |raw _ _ hc=>exact⟨hp,hc,h.nf i _ l hp rfl,h.lt i _ l hp rfl⟩
theorem View.Hh{il n₀:Nat}{f:Nat->Option Nat}{mc:Mem}{nc:Nat}{m:Mem}{nx:Nat}(h:View il n₀ f mc nc m nx){β:Pla}{w:World}(hm:MSim P F m β w){j:Nat}{p:Pl}{b:Nat}(hj:∀ i,f i≠some j)(hp:β j=some p)(hb:p.blk=some b):
 (β.via f).free b/\hidden F β f b:=by
 have C:(β.via f).free b:=fun i q hq e=>by
  obtain⟨j',h1,h2⟩:=Option.bind_eq_some_iff.1 hq;exact hj i (hm.inj j' j q p b h2 hp e hb▸h1)
 exact⟨C,.inr ⟨fun e=>e j p hp hb,C⟩⟩
structure vd(l:Nat)(β:Pla)(w:World)(β':Pla)(w':World):Prop where
 size:w.heap.size<=w'.heap.size
 imm:∀ b,b<w.heap.size->b≠l->β.free b->w'.heap[b]? =w.heap[b]? /\β'.free b
 keep:∀ i p,β i=some p->β' i=some p\/β' i=some .dead
 out:Out w w'
theorem Step.x{β β':Pla}{w w':World}(h:Step β w β' w')(l:Nat):vd l β w β' w':=⟨h.size,fun b hb _=>h.imm b hb,h.keep,h.out⟩
theorem vd.trans{l:Nat}{β₁ β₂ β₃:Pla}{J M X:World}(h:vd l β₁ J β₂ M)(k:vd l β₂ M β₃ X):vd l β₁ J β₃ X:=by
 refine⟨Nat.le_trans h.size k.size,fun b hb C hf=>?_,fun i p hp=>?_,h.out.trans k.out⟩
 .obtain⟨h1,h2⟩:=h.imm b hb C hf;obtain⟨k1,k2⟩:=k.imm b (Nat.lt_of_lt_of_le hb h.size) C h2;exact⟨k1.trans h1,k2⟩
 .rcases h.keep i p hp with h1|h1
  .exact k.keep i p h1
  .right;rcases k.keep i _ h1 with h2|h2<;>exact h2
theorem vd.put(l:Nat)(β:Pla)(w:World)(o:Obj):vd l β w β (w.putObj l o):=⟨oS,fun b _ C hf=>⟨World.putObj_heap_other C,hf⟩,fun _ _ h=>.inl h,rfl,rfl⟩
theorem PW{n j:Nat}{f:Nat->Option Nat}(C:∀ i i' j,f i=some j->f i'=some j->i=i'):
 (∀ i,(List.range n).find? (fun i=>f i==some j)=some i->f i=some j/\i<n)/\(∀ i,i<n->f i=some j->(List.range n).find? (fun i=>f i==some j)=some i):=by
 refine⟨fun i hi=>⟨by simpa using List.find?_some hi,by simpa using List.mem_of_find?_eq_some hi⟩,fun i hi hf=>?_⟩;cases h:(List.range n).find? (fun i=>f i==some j) with
 |none=>
  have:=List.find?_eq_none.1 h i (by simpa using hi);simp[hf] at this
 |some k=>rw[C i k j hf (by simpa using List.find?_some h)]
theorem View.afy{il n₀:Nat}{f:Nat->Option Nat}{mc:Mem}{nc:Nat}{m:Mem}{nx:Nat}(h:View il n₀ f mc nc m nx){β:Pla}{w:World}(hm:MSim P F m β w)(hn:∀ i,nx<=i->β i=none){l:Nat}{o o':Obj}(hl:m il=some (.raw l o))
 {m':Mem} {M:Nat} {β':Pla} {w':World} (jd:MSim P (hidden F β f) m' β' w') (hs:vd l (β.via f) w β' w') (dn:∀ i,M<=i->β' i=none) (hle:nc<=M) (hg:∀ i,i<nc->(β.via f) i=none->β' i=none) (ho:w'.heap[l]? =some o'):
 ∃ C X sC J,View il n₀ C m' M X sC/\X il=some (.raw l o')/\MSim P F X J w'/\(∀ i,sC<=i->J i=none)/\Step β w J w'/\nx<=sC/\∀ i,i<nx->β i=none->J i=none:=by
 obtain⟨Np,oi,Nq,ao⟩:=hm.B' hl
 let C:Nat->Option Nat:=fun i=>if i<nc then f i else if i<M then some (nx+(i - nc)) else none
 have EM:∀ i,i<nc->C i=f i:=fun i hi=>by simp[C,hi]
 have LD:∀ i,nc<=i->i<M->C i=some (nx+(i - nc)):=fun i h1 h2=>by simp[C,h2,Nat.not_lt.2 h1]
 have Ue:∀ i,M<=i->C i=none:=fun i h1=>by simp[C,Nat.not_lt.2 h1,Nat.not_lt.2 (Nat.le_trans hle h1)]
 have Af:∀ i j,C i=some j->(f i=some j/\i<nc/\j<nx)\/(nc<=i/\i<M/\j=nx+(i - nc)):=fun i j hf=>by
  rcases Nat.lt_or_ge i nc with h1|h1
  .rw[EM i h1] at hf;exact .inl ⟨hf,h.y7 hf |>.1,(h.y7 hf).2.1⟩
  .rcases Nat.lt_or_ge i M with h2|h2
   .rw[LD i h1 h2] at hf;cases hf;exact .inr ⟨h1,h2,rfl⟩
   .rw[Ue i h2] at hf;cases hf
 have LH:∀ i i' j,C i=some j->C i'=some j->i=i':=fun i i' j h1 h2=>by
  rcases Af i j h1 with⟨a1,a2,a3⟩|⟨a1,a2,a3⟩<;>rcases Af i' j h2 with⟨b1,b2,b3⟩|⟨b1,b2,b3⟩
  .exact h.inj i i' j a1 b1
  .omega
  .omega
  .omega
 let inv:Nat->Option Nat:=fun j=>(List.range M).find? fun i=>C i==some j
 have AE:∀ i j,inv j=some i->C i=some j:=fun i j hi=>((PW LH).1 i hi).1;have Mw:∀ i j,C i=some j->inv j=some i:=fun i j hf=>(PW LH).2 i (by rcases Af i j hf with h1|h1<;>omega) hf
 have aiV:∀ j,inv j=none->∀ i,f i≠some j:=fun j hj i hf=>by
  have:=Mw i j (by rw[EM i (h.y7 hf).1];exact hf);rw[hj] at this;cases this
 let J:Pla:=fun j=>match inv j with|some i=>β' i|none=>β j
 let X:Mem:=fun j=>match inv j with|some i=>(m' i).map (Row.renB C)|none=>if j=il then some (.raw l o') else m j
 have βs:∀ i j,C i=some j->J j=β' i:=fun i j hf=>by simp[J,Mw i j hf]
 have βn:∀ j,inv j=none->J j=β j:=fun j hj=>by simp[J,hj]
 have aez:inv il=none:=by
  cases hi:inv il with
  |none=>rfl
  |some i=>
   rcases Af i il (AE i il hi) with⟨a1,a2,a3⟩|⟨a1,a2,a3⟩
   .exact absurd rfl (h.y7 a1).2.2
   .have:=h.lt;omega
 have via:J.via C=β':=by
  funext i;simp only[Pla.via];cases hf:C i with
  |some j=>exact βs i j hf
  |none=>
   rcases Nat.lt_or_ge i M with h1|h1
   .rcases Nat.lt_or_ge i nc with h2|h2
    .obtain⟨j,h3,_⟩:=h.vM i h2;rw[EM i h2,h3] at hf;cases hf
    .rw[LD i h2 h1] at hf;cases hf
   .exact(dn i h1).symm
 have look:∀ j p,J j=some p->(∃ i,inv j=some i/\C i=some j/\β' i=some p)\/(inv j=none/\β j=some p):=fun j p hp=>by
  cases hi:inv j with
  |some i=>exact .inl ⟨i,rfl,AE i j hi,by rw[<- βs i j (AE i j hi)];exact hp⟩
  |none=>exact .inr ⟨rfl,by rw[<- βn j hi];exact hp⟩
 have aiW:∀ b,β.free b->b≠l:=fun b hb e=>hb il _ Np (e▸rfl)
 have imm:∀ b,b<w.heap.size->β.free b->w'.heap[b]? =w.heap[b]? /\J.free b:=fun b hb hf=>by
  obtain⟨h1,h2⟩:=hs.imm b hb (aiW b hf) (Pla.free_via hf f);refine⟨h1,fun j p hp=>?_⟩;rcases look j p hp with⟨i,_,_,h4⟩|⟨_,h4⟩
  .exact h2 i p h4
  .exact hf j p h4
 have keep:∀ j p,β j=some p->J j=some p\/J j=some .dead:=fun j p hp=>by
  cases hi:inv j with
  |none=>exact .inl ((βn j hi).trans hp)
  |some i=>
   have hf:=AE i j hi;rw[βs i j hf];rcases Af i j hf with⟨a1,a2,a3⟩|⟨a1,a2,a3⟩
   .exact hs.keep i p (by simp[Pla.via,a1,hp])
   .rw[hn j oG] at hp;cases hp
 have own:∀ j p b,inv j=none->β j=some p->p.blk=some b->hidden F β f b/\(b≠l->b<w.heap.size/\w'.heap[b]? =w.heap[b]?):=fun j p b hj hp hb=>by
  obtain⟨h1,h2⟩:=h.Hh hm (aiV j hj) hp hb;exact⟨h2,fun aE=>⟨hm.lt j p b hp hb,(hs.imm b (hm.lt j p b hp hb) aE h1).1⟩⟩
 refine⟨C,X,nx+(M - nc),J,⟨Nat.le_trans h.low hle,by have:=h.lt;omega,fun i hi=>?_,fun i hi=>?_,Ue,LH,fun i r hi=>?_⟩,?_,⟨fun j r hj=>?_,fun i j p q b hp hq e e'=>?_,fun j p b hp e=>?_,fun j p b hp e hF=>?_,fun b hb=>?_⟩,fun i hi=>?_,⟨hs.size,imm,keep,hs.out⟩,oG,fun i hi hb=>?_⟩
 .rw[EM i (Nat.lt_of_lt_of_le hi h.low)];exact h.id i hi
 .rcases Nat.lt_or_ge i nc with h1|h1
  .obtain⟨j,h2,h3,h4⟩:=h.vM i h1;exact⟨j,by rw[EM i h1];exact h2,oG,h4⟩
  .exact⟨_,LD i h1 hi,oG,by have:=h.lt;omega⟩
 .obtain⟨p,hp,_⟩:=jd.row i r hi
  have:∃ j,C i=some j:=by
   rw[<- via] at hp;obtain⟨j,h1,_⟩:=Option.bind_eq_some_iff.1 hp;exact⟨j,h1⟩
  obtain⟨j,hj⟩:=this;exact⟨j,hj,by simp[X,Mw i j hj,hi]⟩
 .simp[X,aez]
 .cases hi:inv j with
  |some i=>
   simp only[X,hi,dx] at hj;obtain⟨r0,AX,rfl⟩:=hj;obtain⟨p,hp,hr⟩:=jd.row i r0 AX;refine⟨p,(βs i j (AE i j hi)).trans hp,RowR.hide (F':=hidden F β f) (by rw[via];exact hr) (fun b hb=>.inl hb) fun b g1 g2=>?_⟩;obtain⟨k,q,hq,XI⟩:=QK g1;rcases look k q hq with⟨i',_,_,h4⟩|⟨h3,h4⟩
   .exact absurd XI (g2 i' q (by rw[via];exact h4))
   .exact(own k q b h3 h4 XI).1
  |none=>
   simp only[X,hi] at hj;split at hj
   .rename_i e;subst e;cases hj;exact⟨.raw l,(βn j hi).trans Np,.raw l o' ho⟩
   .rename_i aE;obtain⟨p,hp,hr⟩:=hm.row j r hj;refine⟨p,(βn j hi).trans hp,hr.gen hs.size (fun b hb g1 g2=>⟨same_of (imm b hb g2).1,(imm b hb g2).2,g1⟩) (fun i p _=>keep i p) fun b hb=>?_⟩;exact((own j p b hi hp hb).2 fun e=>aE (hm.inj j il p _ b hp Np hb (e▸rfl))).2
 .rcases look i p hp with⟨i',a1,a2,a3⟩|⟨a1,a2⟩<;>rcases look j q hq with⟨j',b1,b2,b3⟩|⟨b1,b2⟩
  .have:=jd.inj i' j' p q b a3 b3 e e';subst this;rw[a2] at b2;cases b2;rfl
  .exact absurd (own j q b b1 b2 e').1 (jd.nf i' p b a3 e)
  .exact absurd (own i p b a1 a2 e).1 (jd.nf j' q b b3 e')
  .exact hm.inj i j p q b a2 b2 e e'
 .rcases look j p hp with⟨i',a1,a2,a3⟩|⟨a1,a2⟩
  .exact jd.lt i' p b a3 e
  .exact Nat.lt_of_lt_of_le (hm.lt j p b a2 e) hs.size
 .rcases look j p hp with⟨i',a1,a2,a3⟩|⟨a1,a2⟩
  .exact jd.nf i' p b a3 e (.inl hF)
  .exact hm.nf j p b a2 e hF
 .exact Nat.lt_of_lt_of_le (hm.fb b hb) hs.size
 .cases eE:inv i with
  |none=>exact(βn i eE).trans (hn i oG)
  |some i0=>
   rcases Af i0 i (AE i0 i eE) with⟨a1,a2,a3⟩|⟨a1,a2,a3⟩<;>omega
 .cases eE:inv i with
  |none=>exact(βn i eE).trans hb
  |some i0=>
   have hf:=AE i0 i eE;rw[βs i0 i hf];rcases Af i0 i hf with⟨a1,a2,a3⟩|⟨a1,a2,a3⟩
   .exact hg i0 a2 (by simp[Pla.via,a1,hb])
   .omega
theorem Px{β:Pla}{w:World}:∀ (ts:List Tmp) (ds:List D) (vs:List Value) (env:Env) (tmps:Array Value),vs.length=ds.length->(∀ (k:Nat) (d:D) (v:Value),ds[k]? =some d->vs[k]? =some v->R F β w d v)->
 (∀ t,t∈ts->t<tmps.size)->ESim F β w env { tmps:=tmps,defers:=[] }->
 ESim F β w (setAll env ts ds) { tmps:=(ts.zip vs).foldl (fun tmps (t,a)=>tmps.setIfInBounds t a) tmps,defers:=[] }/\((ts.zip vs).foldl (fun tmps (t,a)=>tmps.setIfInBounds t a) tmps).size=tmps.size
 |[],_,_,env,tmps,_,_,_,h=>by simpa[setAll] using h
 |_::_,[],[],env,tmps,_,_,_,h=>by simpa[setAll] using h
 |_::_,[],_::_,_,_,hl,_,_,_=>by simp at hl
 |_::_,_::_,[],_,_,hl,_,_,_=>by simp at hl
 |t::ts,d::ds,v::vs,env,tmps,hl,hR,ao,h=>by
  have h1:ESim F β w (up env t d) { tmps:=tmps.setIfInBounds t v,defers:=[] }:=by
   have:=h.put (some t) d v (hR 0 d v rfl rfl) (fun u C=>by cases C;exact ao t oS);simpa[Act.put,up] using this
  have:=Px ts ds vs (up env t d) (tmps.setIfInBounds t v) (by simpa using hl) (fun k d v hd hv=>hR (k+1) d v (by simpa using hd) (by simpa using hv)) (fun u C=>by simpa using ao u (by simp[C])) h1;simp only[setAll,List.zip_cons_cons,List.foldl_cons];exact⟨this.1,by rw[this.2];simp⟩
theorem Dy{c:Code}{b:Frame}{a:Act}{k:List Item}{cs:List Frame}{w:World}:step P (lone (b.atR a (.code (.scope c)::k)) cs w)=.next (lone (b.atR a (.code c::.inScope c::k)) cs w):=
 step_lone_go (by simp[stepG,stepG.exec,Frame.atR])
theorem Zb{c:Code}{b:Frame}{a:Act}{k:List Item}{cs:List Frame}{w:World}:step P (lone (b.atR a (.inScope c::k)) cs w)=.next (lone (b.atR a k) cs w):=
 step_lone_go (by simp[stepG,stepG.exec,Frame.atR])
theorem Gp{I:Machine->Prop}{m:Machine}{b:Frame}{c:Code}{k:List Item}{cs:List Frame}{e:Exit}{a:Act}{w:World}
 (hn:e≠ .normal) (hg:∀ l,e≠ .goto l) (h:ArrivesIn I P m b (.inScope c::k) cs e a w):ArrivesIn I P m b k cs e a w:=by
 cases e with
 |normal=>exact absurd rfl hn
 |exit id=>exact⟨fun C hk=>h.1 C (by simp[exitTo,hk]),fun hr hk=>h.2 hr (by simp[exitTo,hk])⟩
 |goto l=>exact absurd rfl (hg l)
 |ret=>exact h
 |panic chain=>exact h
 |outgrown=>exact h
theorem ZF{X:Fence}{n:Nat}{Q:Exit->Act->World->Prop}{a:Act}{w:World}{c:Code}(h:c.wpIn X n P (Exit.noGoto Q) a w):(Code.scope c).wpIn X n P Q a w:=by
 intro b k cs No hb hr;have h0:(lone (b.atR a (.code (.scope c)::k)) cs w).fenced P X:=fenced_calm hb hr rfl;obtain⟨e,C,M,hq,J⟩:=h b (.inScope c::k) cs No hb hr;cases e with
 |normal=>exact⟨.normal,C,M,hq,.head h0 Dy (StepsIn.trans J (.one (fenced_calm hb hr rfl) Zb))⟩
 |goto l=>exact hq.elim
 |exit id=>exact⟨.exit id,C,M,hq,.of_steps (.one h0 Dy) (Gp (c:=c) oS oS J)⟩
 |ret=>exact⟨.ret,C,M,hq,.of_steps (.one h0 Dy) (Gp (c:=c) oS oS J)⟩
 |panic ch=>exact⟨.panic ch,C,M,hq,.of_steps (.one h0 Dy) (Gp (c:=c) oS oS J)⟩
 |outgrown=>exact⟨.outgrown,C,M,hq,.of_steps (.one h0 Dy) (Gp (c:=c) oS oS J)⟩
def Jump(env:Env)(Q:Exit->St->Prop):Code->Mem->Nat->Prop
 | .ret,m,nx=>Q .ret ⟨env,m,nx⟩
 | .exit id,m,nx=>Q (.exit id) ⟨env,m,nx⟩
 |_,_,_=>False
def BX(il l:Nat)(n₀:Nat)(o:Obj)(I:Mem->Nat->Prop)(m:Mem)(nx:Nat):Prop:=∃ f mc nc,View il n₀ f mc nc m nx/\m il=some (.raw l o)/\I mc nc
theorem BX.closed{il l n₀:Nat}{o:Obj}{I:Mem->Nat->Prop}:Closed (BX il l n₀ o I):=by
 rintro m nx m' nx' ⟨f,mc,nc,h1,h2,h3⟩ C he;exact⟨f,mc,nc,h1.ext C he,(he il h1.lt).trans h2,h3⟩
theorem aav(ps:Array Tmp)(us:Array Value)(tmps:Array Value):
 (ps.zip us).foldl (fun tmps (t,a)=>tmps.setIfInBounds t a) tmps=(ps.toList.zip us.toList).foldl (fun tmps (t,a)=>tmps.setIfInBounds t a) tmps:=by
 rw[<- Array.foldl_toList];simp
theorem Zc{β:Pla}{w:World}{a:Act}{g:Operand}{f:FuncId}{fs cs:List D}(hR:R F β w (.fn (.func f) fs cs) (a.eval g))(he:enterOk P f=true)(l:Nat)(w':World):
 ∃ (us vs:List Value) (d:Deferred),us.length=fs.length/\vs.length=cs.length/\(∀ (k:Nat) (d:D) (v:Value),fs[k]? =some d->us[k]? =some v->R F β w d v)/\(∀ (k:Nat) (d:D) (v:Value),cs[k]? =some d->vs[k]? =some v->R F β w d v)/\
  (resolve a.eval (rangeCall g l) 0).run P w'=.ok d w'/\(invoke d.target d.args).run P w'=.ok (.enter f (us.toArray++ #[.func (.yield l) #[] #[]]++vs.toArray)) w':=by
 generalize hv:a.eval g=v at hR;cases hR with
 |fn _ _ _ us vs hl jX J C=>
 refine⟨us,vs,{ target:=.fn (.func f) vs.toArray,args:=us.toArray++ #[.func (.yield l) #[] #[]] },hl,jX,J,C,?_,?_⟩
 .simp only[resolve,hv,Sem.run_bind,Deferred.ofValue];simp[go_sem]
 .simp only[invoke];unfold callFunc;unfold enterOk at he;simp only[Sem.run_bind,run_program,Result.andThen_ok];split at he
  .rename_i fn M;simp only[aM,Bool.not_eq_true'] at he
   have hb:fn.body.isNone=false:=by
    cases X:fn.body<;>simp_all
   rw[M];simp only[he.1,hb,Bool.false_eq_true,if_false,Sem.run_pure]
  .cases he
theorem Rs.append{β:Pla}{w:World}{aS bs:List D}{xs ys:Array Value}(h:Rs F β w aS xs)(k:Rs F β w bs ys):Rs F β w (aS++bs) (xs++ys):=by
 refine⟨by simp[h.1,k.1],fun j d v hd hv=>?_⟩;rcases Nat.lt_or_ge j aS.length with hj|hj
 .rw[List.getElem?_append_left hj] at hd;rw[Array.getElem?_append_left (by rw[h.1];exact hj)] at hv;exact h.2 j d v hd hv
 .rw[List.getElem?_append_right hj] at hd;rw[Array.getElem?_append_right (by rw[h.1];exact hj),h.1] at hv;exact k.2 _ d v hd hv
theorem abS(m9:P.follows .mixedOrders=true):∀ (c:Code) (F:Nat->Prop) (r:Option Nat) (n:Nat) (Y:YSpec) (rf:Bool) (N₀:Nat) (β₀:Pla) (w₀:World) (a₀:Act),(rf=true->r=none)->
 (∀ l args m nx K,Y l args m nx K->YCall P F β₀ w₀ l args m nx K)->ln a₀.tmps.size c=true->∀ (Q:Exit->St->Prop) (st:St) (β:Pla) (w:World) (a:Act),
 AW P Y rf c Q st->fN P F st β w a->sR N₀ β₀ w₀ a₀ st β w a->c.wpIn (Fe r) n P (afx P F N₀ β₀ w₀ a₀ Q) a w:=by
 intro c
 induction c with
 |skip=>exact fun F r n Y rf N₀ β₀ w₀ a₀ X M _ Q st β w a h hs J=>wpIn_skip ⟨st,β,h,hs,J⟩
 |ret=>exact fun F r n Y rf N₀ β₀ w₀ a₀ X M _ Q st β w a h hs J=>wpIn_ret ⟨st,β,h,hs,J⟩
 |exit id=>exact fun F r n Y rf N₀ β₀ w₀ a₀ X M _ Q st β w a h hs J=>wpIn_exit ⟨st,β,h,hs,J⟩
 |label l=>exact fun F r n Y rf N₀ β₀ w₀ a₀ X M _ Q st β w a h hs J=>wpIn_label ⟨st,β,h,hs,J⟩
 |region id ops draw=>
  intro F r n Y rf N₀ β₀ w₀ a₀ X M ao Q st β w a h hs J;have AF:At a.tmps.size ops=true:=by rw[J.size];exact ao
  cases draw with
  |false=>
   refine wpIn_mono (Zr (N:=st.nx) (β₀:=β) (w₀:=w) (a₀:=a) (fun l args m nx K hy=>(M l args m nx K hy).base J.step) AF h hs (jm.refl st β w a)) fun e a' w' hp=>?_;obtain⟨st',β',hq,eZ,iL⟩:=hp;exact⟨st',β',hq,eZ,J.since iL⟩
  |true=>
   simp only[AW] at h;split at h
   .rename_i cf rC;refine wpIn_mono (Zs (N₀:=st.nx) (β₀:=β) (w₀:=w) (a₀:=a) m9 rC AF h hs (jm.refl st β w a)) fun e a' w' hp=>?_;obtain⟨st',β',hq,eZ,iL⟩:=hp;exact⟨st',β',hq,eZ,J.since iL⟩
   .exact h.elim
 |seq x y II IJ=>
  intro F r n Y rf N₀ β₀ w₀ a₀ X M ao Q st β w a h hs J;simp only[ln,aM] at ao;refine wpIn_seq (wpIn_mono (II F r n Y rf N₀ β₀ w₀ a₀ X M ao.1 _ st β w a h hs J) fun e a' w' hp=>?_);obtain⟨st',β',hq,eZ,iL⟩:=hp;cases e with
  |normal=>
   obtain⟨jT,hg,hy⟩:=hq;obtain⟨kC,AG,LI⟩:=Pm hg eZ;exact IJ F r n Y rf N₀ β₀ w₀ a₀ X M ao.2 Q jT kC w' a' hy AG (iL.since LI)
  |_=>exact⟨st',β',hq,eZ,iL⟩
 |cond c x y II IJ=>
  intro F r n Y rf N₀ β₀ w₀ a₀ X M ao Q st β w a h hs J;simp only[ln,aM] at ao;obtain⟨ha,h⟩:=h;have hR:=(hs.e.opd c).core_of _ ha;split at h
  .rename_i t ht;rw[ht] at hR;exact wpIn_cond_split hR.s_inv.1 (fun e=>II F r n Y rf N₀ β₀ w₀ a₀ X M ao.1 Q st β w a (h.1 e) hs J) fun e=>IJ F r n Y rf N₀ β₀ w₀ a₀ X M ao.2 Q st β w a (h.2 e) hs J
  .rename_i ht;rw[ht] at hR;obtain⟨b,hb⟩:=hR.ub_inv;exact wpIn_cond_split hb (fun _=>II F r n Y rf N₀ β₀ w₀ a₀ X M ao.1 Q st β w a h.1 hs J) fun _=>IJ F r n Y rf N₀ β₀ w₀ a₀ X M ao.2 Q st β w a h.2 hs J
  .exact h.elim
 |scope b ih=>
  intro F r n Y rf N₀ β₀ w₀ a₀ X M ao Q st β w a h hs J;refine ZF (wpIn_mono (ih F r n Y rf N₀ β₀ w₀ a₀ X M ao _ st β w a h hs J) fun e a' w' hp=>?_);obtain⟨st',β',hq,eZ,iL⟩:=hp;cases e with
  |goto l=>exact hq.elim
  |_=>exact⟨st',β',hq,eZ,iL⟩
 |block id b ih=>
  intro F r n Y rf N₀ β₀ w₀ a₀ X M ao Q st β w a h hs J;refine wpIn_block (wpIn_mono (ih F r n Y rf N₀ β₀ w₀ a₀ X M ao _ st β w a h hs J) fun e a' w' hp=>?_);obtain⟨st',β',hq,eZ,iL⟩:=hp;cases e with
  |exit i=>
   simp only[blockQ] at hq;simp only[Exit.inBlock];split at hq
   .rename_i hi;rw[if_pos hi];exact⟨st',β',hq,eZ,iL⟩
   .rename_i hi;rw[if_neg hi];exact⟨st',β',hq,eZ,iL⟩
  |_=>exact⟨st',β',hq,eZ,iL⟩
 |loop b ih=>
  intro F r n Y rf N₀ β₀ w₀ a₀ X M ao Q st β w a h hs J;obtain⟨I,μ,hI,BY⟩:=h;refine Za (fun j a w=>∃ st β,I st/\μ st=j/\fN P F st β w a/\sR N₀ β₀ w₀ a₀ st β w a) ⟨st,β,hI,rfl,hs,J⟩ ?_;rintro j a w ⟨st,β,hI,hμ,hs,J⟩;refine wpIn_mono (ih F r n Y rf N₀ β₀ w₀ a₀ X M ao _ st β w a (BY st hI) hs J) fun e a' w' hp=>?_;obtain⟨st',β',hq,eZ,iL⟩:=hp;cases e with
  |normal=>
   obtain⟨kW,hg,rD,aoB⟩:=hq;obtain⟨kC,AG,LI⟩:=Pm hg eZ;exact⟨μ kW,oG,kW,kC,rD,rfl,AG,iL.since LI⟩
  |_=>exact⟨st',β',hq,eZ,iL⟩
 |rangeFunc g ps assign body zr zs=>
  intro F r n Y rf N₀ β₀ w₀ a₀ X M ao Q st β w a h hs J;obtain⟨env,mem,nx⟩:=st;obtain⟨Mx,qf,f,fs,cs,xs,I,Ca,H8,HK,IK,BY,iX⟩:=h;simp only at qf Ca IK BY iX;have hr:=X Mx;subst hr;simp only[ln,aM,bj,Nat.blt_eq] at ao;obtain⟨AY,aiX,aiY⟩:=ao;have cE:a.tmps.size=a₀.tmps.size:=J.size;have hR:=(hs.e.opd g).core_of _ qf;simp only[Ca] at hR;refine wpIn_rangeFunc fun fn pg=>?_;obtain⟨C,wZ⟩:∃ C:LoopState->Option Code->Loop,C=fun st pe=>{ state:=st,pending:=pe,fn,tmps:=a.tmps,params:=ps,assign,body,defers:=w.heap.size }:=⟨_,rfl⟩
  obtain⟨W1,Fq⟩:∃ W1,(w.alloc (.deferred (some []))).alloc (.loop (C .ready none))=W1:=⟨_,rfl⟩
  obtain⟨us,vs,d,Nr,vN,hu,hv,fD,hinv⟩:=Zc (P:=P) hR H8.1 (w.heap.size+1) W1;have hn:∀ i,nx<=i->β i=none:=hs.n;have Nq:¬ F (w.heap.size+1):=fun e=>by have:=hs.m.fb _ e;omega
  let f₀:Nat->Option Nat:=fun i=>if i<nx then some i else none
  have VW:β.via f₀=β:=by
   funext i;simp only[Pla.via,f₀];split
   .rfl
   .exact(hn i oG).symm
  have AZ:MSim P F (fun i=>(mem i).map (Row.renB f₀)) β w:=⟨fun i r hi=>by
   simp only[dx] at hi;obtain⟨r0,h1,rfl⟩:=hi;obtain⟨p,hp,hr⟩:=hs.m.row i r0 h1
   exact⟨p,hp,RowR.hide (F':=F) (by rw[VW];exact hr) (fun _ h=>h) fun b g1 g2=>absurd (VW▸g2) g1⟩,hs.m.inj,hs.m.lt,hs.m.nf,hs.m.fb⟩
  have zt:Step β w β (w.alloc (.deferred (some []))):=step_ext oS fun b hb=>heap_alloc_old w _ hb;have xC:MSim P F (fun i=>(mem i).map (Row.renB f₀)) β (w.alloc (.deferred (some []))):=AZ.ext oS fun b hb=>heap_alloc_old w _ hb
  have Ns:MSim P F (up (fun i=>(mem i).map (Row.renB f₀)) nx (some (.raw (w.heap.size+1) (.loop (C .ready none))))) (up β nx (some (.raw (w.heap.size+1)))) W1:=by
   rw[<- Fq];refine xC.alloc (hn nx (bF _)) _ _ _ (fun b hb=>by simp only[Pl.blk,aV] at hb;simp;omega) (.raw _ _ ?_);have:=World.alloc_heap_new (w.alloc (.deferred (some []))) (.loop (C .ready none))
   rwa[World.size_alloc] at this
  have qm:Step β w (up β nx (some (.raw (w.heap.size+1)))) W1:=by
   rw[<- Fq];exact zt.trans (step_alloc xC _ (hn nx (bF _)) _ (fun b hb=>by simp only[Pl.blk,aV] at hb;simp;omega))
  have hD1:W1.heap[w.heap.size]? =some (.deferred (some [])):=by
   rw[<- Fq];rw[heap_alloc_old _ _ oS];exact World.alloc_heap_new w _
  have S7:Pla.free (up β nx (some (.raw (w.heap.size+1)))) w.heap.size:=
   free_other (fun i p hp e=>by have:=hs.m.lt i p _ hp e;omega) (by rintro q hq;cases hq;simp[Pl.blk])
  have aoC:W1.heap.size=w.heap.size+2:=by rw[<- Fq];simp
  have adp:∀ i,nx<=i->mem i=none:=fun i hi=>by
   cases hm:mem i with
   |none=>rfl
   |some row=>
    obtain⟨p,hp,_⟩:=hs.m.row i row hm;rw[hn i hi] at hp;cases hp
  have own:∀ {f:Nat->Option Nat} {mc:Mem} {nc:Nat} {m:Mem} {cI:Nat} {β2:Pla} {w2:World},View nx nx f mc nc m cI->Step (up β nx (some (.raw (w.heap.size+1)))) W1 β2 w2->
   ∀ {d:D} {v:Value},R F β w d v->R (hidden F β2 f) (β2.via f) w2 d v:=fun {_ _ _ _ _ _ _} ki aF {d v} h=>by
   have tW:=qm.trans aF;refine h.gen tW.size (fun b hb hf nS=>?_) fun i p _ hp=>?_
   .obtain⟨g1,g2⟩:=tW.imm b hb nS;exact⟨same_of g1,Pla.free_via g2 _,fun e=>e.elim hf fun e=>e.1 g2⟩
   .have hi:i<nx:=by
     rcases Nat.lt_or_ge i nx with h1|h1
     .exact h1
     .rw[hn i h1] at hp;cases hp
    simp only[Pla.via,ki.id i hi,Option.bind_some];exact tW.keep i p hp
  refine⟨w.heap.size+1,[mark w.heap.size],W1,d,W1,f,_,W1,?_,fD,fun f' _=>trivial,hinv,fun hd=>by simp at hd,QL ?_⟩
  .rw[<- Fq,wZ];exact run_enterLoop_outer _ _ _ _ _
  refine(H8.2 F (w.heap.size+1) (fun k=>BX nx (w.heap.size+1) nx (.loop (C .ready none)) (I k)) (fun m k=>∃ c,BX nx (w.heap.size+1) nx (.loop (C .done (some c))) (Jump env Q c) m k)
   (up (fun i=>(mem i).map (Row.renB f₀)) nx (some (.raw (w.heap.size+1) (.loop (C .ready none))))) (nx+1) (up β nx (some (.raw (w.heap.size+1)))) W1 _ (fun k=>BX.closed) ?_ Ns ?_ ?_ ?_ ?_).mono ?_
  .rintro m k m' k' ⟨c,hc⟩ hle he;exact⟨c,BX.closed m k m' k' hc hle he⟩
  .intro i hi;rw[up_ne _ _ (show i≠nx by omega)];exact hn i oG
  .refine Rs.append (Rs.append ?_ ?_) ?_
   .exact⟨by simp[Nr],fun k d v hd hv=>(hu k d v hd (by simpa using hv)).step qm⟩
   .refine⟨rfl,fun k d v hd hv=>?_⟩;cases k with
    |zero=>
     simp only[List.getElem?_cons_zero,aV] at hd;simp only[List.getElem?_toArray,List.getElem?_cons_zero,aV] at hv;subst hd;subst hv;exact .fn _ [] [] [] [] rfl rfl oS oS
    |succ k=>simp at hd
   .exact⟨by simp[vN],fun k d v hd Nt=>(hv k d v hd (by simpa using Nt)).step qm⟩
  .rintro k x m k' hx ⟨g,mc,nc,ki,fZ,hIk⟩ β2 w2 IM aiZ mj A0 Fs;obtain⟨XJ,Cb,_,My⟩:=mj.B' fZ;have ai0:IM.size=ps.size:=by rw[Fs.1];exact(HK x (bU hx)).1
   have hy:=run_yield (P:=P) (args:=IM) Cb (by rw[wZ];exact ai0);simp only[wZ,aav] at hy;refine⟨fn,_,assign,body,hy,fun n'=>?_⟩;obtain⟨Nu,mn⟩:=ki.enter mj;have Ft:hidden F β2 g (w.heap.size+1):=(ki.Hh mj (fun i e=>(ki.y7 e).2.2 rfl) XJ rfl).2;have S8:(β2.via g).free (w.heap.size+1):=(ki.Hh mj (fun i e=>(ki.y7 e).2.2 rfl) XJ rfl).1;have hE2:ESim (hidden F β2 g) (β2.via g) w2 env { tmps:=a.tmps,defers:=[] }:=fun t=>own ki aiZ (hs.e t)
   obtain⟨hE3,VX⟩:=Px ps.toList x IM.toList env a.tmps (by simp[Fs.1]) (fun j d v hd hv=>
    ((HK x (bU hx)).2 d (bU hd) F β2 w2 v (Fs.2 j d v hd (by simpa using hv))).gen (bF _)
     (fun b _ hb _=>⟨SameB.refl _ b,Pla.free_via (owned_free hb).2 _,fun e=>e.elim (owned_free hb).1 fun e=>e.1 (owned_free hb).2⟩) (fun i p _ hp=>by cases hp)) (fun t ht=>by rw[cE];exact AY t ht) hE2
   have ai1:=zr (hidden F β2 g) (some (w.heap.size+1)) n' noY false nc (β2.via g) w2
    { tmps:=(ps.toList.zip IM.toList).foldl (fun tmps (t,a)=>tmps.setIfInBounds t a) a.tmps,defers:=[] } oS (fun _ _ _ _ _ h=>h.elim) (by show ln (Array.size _) assign=true;rw[VX,cE];exact aiX) _ ⟨setAll env ps.toList x,mc,nc⟩ (β2.via g) w2 _
    (BY k mc nc x hx hIk) ⟨hE3,Nu,mn⟩ (jm.refl ⟨setAll env ps.toList x,mc,nc⟩ _ _ _).IG
   refine roundIn_of_wpIn trivial (wpIn_mono ai1 fun e a3 w3 hp=>?_);obtain⟨kW,β3,XK,IN,zu⟩:=hp;cases e with
   |normal=>
    have LJ:w.heap.size+1<w3.heap.size:=Nat.lt_of_lt_of_le My zu.step.size;have afz:w3.heap[w.heap.size+1]? =some (.loop (C .ready none)):=(zu.step.imm _ My S8).1.trans Cb;refine⟨_,run_beginRound afz (by rw[wZ]),?_⟩;have ai2:=IN.vj (l:=w.heap.size+1) Ft (.loop { C .ready none with state:=.busy });have afA:=zs (hidden F β2 g) (some (w.heap.size+1)) n' noY false kW.nx β3 _ a3 oS (fun _ _ _ _ _ h=>h.elim) (by rw[zu.size];show ln (Array.size _) body=true;rw[VX,cE];exact aiY) _ kW β3 _ a3 XK ai2 (jm.refl kW _ _ _).IG;refine wpIn_mono afA fun e a4 w4 hp4=>?_;obtain⟨XL,β4,IP,XM,Fu⟩:=hp4;have afB:w.heap.size+1<w4.heap.size:=Nat.lt_of_lt_of_le (by simpa using LJ) Fu.step.size
    have afC:w4.heap[w.heap.size+1]? =some (.loop { C .ready none with state:=.busy }):=
     (Fu.step.imm _ (by simpa using LJ) (zu.step.imm _ My S8).2).1.trans (World.putObj_heap_same LJ)
    have fin:∀ (jump:Option Code) (K:D->Mem->Nat->Prop),(∀ f' lJ sC,View nx nx f' XL.mem XL.nx lJ sC->lJ nx=some (.raw (w.heap.size+1) (.loop (C (if jump.isNone then .ready else .done) jump)))->K (.s (.bool jump.isNone)) lJ sC)->
     ∃ v w',(Instr.endRound (w.heap.size+1) jump).run P w4=.ok v w'/\∃ v' d m' nx' β',Ending.returned v=.returned v'/\K d m' nx'/\MSim P F m' β' w'/\(∀ i,nx'<=i->β' i=none)/\R F β' w' d v'/\Step β2 w2 β' w'/\k'<=nx'/\∀ i,i<k'->β2 i=none->β' i=none:=fun jump K hK=>by
     have gL:=run_endRound (P:=P) jump afC;have e1:∀ s p,({ ({ C .ready none with state:=.busy }:Loop) with state:=s,pending:=p }:Loop)=C s p:=fun s p=>by rw[wZ]
     rw[e1] at gL
     obtain⟨f',lJ,sC,kC,v1,v2,v3,v4,v5,v6,v7⟩:=ki.afy mj A0 fZ (o':=.loop (C (if jump.isNone then .ready else .done) jump)) (XM.m.vj Ft _)
      (((zu.step.x _).trans (vd.put _ β3 w3 _)).trans ((Fu.step.x _).trans (vd.put _ β4 w4 _))) XM.n (Nat.le_trans zu.le Fu.le) (fun i hi hb=>Fu.grow i (Nat.lt_of_lt_of_le hi zu.le) (zu.grow i hi hb)) (World.putObj_heap_same afB)
     exact⟨_,_,gL,.bool jump.isNone,_,lJ,sC,kC,rfl,hK f' lJ sC v1 v2,v3,v4,.s _ rfl,v5,v6,v7⟩
    cases e with
    |normal=>exact fin none _ fun f' lJ sC v1 v2=>.inl ⟨rfl,f',_,_,v1,v2,IP⟩
    |ret=>exact fin (some .ret) _ fun f' lJ sC v1 v2=>.inr ⟨rfl,.ret,f',_,_,v1,v2,IP⟩
    |exit id=>exact fin (some (.exit id)) _ fun f' lJ sC v1 v2=>.inr ⟨rfl,.exit id,f',_,_,v1,v2,IP⟩
    |_=>exact IP.elim
   |_=>exact XK.elim
  .refine⟨f₀,mem,nx,⟨bF _,oG,fun i hi=>by simp[f₀,hi],fun i hi=>⟨i,by simp[f₀,hi],oG,oG⟩,fun i hi=>by simp[f₀,Nat.not_lt.2 hi],fun i i' j h1 h2=>?_,fun i r hi=>?_⟩,up_same _ _ _,IK⟩
   .simp only[f₀,Option.ite_none_right_eq_some,aV] at h1 h2;omega
   .have ao:i<nx:=by
     rcases Nat.lt_or_ge i nx with h1|h1
     .exact h1
     .rw[adp i h1] at hi;cases hi
    exact⟨i,by simp[f₀,ao],by rw[up_ne _ _ (show i≠nx by omega),hi];rfl⟩
  .rintro e w6 ⟨v,d6,m6,Nv,β6,rfl,VY,xD,hn6,_,w7,aoD,ai3⟩
   have fin:∀ {g:Nat->Option Nat} {mc:Mem} {nc:Nat} (o':Obj),View nx nx g mc nc m6 Nv->
    fN P F ⟨env,mc,nc⟩ (β6.via g) (w6.putObj (w.heap.size+1) o') { a with defers:=[mark w.heap.size]++a.defers }/\
    sR N₀ β₀ w₀ a₀ ⟨env,mc,nc⟩ (β6.via g) (w6.putObj (w.heap.size+1) o') { a with defers:=[mark w.heap.size]++a.defers }:=fun {g mc nc} o' ki=>by
    obtain⟨Nu,mn⟩:=ki.enter xD
    have Ft:hidden F β6 g (w.heap.size+1):=by
     have hβ:β6 nx=some (.raw (w.heap.size+1))\/β6 nx=some .dead:=w7.keep nx _ (up_same _ _ _);rcases hβ with hβ|hβ
     .exact(ki.Hh xD (fun i e=>(ki.y7 e).2.2 rfl) hβ rfl).2
     .exfalso;rcases VY with⟨f',mc',rB,_,Mz,_⟩|⟨c,f',mc',rB,_,Mz,_⟩
      .rw[(xD.B' Mz).1] at hβ;cases hβ
      .rw[(xD.B' Mz).1] at hβ;cases hβ
    refine⟨⟨fun t=>((own ki w7 (hs.e t)).vj Ft o').weak fun b hb=>.inl hb,(Nu.vj Ft o').weak fun b hb=>.inl hb,mn⟩,J.trans ⟨⟨?_,fun b hb hf=>?_,fun i p hp=>?_,(qm.out.trans w7.out).trans ⟨rfl,rfl⟩⟩,ki.low,fun i hi hb=>?_,rfl,[mark w.heap.size],rfl,?_⟩⟩
    .have:=w7.size;simp;omega
    .obtain⟨g1,g2⟩:=qm.imm b hb hf;obtain⟨g3,g4⟩:=w7.imm b oG g2;exact⟨(World.putObj_heap_other oG).trans (g3.trans g1),Pla.free_via g4 _⟩
    .have hi:i<nx:=by
      rcases Nat.lt_or_ge i nx with h1|h1
      .exact h1
      .rw[hn i h1] at hp;cases hp
     simp only[Pla.via,ki.id i hi,Option.bind_some];exact(qm.trans w7).keep i p hp
    .have hi:i<nx:=hi;simp only[Pla.via,ki.id i hi,Option.bind_some];exact ai3 i oG (by rw[up_ne _ _ oG];exact hb)
    .refine⟨w.heap.size,rfl,bF _,?_,?_,?_,trivial⟩
     .have:=w7.size;simp;omega
     .exact(World.putObj_heap_other oG).trans ((w7.imm _ oG S7).1.trans hD1)
     .exact Pla.free_via (w7.imm _ oG S7).2 _
   rcases VY with⟨g,mc,nc,ki,fZ,hI⟩|⟨c,g,mc,nc,ki,fZ,hj⟩
   .have gL:(Instr.endLoop (w.heap.size+1)).run P w6=.ok none (w6.putObj (w.heap.size+1) (.loop (C .exhausted none))):=by
     have:=run_endLoop (P:=P) (xD.B' fZ).2.1 (by rw[wZ];simp);rw[wZ] at this ⊢;exact this
    obtain⟨g1,g2⟩:=fin (.loop (C .exhausted none)) ki;exact⟨none,_,gL,⟨env,mc,nc⟩,_,iX mc nc hI,g1,g2⟩
   .have gL:(Instr.endLoop (w.heap.size+1)).run P w6=.ok (some c) (w6.putObj (w.heap.size+1) (.loop (C .exhausted (some c)))):=by
     have:=run_endLoop (P:=P) (xD.B' fZ).2.1 (by rw[wZ];simp);rw[wZ] at this ⊢;exact this
    obtain⟨g1,g2⟩:=fin (.loop (C .exhausted (some c))) ki;refine⟨some c,_,gL,?_⟩;cases c with
    |ret=>exact wpIn_ret ⟨⟨env,mc,nc⟩,_,hj,g1,g2⟩
    |exit id=>exact wpIn_exit ⟨⟨env,mc,nc⟩,_,hj,g1,g2⟩
    |_=>exact hj.elim
 |_=>intro F r n Y rf N₀ β₀ w₀ a₀ X M ao Q st β w a h;exact h.elim
end
section
variable{P:Program}{F:Nat->Prop}{fn:Func}
def Ct(tmps:Array Value):ResultVar->Sem Value
 | .tmp t=>pure (tmps.getD t undef)
 | .cell x t=>do loadVar t (<- asAddr (tmps.getD x undef))
theorem ZH(fn:Func)(tmps:Array Value):results fn tmps=(do
 let vs<- fn.results.mapM (Ct tmps)
 pure (if h:vs.size=1 then vs[0] else .tuple vs)):=by
 unfold results;congr 1
theorem adw{st:St}{β:Pla}{w:World}{a:Act}(hs:fN P F st β w a){r:ResultVar}{p:Prop}{d:D}(h:resD P st r=some (p,d))(hp:p):
 ∃ v,(Ct a.tmps r).run P w=.ok v w/\R F β w d v:=by
 unfold resD at h;split at h
 .cases h;exact⟨_,by simp[Ct],hs.e _⟩
 .rename_i x t;have hx:=hs.e x;split at h
  .rename_i i off J;rw[J] at hx;split at h
   .rename_i cs e hm;cases h;obtain⟨b,o,room,sz,X,hv,ax⟩:=hx.rp_inv hs.m hm;obtain⟨u,C,hr⟩:=run_load_rd (P:=P) hp.1 (ax.rd.1.drop off) oP;refine⟨u,?_,hr⟩;simp only[Ct,hv,Sem.run_bind];simp[asAddr,C]
   .cases h
  .rename_i cs J;rw[J] at hx;cases h;obtain⟨b,o,hv,_,_,_,M⟩:=hx.pt_inv;obtain⟨u,C,hr⟩:=run_load_rd (P:=P) hp.1 M hp.2;refine⟨u,?_,hr⟩;simp only[Ct,hv,Sem.run_bind];simp[asAddr,C]
  .cases h
theorem QQ{st:St}{β:Pla}{w:World}{a:Act}(hs:fN P F st β w a){K:List D->Prop}:∀ (rs:List ResultVar) (C:List D),retL P st rs C K->
 ∃ vs ds,(rs.mapM (Ct a.tmps)).run P w=.ok vs w/\vs.length=ds.length/\K (C++ds)/\
  ∀ (k:Nat) (d:D) (v:Value),ds[k]? =some d->vs[k]? =some v->R F β w d v
 |[],C,h=>⟨[],[],oS,rfl,by simpa[retL] using h,oS⟩
 |r::rs,C,h=>by
  simp only[retL] at h;split at h
  .rename_i p d hr;obtain⟨v,h1,h2⟩:=adw hs hr h.1;obtain⟨vs,ds,h3,h4,h5,J⟩:=QQ hs rs _ h.2;refine⟨v::vs,d::ds,?_,by simp[h4],by simpa using h5,fun k d' M hd hv=>?_⟩
   .rw[List.mapM_cons];simp only[Sem.run_bind];rw[h1];simp only[Result.andThen_ok,Sem.run_bind];rw[h3];simp
   .cases k with
    |zero=>simp at hd hv;subst hd;subst hv;exact h2
    |succ k=>exact J k d' M (by simpa using hd) (by simpa using hv)
  .exact h.elim
theorem Zt{st:St}{β:Pla}{w:World}{a:Act}(hs:fN P F st β w a){K:D->Prop}(h:retL P st fn.results.toList [] fun ds=>K (one1 ds)):
 ∃ v d,(results fn a.tmps).run P w=.ok v w/\K d/\R F β w d v:=by
 obtain⟨vs,ds,h1,h2,h3,h4⟩:=QQ hs _ _ h;simp only[List.nil_append] at h3;refine⟨if h:vs.toArray.size=1 then vs.toArray[0] else .tuple vs.toArray,one1 ds,?_,h3,?_⟩
 .rw[ZH,Array.mapM_eq_mapM_toList];simp only[Sem.run_bind,map_eq_pure_bind,bind_assoc];rw[h1];simp
 .split
  .rename_i cE;simp only[List.size_toArray] at cE;obtain⟨v,rfl⟩:=List.length_eq_one_iff.1 cE;obtain⟨d,rfl⟩:=List.length_eq_one_iff.1 (show ds.length=1 by simpa using h2.symm);exact h4 0 d v rfl rfl
  .rename_i cE;simp only[List.size_toArray] at cE
   have:one1 ds=.tup ds:=by
    unfold one1;split
    .rename_i d;simp at h2;exact absurd h2 cE
    .rfl
   rw[this];exact .tup ds vs h2 h4
theorem Ze{w:World}{b:Nat}{x:Option (List Deferred)}(h:w.heap[b]? =some (.deferred x))(o:Nat):w.cell? ⟨b,o,none⟩=none:=by
 simp[World.cell?,h]
theorem R.QR{w:World}{b:Nat}{x:Option (List Deferred)}(hb:w.heap[b]? =some (.deferred x))(o:Obj)(J:Nat):SameB w (w.putObj b o) J:=by
 refine⟨fun k u M=>?_,fun ms c hm=>?_⟩
 .have C:J≠b:=fun e=>by rw[e,Ze hb] at M;cases M
  exact(cell_of_heap (World.putObj_heap_other C)).trans M
 .have C:J≠b:=fun e=>by rw[e,hb] at hm;cases hm
  exact(World.putObj_heap_other C).trans hm
theorem fN.putD{st:St}{β:Pla}{w:World}{a:Act}{b:Nat}{x:Option (List Deferred)}(hb:w.heap[b]? =some (.deferred x))(hf:β.free b)(o:Obj)(h:fN P F st β w a):fN P F st β (w.putObj b o) a:=
 ⟨fun t=>(h.e t).gen oS (fun C _ h1 h2=>⟨R.QR hb o C,h2,h1⟩) fun _ _ _ h=>.inl h,⟨fun i r hi=>by
  obtain⟨p,hp,hr⟩:=h.m.row i r hi;exact⟨p,hp,hr.gen oS (fun C _ h1 h2=>⟨R.QR hb o C,h2,h1⟩) (fun _ _ _ h=>.inl h) fun c hc=>World.putObj_heap_other fun e=>hf i p hp (e▸hc)⟩,
  h.m.inj,fun i p c hp hc=>by simpa using h.m.lt i p c hp hc,h.m.nf,fun c hc=>by simpa using h.m.fb c hc⟩,h.n⟩
theorem Marks.put{β:Pla}{w:World}{lo b:Nat}(o:Obj):∀ {ds:List Deferred} {hi:Nat},hi<=b->Marks β w lo ds hi->Marks β (w.putObj b o) lo ds hi
 |[],_,_,_=>trivial
 |_::_,_,hle,⟨c,h1,h2,h3,h4,h5,h6⟩=>⟨c,h1,h2,h3,(World.putObj_heap_other oG).trans h4,h5,Marks.put o oG h6⟩
theorem Pf{n:Nat}{tmps:Array Value}{R:Ending->World->Prop}{st:St}{β₀ β:Pla}{w₀:World}{a:Act}:∀ (ds:List Deferred) (hi:Nat) (w:World),Marks β w w₀.heap.size ds hi->fN P F st β w a->Step β₀ w₀ β w->
 (∀ w',fN P F st β w' a->Step β₀ w₀ β w'->∃ v,(results fn tmps).run P w'=.ok v w'/\R (.returned v) w')->LeavesInM (Fe none) n P fn tmps R ds .returning w
 |[],_,w,_,hs,aF,K=>K w hs aF
 |d::ds,hi,w,⟨b,h1,h2,h3,h4,h5,h6⟩,hs,aF,K=>by
  subst h1;refine⟨oS,.inl ⟨b,_,rfl,run_takeDeferred h4,Pf ds b _ (h6.put _ (bF _)) (hs.putD h4 h5 _) ?_ K⟩⟩;refine⟨by simpa using aF.size,fun c hc hf=>?_,aF.keep,aF.out.trans ⟨rfl,rfl⟩⟩;obtain⟨C,J⟩:=aF.imm c hc hf;exact⟨(World.putObj_heap_other oG).trans C,J⟩
theorem BE(m9:P.follows .mixedOrders=true){Y:YSpec}{f:FuncId}{c:Code}(hf:P.funcs[f]? =some fn)(hb:fn.body=some c)(ao:ln fn.ntmps c=true){args:List D}(hn:Nat.ble args.length fn.ntmps=true){m:Mem}{nx:Nat}{K:D->St->Prop}
 (h:AW P Y true c (retQ P fn.results.toList K) ⟨envOf args,m,nx⟩) {β:Pla} {w:World} {vs:Array Value} (hY:∀ l args m nx K,Y l args m nx K->YCall P F β w l args m nx K) (hm:MSim P F m β w) (fO:∀ i,nx<=i->β i=none) (hR:Rs F β w args vs):
 Calls P f vs w fun e w'=>∃ v d st' β',e=.returned v/\K d st'/\R F β' w' d v/\MSim P F st'.mem β' w'/\(∀ i,st'.nx<=i->β' i=none)/\Step β w β' w'/\nx<=st'.nx/\∀ i,i<nx->β i=none->β' i=none:=by
 have hle:args.length<=fn.ntmps:=by simpa using hn
 refine(callsIn_wide (n:=0)).1 (callsIn_of_wp_marks hf hb trivial ?_)
 have cE:(vs++Array.replicate (fn.ntmps - vs.size) undef).size=fn.ntmps:=by
  simp only[Array.size_append,Array.size_replicate,hR.1];omega
 let a₀:Act:={ tmps:=vs++Array.replicate (fn.ntmps - vs.size) undef,defers:=[] }
 have hE:ESim F β w (envOf args) a₀:=fun t=>by
  unfold envOf;rcases Nat.lt_or_ge t args.length with ao|a9
  .have h1:args.getD t .u=args[t]:=by simp[ao]
   have h2:a₀.tmps.getD t undef=vs[t]'(by rw[hR.1];exact ao):=by
    show(vs++Array.replicate (fn.ntmps - vs.size) undef).getD t undef=_;have h3:t<vs.size:=by rw[hR.1];exact ao
    simp[Array.getD_eq_getD_getElem?,Array.getElem?_append_left h3,h3]
   rw[h1,h2];exact hR.2 t _ _ (by simp[ao]) (by simp[hR.1,ao])
  .have h1:args.getD t .u=.u:=by simp[a9]
   rw[h1];exact .u _
 have:=abS m9 c F none 0 Y true nx β w a₀ (fun _=>rfl) hY (by show ln (vs++Array.replicate (fn.ntmps - vs.size) undef).size c=true;rw[cE];exact ao) _ ⟨envOf args,m,nx⟩ β w a₀ h ⟨hE,hm,fO⟩ (jm.refl ⟨envOf args,m,nx⟩ β w a₀).IG;refine wpIn_mono this fun e a' w' hp=>?_;obtain⟨st',β',hq,eZ,C⟩:=hp
 have X:(retL P st' fn.results.toList [] fun ds=>K (one1 ds) st')->LeavesInM (Fe none) 0 P fn a'.tmps (fun e w'=>∃ v d st' β',e=.returned v/\K d st'/\R F β' w' d v/\MSim P F st'.mem β' w'/\(∀ i,st'.nx<=i->β' i=none)/\Step β w β' w'/\nx<=st'.nx/\∀ i,i<nx->β i=none->β' i=none) a'.defers .returning w':=fun hq=>by
  obtain⟨ds,h1,h2⟩:=C.defers;rw[h1,show a₀.defers=[] from rfl,List.append_nil];refine Pf ds _ w' h2 eZ C.step fun w'' J M=>?_;obtain⟨v,d,g1,g2,g3⟩:=Zt (K:=fun d=>K d st') J hq;exact⟨v,g1,v,d,st',β',rfl,g2,g3,J.m,J.n,M,C.le,C.grow⟩
 cases e with
 |normal=>exact X hq
 |ret=>exact X hq
 |_=>exact hq.elim
theorem GD{w:World}(hF:∀ b,F b->b<w.heap.size):MSim P F (fun _=>none) noRows w:=
 ⟨fun i r h=>oH,fun i j p q b h=>oH,fun i p b h=>oH,fun i p b h=>oH,hF⟩
theorem Gq{β':Pla}{w w':World}(h:Step noRows w β' w'):Kept w w':=
 ⟨h.size,fun b hb=>(h.imm b hb fun i p hp=>by cases hp).1,h.out⟩
theorem Tr.Cc{d:D}(h:Tr d){β:Pla}{w:World}{v:Value}(hv:R F β w d v):R F noRows w d v:=
 (h F β w v hv).lift fun b hb=>⟨fun e=>hb (.inl e),fun i p hp=>by cases hp⟩
structure na(P:Program)(f:FuncId)(fn:Func)(c:Code):Prop where
 hf:P.funcs[f]? =some fn
 hb:fn.body=some c
 ao:ln fn.ntmps c=true
 he:enterOk P f=true
theorem QS(X:P.follows .mixedOrders=true){f:FuncId}{c:Code}(hf:na P f fn c){args:List D}(hn:Nat.ble args.length fn.ntmps=true){m:Mem}{nx:Nat}{cN:D->Mem->Nat->Prop}
 (h:AW P noY true c (retQ P fn.results.toList fun d st=>cN d st.mem st.nx) ⟨envOf args,m,nx⟩):ACalls P f args m nx cN:=
 ⟨hf.he,fun F β w vs hm C hR=>(BE X hf.hf hf.hb hf.ao hn h (fun _ _ _ _ _ h=>h.elim) hm C hR).mono fun e w' ⟨v,d,st',β',h1,h2,h3,h4,h5,J,M,h8⟩=>⟨v,d,st'.mem,st'.nx,β',h1,h2,h4,h5,h3,J,M,h8⟩⟩
theorem abU(J:P.follows .mixedOrders=true){f:FuncId}{c:Code}(hf:na P f fn c){args:List D}(hn:Nat.ble args.length fn.ntmps=true)(ht:∀ a∈args,Tr a){r:D}(hr:Tr r)
 (h:AW P noY true c (retQ P fn.results.toList fun d _=>d=r) ⟨envOf args,fun _=>none,0⟩):PCall P f args r:=
 ⟨hf.he,ht,fun F w vs hF hR=>(BE J hf.hf hf.hb hf.ao hn h (fun _ _ _ _ _ h=>h.elim) (GD hF) (fun _ _=>rfl) hR).mono fun e w' hp=>by
  obtain⟨v,d,st',β',h1,rfl,h3,h4,h5,C,M,h8⟩:=hp
  exact⟨v,h1,hr.Cc h3,Gq C⟩⟩
theorem QT (m9:P.follows .mixedOrders=true){f:FuncId}{c:Code}(hf:na P f fn c){args:List D}(hn:Nat.ble args.length fn.ntmps=true)(ht:∀ a∈args,Tr a){es:List D}(lK:∀ a∈es,Tr a){k:Nat}{t:TypeId}
 (h:AW P noY true c (retQ P fn.results.toList fun d st=>∃ i,d=.rs i 0 k/\st.mem i=some (.cells es t)) ⟨envOf args,fun _=>none,0⟩):OCall P f args es k t:=
 ⟨hf.he,ht,fun F w vs hF hR=>(BE m9 hf.hf hf.hb hf.ao hn h (fun _ _ _ _ _ h=>h.elim) (GD hF) (fun _ _=>rfl) hR).mono fun e w' hp=>by
  obtain⟨v,d,st',β',h1,⟨i,rfl,hi⟩,h3,h4,h5,J,h7,h8⟩:=hp;obtain⟨p,hp,ax⟩:=h4.row i _ hi;refine⟨v,p,h1,?_,fun b hb=>⟨?_,h4.lt i p b hp hb⟩,?_,?_,Gq J⟩
  .rintro rfl;cases ax
  .rcases Nat.lt_or_ge b w.heap.size with ao|M
   .exact absurd hb ((J.imm b ao fun i p hp=>by cases hp).2 i p hp)
   .exact M
  .have lift:∀ d∈es,∀ u,R F β' w' d u->R (fun x=>F x\/p.blk=some x) noRows w' d u:=fun d hd u hu=>
    (lK d hd F β' w' u hu).lift fun b hb=>⟨fun e=>hb (by
     rcases e with e|e
     .exact .inl e
     .exact .inr fun nS=>nS i p hp e),fun i p hp=>by cases hp⟩
   cases ax with
   |nil _=>exact .nil _
   |cells _ _ b o room sz c q1 q2 q3 q4 q5=>
    refine .cells es t b o room sz c q1 q2 q3 q4 fun j d hd=>?_;obtain⟨u,u1,u2,u3⟩:=q5 j d hd;exact⟨u,u1,lift d (bU hd) u u2,u3⟩
  .cases h3 with
   |rsd _ _ _ _ C _=>rw[C] at hp;cases hp;cases ax
   |rsn _ a C=>rw[C] at hp;cases hp;exact .rsn 0 a (up_same _ _ _)
   |rsz _ _ a b o len room sz C=>rw[C] at hp;cases hp;exact .rsz 0 0 a b o len room sz (up_same _ _ _)
   |rs _ _ _ cap b o len room sz C X g2 g3 g4=>rw[C] at hp;cases hp;exact .rs 0 0 k cap b o len room sz (up_same _ _ _) X g2 g3 g4⟩
def V1(C:Nat)(xs:List (List D))(I:Nat->Mem->Nat->Prop)(Stop:Mem->Nat->Prop):YSpec:=fun l args m nx cN=>
 l=C/\∃ k,xs[k]? =some args/\I k m nx/\∀ d m' nx',SeqPost I Stop k d m' nx'->cN d m' nx'
theorem YCall.mono{β:Pla}{w:World}{l:Nat}{args:List D}{m:Mem}{nx:Nat}{K K':D->Mem->Nat->Prop}(hk:∀ d m nx,K d m nx->K' d m nx)(h:YCall P F β w l args m nx K):YCall P F β w l args m nx K':=
 fun β' w' us h1 h2 h3 h4=>by
  obtain⟨f,tmps,assign,body,C,J⟩:=h β' w' us h1 h2 h3 h4;exact⟨f,tmps,assign,body,C,fun n=>RoundIn.mono (F:=Fence.wide) (J n) fun e w' ⟨v,d,m',nx',β',M,X,q3⟩=>⟨v,d,m',nx',β',M,hk _ _ _ X,q3⟩⟩
theorem Lj(m9:P.follows .mixedOrders=true){f:FuncId}{c:Code}(hf:na P f fn c){fs cs:List D}(hn:Nat.ble (fs.length+1+cs.length) fn.ntmps=true){xs:List (List D)}
 (h:∀ (l:Nat) (I:Nat->Mem->Nat->Prop) (Stop:Mem->Nat->Prop) (m:Mem) (nx:Nat),(∀ k,Closed (I k))->Closed Stop->I 0 m nx->
  AW P (V1 l xs I Stop) true c (retQ P fn.results.toList fun _ st=>I xs.length st.mem st.nx\/Stop st.mem st.nx) ⟨envOf (fs++[.fn (.yield l) [] []]++cs),m,nx⟩):SeqA P f fs cs xs:=
 ⟨hf.he,fun F l I Stop m nx β w vs hI C hm J hR hy h0=>
  (BE m9 hf.hf hf.hb hf.ao (by simpa[Nat.add_assoc,Nat.add_comm,Nat.add_left_comm] using hn) (h l I Stop m nx hI C h0) (fun l' args m' nx' K hK=>by
   obtain⟨rfl,k,h1,h2,h3⟩:=hK
   exact(hy k args m' nx' h1 h2).mono h3) hm J hR).mono fun e w' ⟨v,d,st',β',h1,h2,h3,h4,h5,M,X,h8⟩=>⟨v,d,st'.mem,st'.nx,β',h1,h2,h4,h5,h3,M,X,h8⟩⟩
end
section
variable{P:Program}{Y:YSpec}{rf:Bool}{Q:Exit->St->Prop}{st:St}
theorem RN(c a b):AW P Y rf (.cond c a b) Q st=((opd st.env c).ask/\match (opd st.env c).core with
 | .s (.bool t)=>(t=true->AW P Y rf a Q st)/\(t=false->AW P Y rf b Q st)
 | .ub=>AW P Y rf a Q st/\AW P Y rf b Q st
 |_=>False):=rfl
theorem RO{b:Code}(I:St->Prop)(μ:St->Nat)(h0:I st)(h:∀ st',I st'->AW P Y rf b (seqQ (fun J=>∃ C,Ghost P J C/\I C/\μ C<μ st') Q) st'):AW P Y rf (.loop b) Q st:=⟨I,μ,h0,h⟩
theorem ACalls.mono{f:FuncId}{args:List D}{m:Mem}{nx:Nat}{cN C:D->Mem->Nat->Prop}(h:ACalls P f args m nx cN)(hp:∀ d m' nx',cN d m' nx'->C d m' nx'):ACalls P f args m nx C:=
 ⟨h.1,fun F β w vs hm hn hR=>(h.2 F β w vs hm hn hR).mono fun e w' ⟨v,d,m',nx',β',h1,h2,h3⟩=>⟨v,d,m',nx',β',h1,hp _ _ _ h2,h3⟩⟩
theorem CallOp.mono{dr:Bool}{f:FuncId}{args:List D}{K K':D->Mem->Nat->List Nat->List Nat->Prop}(hk:∀ d m nx rd wr,K d m nx rd wr->K' d m nx rd wr)(h:CallOp P dr st f args K):CallOp P dr st f args K':=by
 rcases h with⟨r,h1,h2⟩|⟨args',rds,r,h1,h2,h3,h4⟩|⟨es,n,t,h1,h2⟩|⟨h1,h2⟩|⟨r,ups,rds,h1,h2,h3⟩|⟨es,n,t,ups,rds,h1,h2,h3,h4⟩
 .exact .inl ⟨r,h1,hk _ _ _ _ _ h2⟩
 .exact .inr (.inl ⟨args',rds,r,h1,h2,h3,hk _ _ _ _ _ h4⟩)
 .exact .inr (.inr (.inl ⟨es,n,t,h1,hk _ _ _ _ _ h2⟩))
 .exact .inr (.inr (.inr (.inl ⟨h1,h2.mono fun d m nx h=>hk _ _ _ _ _ h⟩)))
 .exact .inr (.inr (.inr (.inr (.inl ⟨r,ups,rds,h1,h2,hk _ _ _ _ _ h3⟩))))
 .exact .inr (.inr (.inr (.inr (.inr ⟨es,n,t,ups,rds,h1,h2,h3,hk _ _ _ _ _ h4⟩))))
class eC(Y:YSpec):Prop where
 mono:∀ l args m nx K K',(∀ d m nx,K d m nx->K' d m nx)->Y l args m nx K->Y l args m nx K'
instance:eC noY:=⟨fun _ _ _ _ _ _ _ h=>h⟩
instance{l:Nat}{xs:List (List D)}{I:Nat->Mem->Nat->Prop}{Stop:Mem->Nat->Prop}:eC (V1 l xs I Stop):=⟨fun _ _ _ _ _ _ hk ⟨h1,k,h2,h3,h4⟩=>⟨h1,k,h2,h3,fun d m nx h=>hk _ _ _ (h4 d m nx h)⟩⟩
theorem AOp.mono[eC Y]{ops:Array Oper}{dr:Bool}{o:Oper}{K K':St->List Nat->List Nat->Prop}(hk:∀ st rd wr,K st rd wr->K' st rd wr)(h:AOp P Y ops dr o st K):AOp P Y ops dr o st K':=by
 unfold AOp at h ⊢;split at h
 .refine⟨h.1,?_⟩;have h:=h.2;split at h
  .exact h.mono fun _ _ _ _ _ h=>hk _ _ _ h
  .split at h
   .exact⟨h.1,eC.mono _ _ _ _ _ _ (fun _ _ _ h=>hk _ _ _ h) h.2⟩
   .split at h
    .exact⟨h.1,hk _ _ _ h.2⟩
    .exact h
 .split at h
  .exact h
  .split at h
   .rcases h with⟨r,h1,h2⟩|⟨h1,h2⟩
    .exact .inl ⟨r,h1,hk _ _ _ h2⟩
    .exact .inr ⟨fun hc=>⟨(h1 hc).1,(h1 hc).2.mono fun _ _ _ _ _ h=>hk _ _ _ h⟩,fun hc=>hk _ _ _ (h2 hc)⟩
   .split at h
    .exact⟨fun hc=>⟨(h.1 hc).1,(h.1 hc).2.1,eC.mono _ _ _ _ _ _ (fun _ _ _ h=>hk _ _ _ h) (h.1 hc).2.2⟩,fun hc=>hk _ _ _ (h.2 hc)⟩
    split at h
    .split at h
     .rename_i hc;rw[if_pos hc];exact⟨h.1,hk _ _ _ h.2⟩
     .rename_i hc;rw[if_neg hc];exact⟨fun hc=>⟨(h.1 hc).1,(h.1 hc).2.1,hk _ _ _ (h.1 hc).2.2⟩,fun hc=>hk _ _ _ (h.2 hc)⟩
    .exact⟨h.1,hk _ _ _ h.2⟩
theorem AOps.mono[eC Y]{ops:Array Oper}{dr:Bool}{cf:List (Nat×Nat)}{Q C:Exit->St->Prop}(hq:∀ st,Q .normal st->C .normal st):∀ (l:List Oper) (st:St) (tr:Tra),AOps P Y ops dr cf Q l st tr->AOps P Y ops dr cf C l st tr
 |[],st,tr,h=>⟨h.1,hq _ h.2⟩
 |o::l,st,tr,h=>AOp.mono (fun st' rd wr h=>AOps.mono hq l st' _ h) h
theorem wx:∀ (c:Code) {Y:YSpec} [eC Y] {rf:Bool} {Q C:Exit->St->Prop} {st:St},(∀ e st,Q e st->C e st)->AW P Y rf c Q st->AW P Y rf c C st:=by
 intro c
 induction c with
 |skip=>intro Y _ rf;exact fun hq h=>hq _ _ h
 |ret=>intro Y _ rf;exact fun hq h=>hq _ _ h
 |exit id=>intro Y _ rf;exact fun hq h=>hq _ _ h
 |region id ops draw=>
  intro Y _ rf Q C st hq h;cases draw with
  |false=>exact AOps.mono (hq .normal) _ _ _ h
  |true=>
   simp only[AW] at h ⊢;split at h
   .exact AOps.mono (hq .normal) _ _ _ h
   .exact h
 |seq a b J M=>
  intro Y _ rf Q C st hq h;refine J (fun e st' h=>?_) h;cases e with
  |normal=>obtain⟨X,hg,hb⟩:=h;exact⟨X,hg,M hq hb⟩
  |_=>exact hq _ _ h
 |cond c a b J M=>
  intro Y _ rf Q C st hq h;refine⟨h.1,?_⟩;have h:=h.2;split at h
  .exact⟨fun ht=>J hq (h.1 ht),fun ht=>M hq (h.2 ht)⟩
  .exact⟨J hq h.1,M hq h.2⟩
  .exact h
 |block id b ih=>
  intro Y _ rf Q C st hq h;refine ih (fun e st' h=>?_) h;cases e with
  |exit i=>
   simp only[blockQ] at h ⊢;split at h
   .rename_i hi;rw[if_pos hi];exact hq _ _ h
   .rename_i hi;rw[if_neg hi];exact hq _ _ h
  |_=>exact hq _ _ h
 |scope b ih=>
  intro Y _ rf Q C st hq h;refine ih (fun e st' h=>?_) h;cases e with
  |goto l=>exact h
  |_=>exact hq _ _ h
 |loop b ih=>
  intro Y _ rf Q C st hq h;obtain⟨I,μ,h0,h1⟩:=h;refine⟨I,μ,h0,fun st' hi=>ih (fun e X h=>?_) (h1 st' hi)⟩;cases e with
  |normal=>exact h
  |_=>exact hq _ _ h
 |label l=>intro Y _ rf;exact fun hq h=>hq _ _ h
 |rangeFunc g ps assign body J M=>
  intro Y _ rf Q C st hq h;obtain⟨Mx,qf,f,fs,cs,xs,I,Ca,H8,HK,IK,BY,iX⟩:=h;refine⟨Mx,qf,f,fs,cs,xs,I,Ca,H8,HK,IK,fun k m nx x hx hI=>J (fun e s h=>?_) (BY k m nx x hx hI),fun m nx h=>hq _ _ (iX m nx h)⟩;cases e with
  |normal=>
   refine M (fun e s h=>?_) h;cases e with
   |normal=>exact h
   |ret=>exact hq _ _ h
   |exit id=>exact hq _ _ h
   |_=>exact h
  |_=>exact h
 |_=>intro Y _ rf;exact fun _ h=>h.elim
theorem least{p:Nat->Prop}:∀ j,p j->∃ i,p i/\∀ k,p k->i<=k:=by
 intro j
 induction j using Nat.strongRecOn with
 |_ j ih=>
  intro hj;by_cases h:∃ k,k<j/\p k
  .obtain⟨k,hk,hp⟩:=h;exact ih k hk hp
  .exact⟨j,hj,fun k hk=>Nat.le_of_not_lt fun ao=>h ⟨k,ao,hk⟩⟩
open Classical in
theorem QY[eC Y]{b:Code}(J:Nat->St->Prop){j₀:Nat}(h0:J j₀ st)(h:∀ j st',J j st'->AW P Y rf b (seqQ (fun jT=>∃ M,Ghost P jT M/\∃ j',j'<j/\J j' M) Q) st'):AW P Y rf (.loop b) Q st:=by
 have C:∀ st,(∃ j,J j st)->∃ i,J i st/\∀ k,J k st->i<=k:=fun st ⟨j,hj⟩=>least j hj
 let μ:St->Nat:=fun st=>if h:∃ j,J j st then Classical.choose (C st h) else 0
 have hμ:∀ st,(hj:∃ j,J j st)->J (μ st) st/\∀ k,J k st->μ st<=k:=fun st hj=>by
  have:μ st=Classical.choose (C st hj):=by simp only[μ];rw[dif_pos hj]
  rw[this];exact Classical.choose_spec (C st hj)
 refine RO (fun st=>∃ j,J j st) μ ⟨j₀,h0⟩ fun st' hj=>wx b (fun e jT hq=>?_) (h (μ st') st' (hμ st' hj).1);cases e with
 |normal=>
  obtain⟨M,hg,j',ao,X⟩:=hq;exact⟨M,hg,⟨j',X⟩,Nat.lt_of_le_of_lt ((hμ M ⟨j',X⟩).2 j' X) ao⟩
 |_=>exact hq
end
section
variable{P:Program}{F:Nat->Prop}{β:Pla}{w:World}
theorem Tr.opt{c:Bool}{d:D}(h:Tr d):Tr (.opt c d):=fun F β w v hv=>by
 cases hv with
 |opt _ _ _ h1 h2=>exact .opt c d v (fun hc=>h F β w v (h1 hc)) h2
theorem Tr.agg{cs:List D}(h:∀ d∈cs,Tr d):Tr (.agg cs):=fun F β w v hv=>by
 obtain⟨vs,rfl,hl,C⟩:=hv.agg_inv;exact .agg cs vs hl fun k d u hd J=>h d (bU hd) F β w u (C k d u hd J)
theorem Tr.tup{cs:List D}(h:∀ d∈cs,Tr d):Tr (.tup cs):=fun F β w v hv=>by
 obtain⟨vs,rfl,hl,C⟩:=hv.tup_inv;exact .tup cs vs hl fun k d u hd J=>h d (bU hd) F β w u (C k d u hd J)
theorem Tr.sl{cs:List D}{n:Nat}(h:∀ d∈cs,Tr d):Tr (.sl cs n):=fun F β w v hv=>by
 cases hv with
 |sln a cap=>exact .sln a cap
 |sl _ _ b o cap us hf hb ao sD fV hc C=>
  exact .sl cs n b o cap us (fun e=>e.elim hf fun e=>e hb) (fun i p hp=>by cases hp) ao sD fV hc fun k d hd=>h d (bU hd) F β w _ (C k d hd)
theorem Tr.pt{cs:List D}(h:∀ d∈cs,Tr d):Tr (.pt cs):=fun F β w v hv=>by
 cases hv with
 |pt _ b o us hf hb ao hc C=>
  exact .pt cs b o us (fun e=>e.elim hf fun e=>e hb) (fun i p hp=>by cases hp) ao hc fun k d hd=>h d (bU hd) F β w _ (C k d hd)
theorem Tr.fn{f:Fn}{fs cs:List D}(h:∀ d∈fs,Tr d)(h':∀ d∈cs,Tr d):Tr (.fn f fs cs):=fun F β w v hv=>by
 cases hv with
 |fn _ _ _ us vs hl jX h1 h2=>
  exact .fn f fs cs us vs hl jX (fun k d u hd C=>h d (bU hd) F β w u (h1 k d u hd C)) fun k d u hd C=>h' d (bU hd) F β w u (h2 k d u hd C)
theorem Tr.im{es:List (Value×D)}(h:∀ x∈es,Tr x.2):Tr (.im es):=fun F β w v hv=>by
 cases hv with
 |im _ r ms clock hf hb hc hl cR hk C=>
  exact .im es r ms clock (fun e=>e.elim hf fun e=>e hb) (fun i p hp=>by cases hp) hc hl cR hk fun k x m hx hm=>h x (bU hx) F β w _ (C k x m hx hm)
theorem Tr.s(x:Value):Tr (.s x):=fun F β w v hv=>by
 obtain⟨rfl,h⟩:=hv.s_inv;exact .s _ h
theorem Tr.ub:Tr .ub:=fun F β w v hv=>by
 obtain⟨b,rfl⟩:=hv.ub_inv;exact .ub b
theorem Tr.u:Tr .u:=fun F β w v _=>.u v
theorem Tr.z:Tr .z:=fun F β w v hv=>by
 obtain⟨a,rfl⟩:=hv.z_inv;exact .z a
theorem Tr.nil:∀ a∈([]:List D),Tr a:=fun _ h=>by cases h
theorem Tr.cons{d:D}{l:List D}(h:Tr d)(hl:∀ a∈l,Tr a):∀ a∈d::l,Tr a:=fun a ha=>by
 cases ha with
 |head=>exact h
 |tail _ ha=>exact hl a ha
theorem Tr.map{α:Type}{f:α->D}{l:List α}(h:∀ x,Tr (f x)):∀ a∈l.map f,Tr a:=fun a ha=>by
 obtain⟨x,_,rfl⟩:=List.mem_map.1 ha;exact h x
theorem Tr.flat{α:Type}{f:α->List D}{l:List α}(h:∀ x,∀ a∈f x,Tr a):∀ a∈l.flatMap f,Tr a:=fun a ha=>by
 obtain⟨x,_,hx⟩:=List.mem_flatMap.1 ha;exact h x a hx
end
instance(d:D):Decidable d.ask:=match d with
 | .opt c _=>inferInstanceAs (Decidable (c=true))
 | .u | .s _ | .ub | .agg _ | .tup _ | .z | .sl _ _ | .pt _ | .rs _ _ _ | .rp _ _ | .mp _ | .im _ | .fn _ _ _=>isTrue trivial
structure fW where
 pre:Prop
 [dec:Decidable pre]
 val:D
 ups:List (Nat×Option Row):=[]
 rd:List Nat:=[]
 new:Nat:=0
structure PD(α:Type) where
 p:Prop
 [dec:Decidable p]
 d:α
def fW.ju(e:fW):Eff:=⟨e.pre,e.val,e.ups,e.rd,e.new⟩
def HN(op:BinOp)(x y:Value):Option (PD Value):=
 match op,x,y with
 | .shl,.int k a,.int _ b=>some ⟨0<=b,.int k (k.wrap (a*2 ^ (min b.toNat k.bits)))⟩
 | .shr,.int k a,.int _ b=>some ⟨0<=b,.int k (a.fdiv (2 ^ (min b.toNat k.bits)))⟩
 | .add,.int k a,.int k' b=>some ⟨k=k',.int k (k.wrap (a+b))⟩
 | .sub,.int k a,.int k' b=>some ⟨k=k',.int k (k.wrap (a - b))⟩
 | .mul,.int k a,.int k' b=>some ⟨k=k',.int k (k.wrap (a*b))⟩
 | .quo,.int k a,.int k' b=>some ⟨k=k'/\b≠0,.int k (k.wrap (a.tdiv b))⟩
 | .rem,.int k a,.int k' b=>some ⟨k=k'/\b≠0,.int k (a.tmod b)⟩
 | .and,.int k a,.int k' b=>some ⟨k=k',.int k (intBitsV .and k a b)⟩
 | .or,.int k a,.int k' b=>some ⟨k=k',.int k (intBitsV .or k a b)⟩
 | .xor,.int k a,.int k' b=>some ⟨k=k',.int k (intBitsV .xor k a b)⟩
 | .andNot,.int k a,.int k' b=>some ⟨k=k',.int k (intBitsV .andNot k a b)⟩
 | .eql,.int k a,.int k' b=>some ⟨k=k',.bool (a==b)⟩
 | .neq,.int k a,.int k' b=>some ⟨k=k',.bool (a !=b)⟩
 | .lss,.int k a,.int k' b=>some ⟨k=k',.bool (decide (a<b))⟩
 | .leq,.int k a,.int k' b=>some ⟨k=k',.bool (decide (a<=b))⟩
 | .gtr,.int k a,.int k' b=>some ⟨k=k',.bool (decide (b<a))⟩
 | .geq,.int k a,.int k' b=>some ⟨k=k',.bool (decide (b<=a))⟩
 | .eql,.string a,.string b=>some ⟨True,.bool (a.toList==b.toList)⟩
 | .neq,.string a,.string b=>some ⟨True,.bool !(a.toList==b.toList)⟩
 | .lss,.string a,.string b=>some ⟨True,.bool (Op.bytesLess a.toList b.toList)⟩
 | .geq,.string a,.string b=>some ⟨True,.bool !(Op.bytesLess a.toList b.toList)⟩
 |_,_,_=>none
def KK(P:Program)(op:BinOp)(t:TypeId)(xs ys:List D):Option (PD D):=
 match op,flatT P t,zipV xs ys with
 | .eql,some ks,some q=>some ⟨q.1.map kindV=ks/\P.eqGuardType P.depth t=false,.s (.bool (veqs q.1 q.2))⟩
 | .neq,some ks,some q=>some ⟨q.1.map kindV=ks/\P.eqGuardType P.depth t=false,.s (.bool !(veqs q.1 q.2))⟩
 |_,_,_=>none
def LV(P:Program)(op:BinOp)(t:TypeId)(x y:D):Option (PD D):=
 match x,y with
 | .s (.bool a),.s (.bool b)=>match op with
  | .eql=>some ⟨boT P t=true,.s (.bool (a==b))⟩
  | .neq=>some ⟨boT P t=true,.s (.bool !(a==b))⟩
  |_=>none
 | .s a,.s b=>(HN op a b).map fun r=> @PD.mk _ r.p r.dec (.s r.d)
 | .agg xs,.agg ys=>KK P op t xs ys
 |_,_=>none
def HO(P:Program)(m:Mem)(op:BinOp)(t:TypeId)(x:D)(y:Operand):Option fW:=
 match y,op,x with
 | .const (.slice none 0 0),.eql,.sl _ n=>some { pre:=slT P t=true,val:=if n=0 then .ub else .s (.bool false) }
 | .const (.pointer none),.eql,.rp i _=>match m i with
  |some _=>some { pre:=ptT P t=true,val:=.s (.bool false),rd:=[i] }
  |none=>none
 | .const (.pointer none),.neq,.rp i _=>match m i with
  |some _=>some { pre:=ptT P t=true,val:=.s (.bool true),rd:=[i] }
  |none=>none
 |_,_,_=>none
def LW(P:Program)(m:Mem)(t:TypeId):D->Option fW
 | .sl _ n=>some { pre:=slT P t=true,val:=.s (.int .i64 n) }
 | .rs i _ n=>match m i with
  |some _=>some { pre:=slT P t=true,val:=.s (.int .i64 n),rd:=[i] }
  |none=>none
 | .z=>some { pre:=slT P t=true,val:=.s (.int .i64 0) }
 | .s (.string b)=>some { pre:=stT P t=true,val:=.s (.int .i64 b.size) }
 | .agg _=>some { pre:=arT P t=true,val:=.s (.int .i64 (lenP P t)) }
 |_=>none
def Gt(m:Mem)(sz:Nat):D->Option (PD (List Nat×Nat×List D))
 | .sl es n=>some ⟨n*sz<=es.length,([],n,es.take (n*sz))⟩
 | .z=>some ⟨True,([],0,[])⟩
 | .rs i off n=>match m i with
  |some (.cells cs _)=>some ⟨off+n*sz<=cs.length,([i],n,(cs.drop off).take (n*sz))⟩
  |_=>none
 |_=>none
def Kd(P:Program)(m:Mem)(nx:Nat)(t:TypeId)(s x:D):Option fW:=
 let e:=elemP P t
 let sz:=P.cellsOf e
 match Gt m sz x with
 |none=>none
 |some (@PD.mk _ p _ (rd,k,news))=>
  match s with
  | .z=>some { pre:=slT P t=true/\p/\0<sz/\k<=maxLen/\k*P.bytesOf e<=140737488355328,val:=.rs nx 0 k,ups:=[(nx,some (.cells news e))],rd:=rd,new:=1 }
  | .rs i off n=>match m i with
   |some (.cells cs e')=>some { pre:=slT P t=true/\e'=e/\p/\0<sz/\off+n*sz=cs.length/\n+k<=maxLen/\(n+k)*P.bytesOf e<=140737488355328/\i∉rd,val:=.rs nx 0 (n+k),ups:=[(i,none),(nx,some (.cells (cs.drop off++news) e))],rd:=i::rd,new:=1 }
   |_=>none
  |_=>none
def Ke(P:Program)(m:Mem)(t:TypeId)(x k:D)(ok:Bool):Option fW:=match keyV k,x with
 |some key,.mp i=>match m i with
  |some (.map es)=>some { pre:=mapT P t=true/\keyP P (mkeyP P t) key=true/\es.all (fun e=>keyP P (mkeyP P t) e.1)=true,val:=gotD P t ok (lookD key es),rd:=[i] }
  |_=>none
 |some key,.im es=>some { pre:=mapT P t=true/\keyP P (mkeyP P t) key=true/\es.all (fun e=>keyP P (mkeyP P t) e.1)=true,val:=gotD P t ok (lookD key es) }
 |some key,.s (.map none)=>some { pre:=mapT P t=true/\keyP P (mkeyP P t) key=true,val:=gotD P t ok none }
 |_,_=>none
def G4(P:Program)(m:Mem)(t:TypeId)(x k v:D):Option fW:=match keyV k,x with
 |some key,.mp i=>match m i with
  |some (.map es)=>some { pre:=mapT P t=true/\keyP P (mkeyP P t) key=true/\es.all (fun e=>keyP P (mkeyP P t) e.1)=true,val:=.tup [],ups:=[(i,some (.map (putD key v es)))],rd:=[i] }
  |_=>none
 |_,_=>none
def Kf(P:Program)(m:Mem)(t:TypeId)(x k:D):Option fW:=match keyV k,x with
 |some key,.mp i=>match m i with
  |some (.map es)=>some { pre:=mapT P t=true/\keyP P (mkeyP P t) key=true/\es.all (fun e=>keyP P (mkeyP P t) e.1)=true,val:=.tup [],ups:=[(i,some (.map (delD key es)))],rd:=[i] }
  |_=>none
 |_,_=>none
def GF(P:Program)(m:Mem)(nx:Nat)(b:Builtin)(ts:Array TypeId)(args:List D):Option fW:=
 match b,args with
 | .len,[x]=>LW P m (ts.getD 0 0) x
 | .append,[s,x]=>if ts.getD 0 0=ts.getD 1 0 then Kd P m nx (ts.getD 0 0) s x else none
 | .min,[.s (.int k a),.s (.int k' b)]=>some { pre:=k=k',val:=.s (.int k (if b<a then b else a)) }
 | .clear,[.rs i off n]=>match m i with
  |some (.cells cs e)=>some { pre:=slT P (ts.getD 0 0)=true/\off+n*P.cellsOf e<=cs.length/\e=elemP P (ts.getD 0 0),val:=.tup [],ups:=[(i,some (.cells (splice cs off (replD n (zeroP P e))) e))],rd:=[i] }
  |_=>none
 | .delete,[x,k]=>Kf P m (ts.getD 0 0) x k
 |_,_=>none
def KL(P:Program)(m:Mem)(t:TypeId)(x:D)(lo hi C:Option D):Option fW:=
 match x with
 | .sl es n=>match bndD lo 0,bndD hi n,C with
  |some l,some h,none=>some { pre:=slT P t=true/\0<=l/\l<=h/\h<=n,val:=.sl ((es.drop (l.toNat*P.cellsOf (elemP P t))).take ((h - l).toNat*P.cellsOf (elemP P t))) (h - l).toNat }
  |some l,some h,some d=>match d.int? with
   |some k=>some { pre:=slT P t=true/\hi.isSome=true/\0<=l/\l<=h/\h<=k/\k<=n,val:=.sl ((es.drop (l.toNat*P.cellsOf (elemP P t))).take ((h - l).toNat*P.cellsOf (elemP P t))) (h - l).toNat }
   |none=>none
  |_,_,_=>none
 | .rs i off n=>match m i with
  |some (.cells _ e)=>match bndD lo 0,bndD hi n,C with
   |some l,some h,none=>some { pre:=(slT P t=true/\P.cellsOf e=P.cellsOf (elemP P t))/\0<=l/\l<=h/\h<=n,val:=.rs i (off+l.toNat*P.cellsOf (elemP P t)) (h - l).toNat,rd:=[i] }
   |_,_,_=>none
  |_=>none
 | .s (.string b)=>match bndD lo 0,bndD hi b.size,C with
  |some l,some h,none=>some { pre:=stT P t=true/\0<=l/\l<=h/\h<=b.size,val:=.s (.string (b.extract l.toNat h.toNat)) }
  |_,_,_=>none
 |_=>none
def kp(P:Program)(o:Op)(ρ:Operand->D)(m:Mem)(nx:Nat):Option fW:=
 match o with
 | .move x=>some { pre:=True,val:=ρ x }
 | .assign x=>some { pre:=True,val:=ρ x }
 | .pick c a b=>match (ρ c).core.bool? with
  |some t=>some { pre:=(t=true->(ρ a).ask/\(ρ a).core.bool?.isSome=true)/\(t=false->(ρ b).ask/\(ρ b).core.bool?.isSome=true),val:=.s (.bool (if t then(ρ a).core.bool?.getD false else(ρ b).core.bool?.getD false)) }
  |none=>none
 | .alloc t=>some { pre:=tyOk P t=true,val:=.rp nx 0,ups:=[(nx,some (.cells (zeroP P t) t))],new:=1 }
 | .box t x=>some { pre:=(ρ x).cells.all D.one=true,val:=.rp nx 0,ups:=[(nx,some (.cells (ρ x).cells t))],new:=1 }
 | .build t ps=>match P.underlying t with
  |some (.struct fs)=>(fillD (fun i=>(fs[i]?).map fun f=>(f.offset,P.cellsOf f.type)) (zeroP P t) (ps.toList.map fun q=>(q.1,ρ q.2))).map fun cs=>{ pre:=tyOk P t=true/\fs.toList.all (fun f=>(P.info? f.type).isSome)=true,val:=.agg cs }
  |some (.array _ e)=>(fillD (fun i=>some (i*P.cellsOf e,P.cellsOf e)) (zeroP P t) (ps.toList.map fun q=>(q.1,ρ q.2))).map fun cs=>{ pre:=tyOk P t=true/\tyOk P e=true,val:=.agg cs }
  |_=>none
 | .buildSlice t n ps=>(fillD (fun i=>some (i*P.cellsOf (elemP P t),P.cellsOf (elemP P t))) (replD n (zeroP P (elemP P t))) (ps.toList.map fun q=>(q.1,ρ q.2))).map fun cs=>
   { pre:=cs.all D.one=true/\n*P.cellsOf (elemP P t)<=2 ^ 24/\slT P t=true/\n<=maxLen,val:=.rs nx 0 n,ups:=[(nx,some (.cells cs (elemP P t)))],new:=1 }
 | .load t a=>match ρ a with
  | .pt cs=>some { pre:=tyOk P t=true/\P.cellsOf t<=cs.length,val:=takeV P t cs }
  | .rp i off=>match m i with
   |some (.cells cs _)=>some { pre:=tyOk P t=true/\off+P.cellsOf t<=cs.length,val:=takeV P t (cs.drop off),rd:=[i] }
   |_=>none
  |_=>none
 | .store t a x=>match ρ a with
  | .rp i off=>match m i with
   |some (.cells cs e)=>some { pre:=tyOk P t=true/\(ρ x).cells.length=P.cellsOf t/\off+P.cellsOf t<=cs.length/\(ρ x).cells.all D.one=true,val:=.tup [],ups:=[(i,some (.cells (splice cs off (ρ x).cells) e))],rd:=[i] }
   |_=>none
  |_=>none
 | .nilCheck x=>match ρ x with
  | .pt cs=>some { pre:=True,val:=.pt cs }
  | .rp i off=>match m i with
   |some _=>some { pre:=True,val:=.rp i off,rd:=[i] }
   |none=>none
  |_=>none
 | .binOp op t x y _=>match HO P m op t (ρ x) y with
  |some e=>some e
  |none=>(LV P op t (ρ x) (ρ y)).map fun r=> @fW.mk r.p r.dec r.d [] [] 0
 | .unOp op _ x=>match ρ x with
  | .s v=>(unV op v).map fun r=>{ pre:=True,val:=.s r }
  |_=>none
 | .convert src dst x=>match P.underlying dst,ρ x with
  |some (.int k),.s (.int _ n)=>some { pre:=tyOk P src=true,val:=.s (.int k (k.wrap n)) }
  |some (.slice e),.s (.string b)=>match P.underlying e with
   |some (.int .u8)=>some { pre:=stT P src=true/\b.size<=maxLen,val:=.sl (b.data.toList.map fun c=>.s (.int .u8 c.toNat)) b.size }
   |_=>none
  |_,_=>none
 | .makeFunc f fs cs=>some { pre:=True,val:=.fn f (fs.toList.map ρ) (cs.toList.map ρ) }
 | .makeMap _ r=>match r with
  |none=>some { pre:=True,val:=.mp nx,ups:=[(nx,some (.map []))],new:=1 }
  |some _=>none
 | .makeSlice t l c=>match ρ l,ρ c with
  | .s (.int .i64 n),.s (.int .i64 k)=>some { pre:=0<=n/\n=k/\n<=9223372036854775807/\P.bytesOf (elemP P t)*n<=281474976710656/\slT P t=true,val:=.rs nx 0 n.toNat,ups:=[(nx,some (.cells (replD n.toNat (zeroP P (elemP P t))) (elemP P t)))],new:=1 }
  |_,_=>none
 | .lookup t x k ok=>Ke P m t (ρ x) (ρ k) ok
 | .mapUpdate t x k v=>G4 P m t (ρ x) (ρ k) (ρ v)
 | .insert t x k v=>G4 P m t (ρ x) (ρ k) (ρ v)
 | .slice t x lo hi C=>KL P m t (ρ x) (lo.map ρ) (hi.map ρ) (C.map ρ)
 | .fieldAddr t x k=>match fieldP P t k,ρ x with
  |some (off,ft),.pt cs=>some { pre:=0<P.cellsOf ft,val:=.pt (cs.drop off) }
  |some (off,ft),.rp i o=>match m i with
   |some _=>some { pre:=0<P.cellsOf ft,val:=.rp i (o+off),rd:=[i] }
   |none=>none
  |_,_=>none
 | .field t x k=>match fieldP P t k,ρ x with
  |some (off,ft),.agg cs=>some { pre:=tyOk P ft=true/\off+P.cellsOf ft<=cs.length,val:=takeV P ft (cs.drop off) }
  |_,_=>none
 | .indexAddr t x i=>match ρ x,ρ i with
  | .sl es n,.s (.int _ k)=>some { pre:=slT P t=true/\0<=k/\k<n/\(k.toNat+1)*P.cellsOf (elemP P t)<=es.length,val:=.pt (es.drop (k.toNat*P.cellsOf (elemP P t))) }
  | .rs j off n,.s (.int _ k)=>match m j with
   |some _=>some { pre:=slT P t=true/\0<=k/\k<n,val:=.rp j (off+k.toNat*P.cellsOf (elemP P t)),rd:=[j] }
   |none=>none
  | .rp j off,.s (.int _ k)=>match m j with
   |some _=>some { pre:=arT P t=true/\0<=k/\k<lenP P t,val:=.rp j (off+k.toNat*P.cellsOf (elemP P t)),rd:=[j] }
   |none=>none
  |_,_=>none
 | .index t x i=>match ρ x,ρ i with
  | .s (.string b),.s (.int _ k)=>some { pre:=stT P t=true/\0<=k/\k<b.size,val:=.s (.int .u8 (b.data.toList.getD k.toNat 0).toNat) }
  | .agg cs,.s (.int _ k)=>some { pre:=arT P t=true/\0<=k/\k<lenP P t/\(k.toNat+1)*P.cellsOf (elemP P t)<=cs.length,val:=takeV P (elemP P t) (cs.drop (k.toNat*P.cellsOf (elemP P t))) }
  |_,_=>none
 | .extract x k=>match ρ x with
  | .tup cs=>some { pre:=k<cs.length,val:=cs.getD k .u }
  |_=>none
 | .call c=>match c.callee with
  | .builtin b=>if c.argTypes.size=c.args.size then GF P m nx b c.argTypes (c.args.toList.map ρ) else none
  |_=>none
 |_=>none
theorem abV(op:BinOp)(x y:Value):binV op x y=(HN op x y).map fun r=>(r.p,r.d):=by
 cases op<;>cases x<;>first|rfl|(cases y<;>rfl)
theorem ZI(P:Program)(op:BinOp)(t:TypeId)(xs ys:List D):aggEqD P op t xs ys=(KK P op t xs ys).map fun r=>(r.p,r.d):=by
 unfold aggEqD KK;cases op<;>first|rfl|skip
 all_goals cases flatT P t<;>first|rfl|skip
 all_goals cases zipV xs ys<;>rfl
theorem abW(P:Program)(op:BinOp)(t:TypeId)(x y:D):binD P op t x y=(LV P op t x y).map fun r=>(r.p,r.d):=by
 have hs:∀ a b,(binV op a b).map (fun r=>(r.1,D.s r.2))=((HN op a b).map fun r=> @PD.mk _ r.p r.dec (D.s r.d)).map fun r=>(r.p,r.d):=fun a b=>by
  rw[abV];cases HN op a b<;>rfl
 cases x with
 |s a=>
  cases y with
  |s b=>
   cases a with
   |bool a=>
    cases b with
    |bool b=>cases op<;>rfl
    |_=>exact hs _ _
   |_=>exact hs _ _
  |_=>cases a<;>rfl
 |agg xs=>
  cases y with
  |agg ys=>exact ZI P op t xs ys
  |_=>rfl
 |_=>rfl
theorem abX(P:Program)(m:Mem)(op:BinOp)(t:TypeId)(x:D)(y:Operand):nilD P m op t x y=(HO P m op t x y).map fW.ju:=by
 unfold nilD HO;split<;>split<;>simp_all[fW.ju]
 all_goals split<;>simp_all[fW.ju]
theorem abY(P:Program)(m:Mem)(t:TypeId)(x:D):lenD P m t x=(LW P m t x).map fW.ju:=by
 unfold lenD LW;split<;>first|rfl|skip
 all_goals split<;>simp_all[fW.ju]
theorem Y8(m:Mem)(sz:Nat)(x:D):sliceCells m sz x=(Gt m sz x).map fun r=>(r.p,r.d):=by
 unfold sliceCells Gt;split<;>first|rfl|skip
 all_goals split<;>simp_all
theorem Zu(P:Program)(m:Mem)(nx:Nat)(t:TypeId)(s x:D):appendD P m nx t s x=(Kd P m nx t s x).map fW.ju:=by
 unfold appendD Kd;simp only[Y8];cases Gt m (P.cellsOf (elemP P t)) x with
 |none=>rfl
 |some r=>
  obtain⟨p,rd,k,news⟩:=r;simp only[Option.map_some];split<;>first|rfl|skip
  all_goals split<;>simp_all[fW.ju]
theorem Zv(P:Program)(m:Mem)(t:TypeId)(x k:D)(ok:Bool):lookupD P m t x k ok=(Ke P m t x k ok).map fW.ju:=by
 unfold lookupD Ke;split<;>first|rfl|skip
 all_goals split<;>simp_all[fW.ju]
theorem Po(P:Program)(m:Mem)(t:TypeId)(x k v:D):mapPutD P m t x k v=(G4 P m t x k v).map fW.ju:=by
 unfold mapPutD G4;split<;>first|rfl|skip
 all_goals split<;>simp_all[fW.ju]
theorem Zw(P:Program)(m:Mem)(t:TypeId)(x k:D):mapDelD P m t x k=(Kf P m t x k).map fW.ju:=by
 unfold mapDelD Kf;split<;>first|rfl|skip
 all_goals split<;>simp_all[fW.ju]
theorem Zg(P:Program)(m:Mem)(nx:Nat)(b:Builtin)(ts:Array TypeId)(args:List D):builtinD P m nx b ts args=(GF P m nx b ts args).map fW.ju:=by
 cases b with
 |len=>
  match args with
  |[]=>rfl
  |[x]=>exact abY _ _ _ _
  |_::_::_=>rfl
 |append=>
  match args with
  |[]=>rfl
  |[x]=>rfl
  |[s,x]=>
   simp only[builtinD,GF];split
   .exact Zu _ _ _ _ _ _
   .rfl
  |_::_::_::_=>rfl
 |min=>
  match args with
  |[]=>rfl
  |[x]=>
   cases x with
   |s a=>cases a<;>rfl
   |_=>rfl
  |[x,y]=>
   cases x with
   |s a=>
    cases a with
    |int k a=>
     cases y with
     |s b=>cases b<;>rfl
     |_=>rfl
    |_=>rfl
   |_=>rfl
  |x::y::_::_=>
   cases x with
   |s a=>
    cases a with
    |int k a=>
     cases y with
     |s b=>cases b<;>rfl
     |_=>rfl
    |_=>rfl
   |_=>rfl
 |clear=>
  match args with
  |[]=>rfl
  |[x]=>
   cases x with
   |rs i off n=>
    simp only[builtinD,GF];cases m i with
    |none=>rfl
    |some r=>cases r<;>rfl
   |_=>rfl
  |x::_::_=>cases x<;>rfl
 |delete=>
  match args with
  |[]=>rfl
  |[x]=>rfl
  |[x,k]=>exact Zw _ _ _ _ _
  |_::_::_::_=>rfl
 |_=>rfl
theorem ZJ(P:Program)(m:Mem)(t:TypeId)(x:D)(lo hi C:Option D):sliceD P m t x lo hi C=(KL P m t x lo hi C).map fW.ju:=by
 unfold sliceD KL;cases x with
 |sl es n=>
  simp only;cases bndD lo 0<;>first|rfl|skip
  cases bndD hi n<;>first|rfl|skip
  cases C with
  |none=>rfl
  |some d=>
   simp only;cases d.int? <;>rfl
 |rs i off n=>
  simp only;cases m i with
  |none=>rfl
  |some r=>
   cases r<;>first|rfl|skip
   simp only;cases bndD lo 0<;>first|rfl|skip
   cases bndD hi n<;>first|rfl|skip
   cases C<;>rfl
 |s v=>
  cases v<;>first|rfl|skip
  simp only;cases bndD lo 0<;>first|rfl|skip
  rename_i b _;cases bndD hi b.size<;>first|rfl|skip
  cases C<;>rfl
 |_=>rfl
theorem RK(P:Program)(o:Op)(ρ:Operand->D)(m:Mem)(nx:Nat):aop P o ρ m nx=(kp P o ρ m nx).map fW.ju:=by
 cases o with
 |call c=>
  simp only[aop,kp];cases c.callee with
  |builtin b=>
   simp only;split
   .exact Zg _ _ _ _ _ _
   .rfl
  |_=>rfl
 |binOp op t x y _=>
  simp only[aop,kp,abX,abW];cases HO P m op t (ρ x) y with
  |some e=>rfl
  |none=>
   cases LV P op t (ρ x) (ρ y) with
   |some r=>rfl
   |none=>rfl
 |lookup t x k ok=>exact Zv _ _ _ _ _ _
 |mapUpdate t x k v=>exact Po _ _ _ _ _ _
 |insert t x k v=>exact Po _ _ _ _ _ _
 |slice t x lo hi J=>exact ZJ _ _ _ _ _ _ _
 |build t ps=>
  simp only[aop,kp];cases P.underlying t with
  |none=>rfl
  |some u=>
   cases u with
   |struct fs=>simp only;cases fillD _ _ _<;>rfl
   |array n e=>simp only;cases fillD _ _ _<;>rfl
   |_=>rfl
 |buildSlice t n ps=>
  simp only[aop,kp];cases fillD _ _ _<;>rfl
 |unOp op t x=>
  simp only[aop,kp];cases ρ x with
  |s v=>simp only;cases unV op v<;>rfl
  |_=>rfl
 |load t a=>
  simp only[aop,kp];cases ρ a with
  |rp i off=>simp only;cases m i with
   |none=>rfl
   |some r=>cases r<;>rfl
  |_=>rfl
 |store t a x=>
  simp only[aop,kp];cases ρ a with
  |rp i off=>simp only;cases m i with
   |none=>rfl
   |some r=>cases r<;>rfl
  |_=>rfl
 |pick c a b=>
  simp only[aop,kp];cases (ρ c).core.bool? <;>rfl
 |nilCheck x=>
  simp only[aop,kp];cases ρ x with
  |rp i off=>simp only;cases m i<;>rfl
  |_=>rfl
 |makeMap t r=>cases r<;>rfl
 |makeSlice t l c=>
  simp only[aop,kp];cases ρ l with
  |s v=>
   cases v with
   |int k n=>
    cases k with
    |i64=>
     cases ρ c with
     |s v=>cases v with
      |int k n=>cases k<;>rfl
      |_=>rfl
     |_=>rfl
    |_=>rfl
   |_=>rfl
  |_=>rfl
 |convert src dst x=>
  simp only[aop,kp];cases P.underlying dst with
  |none=>rfl
  |some u=>
   cases u with
   |int k=>cases ρ x with
    |s v=>cases v<;>rfl
    |_=>rfl
   |slice e=>cases ρ x with
    |s v=>cases v with
     |string b=>
      simp only;cases P.underlying e with
      |none=>rfl
      |some u=>
       cases u with
       |int k=>cases k<;>rfl
       |_=>rfl
     |_=>rfl
    |_=>rfl
   |_=>rfl
 |fieldAddr t x k=>
  simp only[aop,kp];cases fieldP P t k with
  |none=>rfl
  |some q=>
   obtain⟨off,C⟩:=q;cases ρ x with
   |rp i o=>simp only;cases m i<;>rfl
   |_=>rfl
 |field t x k=>
  simp only[aop,kp];cases fieldP P t k with
  |none=>rfl
  |some q=>
   obtain⟨off,C⟩:=q;cases ρ x<;>rfl
 |indexAddr t x i=>
  simp only[aop,kp];cases ρ x with
  |sl es n=>cases ρ i with
   |s v=>cases v<;>rfl
   |_=>rfl
  |rs j off n=>cases ρ i with
   |s v=>cases v with
    |int k n=>simp only;cases m j<;>rfl
    |_=>rfl
   |_=>rfl
  |rp j off=>cases ρ i with
   |s v=>cases v with
    |int k n=>simp only;cases m j<;>rfl
    |_=>rfl
   |_=>rfl
  |_=>rfl
 |index t x i=>
  simp only[aop,kp];cases ρ x with
  |s v=>cases v with
   |string b=>cases ρ i with
    |s v=>cases v<;>rfl
    |_=>rfl
   |_=>rfl
  |agg cs=>cases ρ i with
   |s v=>cases v<;>rfl
   |_=>rfl
  |_=>rfl
 |extract x k=>
  simp only[aop,kp];cases ρ x<;>rfl
 |_=>rfl
inductive T(α:Type) where
 |leaf
 |node (v:Option α) (l r:T α)
def T.get{α:Type}:T α->Nat->Option α
 | .leaf,_=>none
 | .node v l r,i=>bif Nat.beq i 0 then v else bif Nat.beq (i % 2) 1 then l.get (i / 2) else r.get (i / 2 - 1)
def T.set{α:Type}:Nat->T α->Nat->Option α->T α
 |0,t,_,_=>t
 |f+1,.leaf,i,v=>bif Nat.beq i 0 then .node v .leaf .leaf else bif Nat.beq (i % 2) 1 then .node none (T.set f .leaf (i / 2) v) .leaf else .node none .leaf (T.set f .leaf (i / 2 - 1) v)
 |f+1,.node v0 l r,i,v=>bif Nat.beq i 0 then .node v l r else bif Nat.beq (i % 2) 1 then .node v0 (T.set f l (i / 2) v) r else .node v0 l (T.set f r (i / 2 - 1) v)
theorem T.wo{α:Type}(v:Option α)(l r:T α)(i:Nat):(T.node v l r).get i=if i=0 then v else if i % 2=1 then l.get (i / 2) else r.get (i / 2 - 1):=by
 simp only[T.get,Bool.cond_eq_ite,Nat.beq_eq]
theorem T.DR{α:Type}(v:Option α):∀ (f:Nat) (t:T α) (i j:Nat),i+1<2 ^ f->(T.set f t i v).get j=if j=i then v else t.get j
 |0,t,i,j,h=>by simp at h
 |f+1,t,i,j,h=>by
  have h2:2 ^ (f+1)=2*2 ^ f:=by rw[Nat.pow_succ];omega
  have X:i % 2=1->i / 2+1<2 ^ f:=fun _=>by omega
  have kD:i≠0->i % 2≠1->i / 2 - 1+1<2 ^ f:=fun _ _=>by omega
  have M:∀ k,(T.leaf:T α).get k=none:=fun k=>rfl;cases t with
  |leaf=>
   simp only[T.set,Bool.cond_eq_ite,Nat.beq_eq];by_cases h0:i=0
   .subst h0;simp only[if_true,T.wo,M];by_cases hj:j=0<;>simp[hj]
   .rw[if_neg h0];by_cases h1:i % 2=1
    .rw[if_pos h1,T.wo,T.DR v f _ _ _ (X h1)];simp only[M];by_cases hj:j=i
     .subst hj;simp[h0,h1]
     .rw[if_neg hj];by_cases C:j=0
      .rw[if_pos C]
      .rw[if_neg C];by_cases J:j % 2=1
       .rw[if_pos J,if_neg oG]
       .rw[if_neg J]
    .rw[if_neg h1,T.wo,T.DR v f _ _ _ (kD h0 h1)];simp only[M];by_cases hj:j=i
     .subst hj;simp[h0,h1]
     .rw[if_neg hj];by_cases C:j=0
      .rw[if_pos C]
      .rw[if_neg C];by_cases J:j % 2=1
       .rw[if_pos J]
       .rw[if_neg J,if_neg oG]
  |node v0 l r=>
   simp only[T.set,Bool.cond_eq_ite,Nat.beq_eq];by_cases h0:i=0
   .subst h0;simp only[if_true,T.wo];by_cases hj:j=0<;>simp[hj]
   .rw[if_neg h0];by_cases h1:i % 2=1
    .rw[if_pos h1,T.wo,T.wo,T.DR v f _ _ _ (X h1)];by_cases hj:j=i
     .subst hj;simp[h0,h1]
     .rw[if_neg hj];by_cases C:j=0
      .rw[if_pos C,if_pos C]
      .rw[if_neg C,if_neg C];by_cases J:j % 2=1
       .rw[if_pos J,if_pos J,if_neg oG]
       .rw[if_neg J,if_neg J]
    .rw[if_neg h1,T.wo,T.wo,T.DR v f _ _ _ (kD h0 h1)];by_cases hj:j=i
     .subst hj;simp[h0,h1]
     .rw[if_neg hj];by_cases C:j=0
      .rw[if_pos C,if_pos C]
      .rw[if_neg C,if_neg C];by_cases J:j % 2=1
       .rw[if_pos J,if_pos J]
       .rw[if_neg J,if_neg J,if_neg oG]
def T.put{α:Type}(t:T α)(i:Nat)(v:Option α):Option (T α):=bif Nat.blt i 1000000 then some (T.set 20 t i v) else none
theorem T.RL{α:Type}{t C:T α}{i:Nat}{v:Option α}(h:t.put i v=some C)(j:Nat):C.get j=if j=i then v else t.get j:=by
 unfold T.put at h;cases hb:Nat.blt i 1000000 with
 |false=>rw[hb] at h;cases h
 |true=>
  rw[hb] at h;simp only[cond_true,aV] at h;subst h;have:i<1000000:=by simpa using hb
  exact T.DR v 20 t i j oG
structure cB where
 env:T D
 mem:T Row
 nx:Nat
def dO(t:T D):Env:=fun i=>(t.get i).getD .u
def fE(t:T Row):Mem:=fun i=>t.get i
def cB.st(c:cB):St:=⟨dO c.env,fE c.mem,c.nx⟩
theorem Kg{t C:T D}{i:Nat}{d:D}(h:t.put i (some d)=some C):dO C=up (dO t) i d:=by
 funext j;simp only[dO,T.RL h,up_apply];split<;>rfl
theorem QU{t C:T Row}{i:Nat}{r:Option Row}(h:t.put i r=some C):fE C=up (fE t) i r:=by
 funext j;simp only[fE,T.RL h,up_apply]
def Cu(t:T D):Option Nat->D->Option (T D)
 |none,_=>some t
 |some i,d=>t.put i (some d)
def EZ(m:T Row):List (Nat×Option Row)->Option (T Row)
 |[]=>some m
 |(i,r)::us=>match m.put i r with
  |some m'=>EZ m' us
  |none=>none
theorem KM{t C:T D}{dst:Option Nat}{d:D}(h:Cu t dst d=some C)(m:Mem)(nx:Nat):(⟨dO C,m,nx⟩:St)=St.put ⟨dO t,m,nx⟩ dst d:=by
 cases dst with
 |none=>simp only[Cu,aV] at h;subst h;rfl
 |some i=>simp only[Cu] at h;simp only[St.put,Kg h]
theorem QV:∀ {us:List (Nat×Option Row)} {m m':T Row},EZ m us=some m'->fE m'=upds (fE m) us
 |[],m,m',h=>by simp only[EZ,aV] at h;subst h;rfl
 |(i,r)::us,m,m',h=>by
  simp only[EZ] at h;cases hp:m.put i r with
  |none=>rw[hp] at h;cases h
  |some m1=>
   rw[hp] at h;simp only at h;rw[QV h,QU hp];rfl
def rF:Nat->D->Bool
 |0,_=>false
 |n+1,d=>match d with
  | .rs .. | .rp .. | .mp _=>false
  | .opt _ d=>rF n d
  | .agg cs | .tup cs | .pt cs | .sl cs _=>cs.all (rF n)
  | .fn _ fs cs=>fs.all (rF n)&&cs.all (rF n)
  | .im es=>es.all fun x=>rF n x.2
  |_=>true
section
variable{P:Program}{F:Nat->Prop}{β:Pla}{w:World}
theorem qQ:∀ {n:Nat} {d:D},rF n d=true->Tr d
 |0,_,h=>by cases h
 |n+1,d,h=>by
  cases d with
  |rs=>cases h
  |rp=>cases h
  |mp=>cases h
  |opt c d=>exact .opt (qQ h)
  |agg cs=>exact .agg fun d hd=>qQ (bj.1 h d hd)
  |tup cs=>exact .tup fun d hd=>qQ (bj.1 h d hd)
  |sl cs n=>exact .sl fun d hd=>qQ (bj.1 h d hd)
  |pt cs=>exact .pt fun d hd=>qQ (bj.1 h d hd)
  |fn f fs cs=>
   simp only[rF,aM] at h;exact .fn (fun d hd=>qQ (bj.1 h.1 d hd)) fun d hd=>qQ (bj.1 h.2 d hd)
  |im es=>exact .im fun x hx=>qQ (bj.1 h x hx)
  |s v=>exact .s v
  |ub=>exact .ub
  |u=>exact .u
  |z=>exact .z
def jr{α β:Type}(f:α->Option (β×List Nat)):List α->Option (List β×List Nat)
 |[]=>some ([],[])
 |x::xs=>match f x with
  |none=>none
  |some y=>match jr f xs with
   |none=>none
   |some ys=>some (y.1::ys.1,y.2++ys.2)
theorem GG{α β:Type}{f:α->Option (β×List Nat)}:∀ {xs:List α} {ys:List β} {r:List Nat},jr f xs=some (ys,r)->
 ys.length=xs.length/\(∀ (k:Nat) (y:β),ys[k]? =some y->∃ x r',xs[k]? =some x/\f x=some (y,r')/\∀ i∈r',i∈r)
 |[],ys,r,h=>by simp only[jr,aV,bQ] at h;obtain⟨rfl,rfl⟩:=h;simp
 |x::xs,ys,r,h=>by
  simp only[jr] at h;cases hx:f x with
  |none=>rw[hx] at h;cases h
  |some y=>
   rw[hx] at h;simp only at h;cases J:jr f xs with
   |none=>rw[J] at h;cases h
   |some M=>
    rw[J] at h;simp only[aV,bQ] at h;obtain⟨rfl,rfl⟩:=h;obtain⟨h1,h2⟩:=GG (ys:=M.1) (r:=M.2) J;refine⟨by simp[h1],fun k z C=>?_⟩;cases k with
    |zero=>
     simp only[List.getElem?_cons_zero,aV] at C;subst C;exact⟨x,y.2,rfl,hx,fun i hi=>by simp[hi]⟩
    |succ k=>
     obtain⟨x',r',X,g2,g3⟩:=h2 k z (by simpa using C);exact⟨x',r',by simpa using X,g2,fun i hi=>by simp[g3 i hi]⟩
def cT(P:Program)(m:Mem):Nat->D->Option (D×List Nat)
 |0,_=>none
 |n+1,d=>match d with
  | .mp i=>match m i with
   |some (.map es)=>(jr (fun x=>(cT P m n x.2).map fun y=>((x.1,y.1),y.2)) es).map fun x=>(.im x.1,i::x.2)
   |_=>none
  | .im es=>(jr (fun x=>(cT P m n x.2).map fun y=>((x.1,y.1),y.2)) es).map fun x=>(.im x.1,x.2)
  | .rs i off k=>match m i with
   |some (.cells cs e)=>(jr (cT P m n) ((cs.drop off).take (k*P.cellsOf e))).map fun x=>(.sl x.1 k,i::x.2)
   |_=>none
  | .rp i off=>match m i with
   |some (.cells cs _)=>(jr (cT P m n) (cs.drop off)).map fun x=>(.pt x.1,i::x.2)
   |_=>none
  | .opt true d=>(cT P m n d).map fun x=>(.opt true x.1,x.2)
  | .opt false _=>some (.opt false .u,[])
  | .agg cs=>(jr (cT P m n) cs).map fun x=>(.agg x.1,x.2)
  | .tup cs=>(jr (cT P m n) cs).map fun x=>(.tup x.1,x.2)
  | .sl cs k=>(jr (cT P m n) cs).map fun x=>(.sl x.1 k,x.2)
  | .pt cs=>(jr (cT P m n) cs).map fun x=>(.pt x.1,x.2)
  | .fn f fs cs=>match jr (cT P m n) fs with
   |none=>none
   |some x=>(jr (cT P m n) cs).map fun y=>(.fn f x.1 y.1,x.2++y.2)
  | .s v=>some (.s v,[])
  | .ub=>some (.ub,[])
  | .u=>some (.u,[])
  | .z=>some (.z,[])
theorem tf{α β:Type}{f:α->Option (β×List Nat)}{xs:List α}{ys:List β}{r:List Nat}(h:jr f xs=some (ys,r)){p:β->Prop}(hp:∀ x y r',f x=some (y,r')->p y):∀ y∈ys,p y:=fun y hy=>by
 obtain⟨k,hk⟩:=cC hy;obtain⟨x,r',_,h2,_⟩:=(GG h).2 k y hk;exact hp x y r' h2
theorem Hk{m:Mem}:∀ {n:Nat} {d d':D} {r:List Nat},cT P m n d=some (d',r)->Tr d'
 |0,_,_,_,h=>by cases h
 |n+1,d,d',r,h=>by
  have ih:∀ x y r',cT P m n x=some (y,r')->Tr y:=fun x y r' h=>Hk h
  have C:∀ (x:Value×D) (y:Value×D) r',(cT P m n x.2).map (fun y=>((x.1,y.1),y.2))=some (y,r')->Tr y.2:=fun x y r' h=>by
   simp only[dx,bQ] at h;obtain⟨z,J,rfl,_⟩:=h;exact Hk (r:=z.2) J
  cases d with
  |mp i=>
   simp only[cT] at h;split at h
   .simp only[dx,bQ] at h;obtain⟨x,hx,rfl,_⟩:=h;exact .im (tf (ys:=x.1) (r:=x.2) hx C)
   .cases h
  |im es=>
   simp only[cT,dx,bQ] at h;obtain⟨x,hx,rfl,_⟩:=h;exact .im (tf (ys:=x.1) (r:=x.2) hx C)
  |rs i off k=>
   simp only[cT] at h;split at h
   .simp only[dx,bQ] at h;obtain⟨x,hx,rfl,_⟩:=h;exact .sl (tf (ys:=x.1) (r:=x.2) hx ih)
   .cases h
  |rp i off=>
   simp only[cT] at h;split at h
   .simp only[dx,bQ] at h;obtain⟨x,hx,rfl,_⟩:=h;exact .pt (tf (ys:=x.1) (r:=x.2) hx ih)
   .cases h
  |opt c d=>
   cases c with
   |true=>
    simp only[cT,dx,bQ] at h;obtain⟨x,hx,rfl,_⟩:=h;exact .opt (Hk (r:=x.2) hx)
   |false=>simp only[cT,aV,bQ] at h;obtain⟨rfl,_⟩:=h;exact .opt .u
  |agg cs=>
   simp only[cT,dx,bQ] at h;obtain⟨x,hx,rfl,_⟩:=h;exact .agg (tf (ys:=x.1) (r:=x.2) hx ih)
  |tup cs=>
   simp only[cT,dx,bQ] at h;obtain⟨x,hx,rfl,_⟩:=h;exact .tup (tf (ys:=x.1) (r:=x.2) hx ih)
  |sl cs k=>
   simp only[cT,dx,bQ] at h;obtain⟨x,hx,rfl,_⟩:=h;exact .sl (tf (ys:=x.1) (r:=x.2) hx ih)
  |pt cs=>
   simp only[cT,dx,bQ] at h;obtain⟨x,hx,rfl,_⟩:=h;exact .pt (tf (ys:=x.1) (r:=x.2) hx ih)
  |fn f fs cs=>
   simp only[cT] at h;cases hx:jr (cT P m n) fs with
   |none=>rw[hx] at h;cases h
   |some x=>
    rw[hx] at h;simp only[dx,bQ] at h;obtain⟨y,hy,rfl,_⟩:=h;exact .fn (tf (ys:=x.1) (r:=x.2) hx ih) (tf (ys:=y.1) (r:=y.2) hy ih)
  |s v=>simp only[cT,aV,bQ] at h;obtain⟨rfl,_⟩:=h;exact .s v
  |ub=>simp only[cT,aV,bQ] at h;obtain⟨rfl,_⟩:=h;exact .ub
  |u=>simp only[cT,aV,bQ] at h;obtain⟨rfl,_⟩:=h;exact .u
  |z=>simp only[cT,aV,bQ] at h;obtain⟨rfl,_⟩:=h;exact .z
def afL(P:Program)(F:Nat->Prop)(β:Pla)(w:World)(m:Mem)(rds:List Nat):Prop:=∀ i∈rds,∀ r,m i=some r->∃ p,β i=some p/\RowR P F β w r p/\∀ b,p.blk=some b->¬ F b
theorem Bu(b:Nat):noRows.free b:=fun i p hp=>by cases hp
theorem Et{m:Mem}:∀ {n:Nat} {d d':D} {r:List Nat},cT P m n d=some (d',r)->afL P F β w m r->∀ {v:Value},R F β w d v->R F noRows w d' v
 |0,_,_,_,h,_,_,_=>by cases h
 |n+1,d,d',r,h,hl,v,hv=>by
  have many:∀ {xs ys:List D} {r':List Nat},jr (cT P m n) xs=some (ys,r')->(∀ i∈r',i∈r)->ys.length=xs.length/\∀ (k:Nat) (d:D) (u:Value),ys[k]? =some d->(∀ d0,xs[k]? =some d0->R F β w d0 u)->R F noRows w d u:=fun h hr=>by
   obtain⟨h1,h2⟩:=GG h;refine⟨h1,fun k d u hd hu=>?_⟩;obtain⟨x,r2,C,J,g3⟩:=h2 k d hd;exact Et J (fun i hi=>hl i (hr i (g3 i hi))) (hu x C)
  have look:∀ {i:Nat} {cs:List D} {e:TypeId},i∈r->m i=some (.cells cs e)->∃ p,β i=some p/\RowR P F β w (.cells cs e) p/\∀ b,p.blk=some b->¬ F b:=fun hi hm=>hl _ hi _ hm
  have V3:∀ {es ys:List (Value×D)} {r':List Nat} {ms:Array MapEntry},jr (fun x=>(cT P m n x.2).map fun y=>((x.1,y.1),y.2)) es=some (ys,r')->(∀ i∈r',i∈r)->ms.size=es.length->(es.map (·.1)).Nodup->
   (∀ (k:Nat) (x:Value×D) (m:MapEntry),es[k]? =some x->ms[k]? =some m->m.key=x.1/\R F β w x.2 m.val)->
   ms.size=ys.length/\(ys.map (·.1)).Nodup/\(∀ (k:Nat) (x:Value×D) (m:MapEntry),ys[k]? =some x->ms[k]? =some m->m.key=x.1)/\∀ (k:Nat) (x:Value×D) (m:MapEntry),ys[k]? =some x->ms[k]? =some m->R F noRows w x.2 m.val:=fun {es ys r' ms} h hr cE cR X=>by
   obtain⟨h1,h2⟩:=GG h
   have key:∀ (k:Nat) (y:Value×D),ys[k]? =some y->∃ x r2,es[k]? =some x/\y.1=x.1/\cT P m n x.2=some (y.2,r2)/\∀ i∈r2,i∈r':=fun k y hy=>by
    obtain⟨x,r2,C,J,g3⟩:=h2 k y hy;simp only[dx,bQ] at J;obtain⟨z,hz,rfl,rfl⟩:=J;exact⟨x,z.2,C,rfl,hz,g3⟩
   have keys:ys.map (·.1)=es.map (·.1):=by
    refine List.ext_getElem? fun k=>?_;simp only[List.getElem?_map];cases hy:ys[k]? with
    |some y=>
     obtain⟨x,_,C,J,_⟩:=key k y hy;simp[C,J]
    |none=>
     have:es[k]? =none:=by
      rw[List.getElem?_eq_none_iff] at hy ⊢;omega
     simp[this]
   refine⟨by rw[h1];exact cE,by rw[keys];exact cR,fun k y mm hy fY=>?_,fun k y mm hy fY=>?_⟩
   .obtain⟨x,r2,C,J,_⟩:=key k y hy;rw[J];exact(X k x mm C fY).1
   .obtain⟨x,r2,C,_,g3,g4⟩:=key k y hy;exact Et g3 (fun i hi=>hl i (hr i (g4 i hi))) (X k x mm C fY).2
  cases d with
  |mp i=>
   simp only[cT] at h;split at h
   .rename_i es hm;simp only[dx,bQ] at h;obtain⟨x,hx,rfl,rfl⟩:=h;obtain⟨p,hp,ax,xH⟩:=hl i (List.mem_cons_self ..) _ hm;cases hv with
    |mpd _ _ h1 _=>rw[h1] at hp;cases hp;exact absurd rfl ax.live
    |mp _ b h1=>
     rw[h1] at hp;cases hp;cases ax with
     |map _ _ ms clock C J g3 g4=>
      obtain⟨k1,k2,k3,k4⟩:=V3 (ys:=x.1) (r':=x.2) hx (fun i hi=>List.mem_cons_of_mem _ hi) J g3 g4;exact .im x.1 b ms clock (xH b rfl) (Bu b) C k1 k2 k3 k4
   .cases h
  |im es=>
   simp only[cT,dx,bQ] at h;obtain⟨x,hx,rfl,rfl⟩:=h;cases hv with
   |im _ b ms clock hf hb hc J g3 g4 g5=>
    obtain⟨k1,k2,k3,k4⟩:=V3 (ys:=x.1) (r':=x.2) hx (fun _ h=>h) J g3 (fun k x m hx hm=>⟨g4 k x m hx hm,g5 k x m hx hm⟩);exact .im x.1 b ms clock hf (Bu b) hc k1 k2 k3 k4
  |rs i off k=>
   simp only[cT] at h;split at h
   .rename_i cs e hm;simp only[dx,bQ] at h;obtain⟨x,hx,rfl,rfl⟩:=h;obtain⟨p,hp,ax,xH⟩:=look (List.mem_cons_self ..) hm;obtain⟨C,J⟩:=many (ys:=x.1) (r':=x.2) hx (fun i hi=>List.mem_cons_of_mem _ hi)
    have nil:(cs.drop off).take (k*P.cellsOf e)=[]->x.1=[]:=fun e=>by
     rw[e] at C;exact List.eq_nil_of_length_eq_zero (by simpa using C)
    cases hv with
    |rsd _ _ _ _ h1 _=>
     rw[h1] at hp;cases hp;exact absurd rfl ax.live
    |rsn _ a h1=>
     rw[h1] at hp;cases hp;cases ax;rw[nil oS];exact .sln a 0
    |rsz _ _ a b o len room sz h1=>
     rw[nil oS];exact .sln a 0
    |rs _ _ _ cap b o len room sz h1 hn fV h2 h3=>
     rw[h1] at hp;cases hp;obtain⟨dK,hl,cE,_⟩:=ax.rd;obtain⟨us,u1,u2⟩:=(dK.drop off).take (k*P.cellsOf e)
     have ao:b<w.heap.size:=by
      cases ax with
      |cells _ _ _ _ _ _ c hb=>exact(Array.getElem?_eq_some_iff.1 hb).1
     exact .sl x.1 k b (o+off) cap us (xH b rfl) (Bu b) ao hn fV (fun j hj=>u1 j (by rw[<- C];exact hj)) fun j d hd=>J j d _ hd fun d0 M=>u2 j d0 M
   .cases h
  |rp i off=>
   simp only[cT] at h;split at h
   .rename_i cs e hm;simp only[dx,bQ] at h;obtain⟨x,hx,rfl,rfl⟩:=h;obtain⟨p,hp,ax,xH⟩:=look (List.mem_cons_self ..) hm;obtain⟨C,J⟩:=many (ys:=x.1) (r':=x.2) hx (fun i hi=>List.mem_cons_of_mem _ hi);cases hv with
    |rpd _ _ _ h1 _=>
     rw[h1] at hp;cases hp;exact absurd rfl ax.live
    |rp _ _ b o len room sz h1=>
     rw[h1] at hp;cases hp;obtain⟨dK,hl,cE,_⟩:=ax.rd;obtain⟨us,u1,u2⟩:=dK.drop off
     have ao:b<w.heap.size:=by
      cases ax with
      |cells _ _ _ _ _ _ c hb=>exact(Array.getElem?_eq_some_iff.1 hb).1
     exact .pt x.1 b (o+off) us (xH b rfl) (Bu b) ao (fun j hj=>u1 j (by rw[<- C];exact hj)) fun j d hd=>J j d _ hd fun d0 M=>u2 j d0 M
   .cases h
  |opt c d=>
   cases hv with
   |opt _ _ _ h1 h2=>
   cases c with
   |true=>
    simp only[cT,dx,bQ] at h;obtain⟨x,hx,rfl,rfl⟩:=h;exact .opt true _ v (fun _=>Et (r:=x.2) hx hl (h1 rfl)) oS
   |false=>simp only[cT,aV,bQ] at h;obtain⟨rfl,_⟩:=h;exact .opt false _ v oS h2
  |agg cs=>
   simp only[cT,dx,bQ] at h;obtain⟨x,hx,rfl,rfl⟩:=h;obtain⟨vs,rfl,vN,X⟩:=hv.agg_inv;obtain⟨C,J⟩:=many (ys:=x.1) (r':=x.2) hx (fun _ h=>h);exact .agg _ vs (by rw[C];exact vN) fun k d u hd hu=>J k d u hd fun d0 M=>X k d0 u M hu
  |tup cs=>
   simp only[cT,dx,bQ] at h;obtain⟨x,hx,rfl,rfl⟩:=h;obtain⟨vs,rfl,vN,X⟩:=hv.tup_inv;obtain⟨C,J⟩:=many (ys:=x.1) (r':=x.2) hx (fun _ h=>h);exact .tup _ vs (by rw[C];exact vN) fun k d u hd hu=>J k d u hd fun d0 M=>X k d0 u M hu
  |sl cs k=>
   simp only[cT,dx,bQ] at h;obtain⟨x,hx,rfl,rfl⟩:=h;obtain⟨C,J⟩:=many (ys:=x.1) (r':=x.2) hx (fun _ h=>h);cases hv with
   |sln a cap=>
    have:x.1=[]:=List.eq_nil_of_length_eq_zero (by simpa using C);rw[this];exact .sln a cap
   |sl _ _ b o cap us hf hb ao sD fV hc X=>
    exact .sl _ k b o cap us hf (Bu b) ao sD fV (fun j hj=>hc j (by rw[<- C];exact hj)) fun j d hd=>J j d _ hd fun d0 M=>X j d0 M
  |pt cs=>
   simp only[cT,dx,bQ] at h;obtain⟨x,hx,rfl,rfl⟩:=h;obtain⟨C,J⟩:=many (ys:=x.1) (r':=x.2) hx (fun _ h=>h);cases hv with
   |pt _ b o us hf hb ao hc X=>
    exact .pt _ b o us hf (Bu b) ao (fun j hj=>hc j (by rw[<- C];exact hj)) fun j d hd=>J j d _ hd fun d0 M=>X j d0 M
  |fn f fs cs=>
   simp only[cT] at h;cases hx:jr (cT P m n) fs with
   |none=>rw[hx] at h;cases h
   |some x=>
    rw[hx] at h;simp only[dx,bQ] at h;obtain⟨y,hy,rfl,rfl⟩:=h;obtain⟨C,J⟩:=many (ys:=x.1) (r':=x.2) hx (fun _ h=>List.mem_append_left _ h);obtain⟨k1,k2⟩:=many (ys:=y.1) (r':=y.2) hy (fun _ h=>List.mem_append_right _ h);cases hv with
    |fn _ _ _ us vs Nr vN h1 h2=>
     exact .fn f _ _ us vs (by rw[C];exact Nr) (by rw[k1];exact vN) (fun k d u hd hu=>J k d u hd fun d0 M=>h1 k d0 u M hu) fun k d u hd hu=>k2 k d u hd fun d0 M=>h2 k d0 u M hu
  |s v=>simp only[cT,aV,bQ] at h;obtain⟨rfl,_⟩:=h;obtain⟨rfl,h⟩:=hv.s_inv;exact .s _ h
  |ub=>simp only[cT,aV,bQ] at h;obtain⟨rfl,_⟩:=h;obtain⟨b,rfl⟩:=hv.ub_inv;exact .ub b
  |u=>simp only[cT,aV,bQ] at h;obtain⟨rfl,_⟩:=h;exact .u v
  |z=>simp only[cT,aV,bQ] at h;obtain⟨rfl,_⟩:=h;obtain⟨a,rfl⟩:=hv.z_inv;exact .z a
end
section
variable(P:Program)
def yS(env:Env)(o:Op):Bool:=match o with
 | .pick c _ _=>decide (opd env c).ask
 |o=>o.operands.toList.all fun x=>decide (opd env x).ask
theorem JK{env:Env}{o:Op}(h:yS env o=true):asks env o:=by
 unfold yS at h;unfold asks;cases o<;>first|exact of_decide_eq_true h|exact fun x hx=>of_decide_eq_true (bj.1 h x hx)
abbrev ve:=FuncId->List D->Bool->T Row->Nat->Option (D×T Row×Nat×List Nat×List Nat)
def Hl(call:ve)(f:FuncId)(args:List D)(dr:Bool)(o:Oper)(c:cB):Option (cB×List Nat×List Nat):=
 bif yS (dO c.env) o.op then match call f args dr c.mem c.nx with
  |some (r,m,nx,rd,wr)=>match Cu c.env o.dst r with
   |some env=>some (⟨env,m,nx⟩,rd,wr)
   |none=>none
  |none=>none
 else none
def Ia(e:fW)(o:Oper)(c:cB):Option (cB×List Nat×List Nat):=
 bif yS (dO c.env) o.op then match e.dec with
  |isTrue _=>match EZ c.mem e.ups with
   |some m=>match Cu c.env o.dst e.val with
    |some env=>some (⟨env,m,c.nx+e.new⟩,e.rd,e.ups.map (·.1))
    |none=>none
   |none=>none
  |isFalse _=>none
 else none
def yT(o:Oper)(d:D)(rd:List Nat)(c:cB):Option (cB×List Nat×List Nat):=match Cu c.env o.dst d with
 |some env=>some (⟨env,c.mem,c.nx⟩,rd,[])
 |none=>none
def NB(call:ve)(ops:Array Oper)(dr:Bool)(o:Oper)(c:cB):Option (cB×List Nat×List Nat):=
 match o.guard with
 |none=>match callD (rho (dO c.env) o.op) o.op with
  |some (f,args)=>Hl call f args dr o c
  |none=>match yieldD (rho (dO c.env) o.op) o.op with
   |some _=>none
   |none=>match kp P o.op (rho (dO c.env) o.op) (fE c.mem) c.nx with
    |some e=>Ia e o c
    |none=>none
 |some (j,b)=>match ((ops[j]?).bind (·.dst)).bind fun t=>guardC (dO c.env t) b with
  |none=>none
  |some g=>match callD (rho (dO c.env) o.op) o.op with
   |some (f,args)=>bif g then Hl call f args dr o c else yT o skipD [] c
   |none=>match yieldD (rho (dO c.env) o.op) o.op with
    |some _=>bif g then none else yT o skipD [] c
    |none=>match kp P o.op (rho (dO c.env) o.op) (fE c.mem) c.nx with
     |some e=>bif e.ups.isEmpty&&Nat.beq e.new 0 then
      bif g then bif yS (dO c.env) o.op then match e.dec with
       |isTrue _=>yT o (.opt true e.val) e.rd c
       |isFalse _=>none
      else none
      else yT o (.opt false e.val) e.rd c
      else bif g then Ia e o c else yT o skipD [] c
     |none=>bif g then none else yT o skipD [] c
def Cv(call:ve)(ops:Array Oper)(dr:Bool):List Oper->cB->Tra->Option (cB×Tra)
 |[],c,tr=>some (c,tr)
 |o::os,c,tr=>match NB P call ops dr o c with
  |some (c',rd,wr)=>Cv call ops dr os c' (tr++[(rd,wr)])
  |none=>none
def HD(tr:Tra)(i j:Nat):Bool:=
 let a:=tr.getD i ([],[])
 let b:=tr.getD j ([],[])
 (a.2.all fun x=> !(b.1.any (Nat.beq x))&& !(b.2.any (Nat.beq x)))&&b.2.all fun x=> !(a.1.any (Nat.beq x))
theorem abZ{tr:Tra}{i j:Nat}(h:HD tr i j=true):apartT tr i j:=by
 unfold HD at h;simp only[aM,bj,Bool.not_eq_true',List.any_eq_false,Nat.beq_eq] at h;obtain⟨h1,h2⟩:=h;exact⟨fun x hx=>⟨fun hb=>(h1 x hx).1 x hb rfl,fun hb=>(h1 x hx).2 x hb rfl⟩,fun x hx ha=>h2 x hx x ha rfl⟩
def KN(call:ve)(ops:Array Oper)(dr:Bool)(c:cB):Option cB:=
 bif dr then match drawInfo ops with
  |some cf=>match Cv P call ops true ops.toList c [] with
   |some (c',tr)=>bif cf.all fun q=>HD tr q.1 q.2 then some c' else none
   |none=>none
  |none=>none
 else match Cv P call ops false ops.toList c [] with
  |some (c',_)=>some c'
  |none=>none
def Eu(call:ve):Prop:=∀ f args dr m nx r m' nx' rd wr,call f args dr m nx=some (r,m',nx',rd,wr)->∀ env (K:D->Mem->Nat->List Nat->List Nat->Prop),K r (fE m') nx' rd wr->CallOp P dr ⟨env,fE m,nx⟩ f args K
end
section
variable{P:Program}
theorem PE{call:ve}(hc:Eu P call){f:FuncId}{args:List D}{dr:Bool}{o:Oper}{c:cB}{C:cB}{rd wr:List Nat}(h:Hl call f args dr o c=some (C,rd,wr)){K:St->List Nat->List Nat->Prop}(J:K C.st rd wr):
 asks c.st.env o.op/\CallOp P dr c.st f args fun r m nx rd wr=>K (St.put ⟨c.st.env,m,nx⟩ o.dst r) rd wr:=by
 unfold Hl at h;cases ha:yS (dO c.env) o.op with
 |false=>rw[ha] at h;cases h
 |true=>
  rw[ha] at h;simp only[cond_true] at h;refine⟨JK ha,?_⟩;split at h
  .rename_i r m nx NC wr' M;split at h
   .rename_i env X;simp only[aV,bQ] at h;obtain⟨rfl,rfl,rfl⟩:=h;refine hc _ _ _ _ _ _ _ _ _ _ M _ _ ?_;have:=KM X (fE m) nx;simp only[cB.st] at J ⊢;rw[<- this];exact J
   .cases h
  .cases h
theorem Bz{o:Oper}{d:D}{rd C wr:List Nat}{c J:cB}(h:yT o d rd c=some (J,C,wr)):J.st=St.put c.st o.dst d/\C=rd/\wr=[]:=by
 unfold yT at h;split at h
 .rename_i env M;simp only[aV,bQ] at h;obtain⟨rfl,rfl,rfl⟩:=h;exact⟨KM M (fE c.mem) c.nx,rfl,rfl⟩
 .cases h
theorem QW{e:fW}{o:Oper}{c C:cB}{rd wr:List Nat}(h:Ia e o c=some (C,rd,wr)){K:St->List Nat->List Nat->Prop}(J:K C.st rd wr):
 asks c.st.env o.op/\e.pre/\K (St.put ⟨c.st.env,upds c.st.mem e.ups,c.st.nx+e.new⟩ o.dst e.val) e.rd (e.ups.map (·.1)):=by
 unfold Ia at h;cases ha:yS (dO c.env) o.op with
 |false=>rw[ha] at h;cases h
 |true=>
  rw[ha] at h;simp only[cond_true] at h;refine⟨JK ha,?_⟩;split at h
  .rename_i hp _;refine⟨hp,?_⟩;split at h
   .rename_i m hm;split at h
    .rename_i env M;simp only[aV,bQ] at h;obtain⟨rfl,rfl,rfl⟩:=h;have:=KM M (fE m) (c.nx+e.new);simp only[cB.st] at J ⊢;rw[<- QV hm, <- this];exact J
    .cases h
   .cases h
  .cases h
theorem PY{o:Op}{ρ:Operand->D}{m:Mem}{nx:Nat}{e:fW}(h:kp P o ρ m nx=some e):aop P o ρ m nx=some e.ju:=by rw[RK,h];rfl
theorem aay{o:Op}{ρ:Operand->D}{m:Mem}{nx:Nat}(h:kp P o ρ m nx=none):aop P o ρ m nx=none:=by rw[RK,h];rfl
theorem aeJ{call:ve}(p6:Eu P call){ops:Array Oper}{dr:Bool}{o:Oper}{c c':cB}{rd wr:List Nat}(h:NB P call ops dr o c=some (c',rd,wr)){K:St->List Nat->List Nat->Prop}(C:K c'.st rd wr):
 AOp P noY ops dr o c.st K:=by
 unfold NB at h;unfold AOp;split at h
 .rename_i hg;simp only[hg];split at h
  .rename_i f args hc;obtain⟨h1,h2⟩:=PE p6 h C;refine⟨h1,?_⟩;simp only[cB.st] at h2 ⊢;rw[hc];exact h2
  .rename_i hc;split at h
   .cases h
   .rename_i hy;split at h
    .rename_i e he;obtain⟨h1,h2,h3⟩:=QW h C;refine⟨h1,?_⟩;have:=PY he;simp only[cB.st] at h2 h3 ⊢;rw[hc];simp only;rw[hy];simp only;rw[this];exact⟨h2,h3⟩
    .cases h
 .rename_i j b hg;simp only[hg];split at h
  .cases h
  .rename_i g hgc;have X:(((ops[j]?).bind (·.dst)).bind fun t=>guardC (c.st.env t) b)=some g:=hgc;rw[X];simp only;split at h
   .rename_i f args hc;have M:callD (rho c.st.env o.op) o.op=some (f,args):=hc;rw[M];simp only;cases g with
    |true=>
     simp only[cond_true] at h;exact .inr ⟨fun _=>PE p6 h C,oS⟩
    |false=>
     simp only[cond_false] at h;obtain⟨h1,rfl,rfl⟩:=Bz h;exact .inr ⟨oS,fun _=>h1▸C⟩
   .rename_i hc;have M:callD (rho c.st.env o.op) o.op=none:=hc;rw[M];simp only;split at h
    .rename_i y hy;have zx:yieldD (rho c.st.env o.op) o.op=some y:=hy;rw[zx];obtain⟨l,args⟩:=y;cases g with
     |true=>simp at h
     |false=>
      simp only[cond_false] at h;obtain⟨h1,rfl,rfl⟩:=Bz h;exact⟨oS,fun _=>h1▸C⟩
    .rename_i hy;have zx:yieldD (rho c.st.env o.op) o.op=none:=hy;rw[zx];simp only;split at h
     .rename_i e he;have fF:aop P o.op (rho c.st.env o.op) c.st.mem c.st.nx=some e.ju:=PY he;rw[fF];cases J:(e.ups.isEmpty&&Nat.beq e.new 0) with
      |true=>
       have hb:(e.ju.ups.isEmpty&&e.ju.new==0)=true:=by
        have:∀ a:Nat,(a==0)=Nat.beq a 0:=fun a=>by cases a<;>rfl
        simp only[fW.ju,this];exact J
       simp only[hb,if_true];rw[J] at h;simp only[cond_true] at h;cases g with
       |true=>
        simp only[cond_true] at h;cases ha:yS (dO c.env) o.op with
        |false=>rw[ha] at h;cases h
        |true=>
         rw[ha] at h;simp only[cond_true] at h;split at h
         .rename_i hp _;obtain⟨h1,rfl,rfl⟩:=Bz h;exact⟨fun _=>⟨JK ha,hp⟩,h1▸C⟩
         .cases h
       |false=>
        simp only[cond_false] at h;obtain⟨h1,rfl,rfl⟩:=Bz h;exact⟨oS,h1▸C⟩
      |false=>
       have hb:(e.ju.ups.isEmpty&&e.ju.new==0)=false:=by
        have:∀ a:Nat,(a==0)=Nat.beq a 0:=fun a=>by cases a<;>rfl
        simp only[fW.ju,this];exact J
       simp only[hb,Bool.false_eq_true,if_false];rw[J] at h;simp only[cond_false] at h;cases g with
       |true=>
        simp only[cond_true] at h;exact⟨fun _=>QW h C,oS⟩
       |false=>
        simp only[cond_false] at h;obtain⟨h1,rfl,rfl⟩:=Bz h;exact⟨oS,fun _=>h1▸C⟩
     .rename_i he;have fF:aop P o.op (rho c.st.env o.op) c.st.mem c.st.nx=none:=aay he;rw[fF];simp only;cases g with
      |true=>simp at h
      |false=>
       simp only[cond_false] at h;obtain⟨h1,rfl,rfl⟩:=Bz h;exact⟨rfl,h1▸C⟩
theorem Kh{call:ve}(X:Eu P call){ops:Array Oper}{dr:Bool}{cf:List (Nat×Nat)}{Q:Exit->St->Prop}:∀ (M:List Oper) (c C:cB) (tr J:Tra),Cv P call ops dr M c tr=some (C,J)->(∀ q∈cf,apartT J q.1 q.2)->Q .normal C.st->
 AOps P noY ops dr cf Q M c.st tr
 |[],c,C,tr,J,h,rC,hQ=>by
  simp only[Cv,aV,bQ] at h;obtain⟨rfl,rfl⟩:=h;exact⟨rC,hQ⟩
 |o::M,c,C,tr,J,h,rC,hQ=>by
  simp only[Cv] at h;split at h
  .rename_i c1 rd wr h1;exact aeJ X h1 (Kh X M c1 C _ J h rC hQ)
  .cases h
theorem ZK{call:ve}(X:Eu P call){ops:Array Oper}{dr:Bool}{c J:cB}(h:KN P call ops dr c=some J){id:Nat}{rf:Bool}{Q:Exit->St->Prop}(M:Q .normal J.st):AW P noY rf (.region id ops dr) Q c.st:=by
 unfold KN at h;cases dr with
 |true=>
  simp only[cond_true] at h;split at h
  .rename_i cf rC;split at h
   .rename_i c1 tr h1;cases C:cf.all fun q=>HD tr q.1 q.2 with
    |false=>rw[C] at h;cases h
    |true=>
     rw[C] at h;simp only[cond_true,aV] at h;subst h
     show match drawInfo ops with
      |some cf=>AOps P noY ops true cf Q ops.toList c.st []
      |none=>False
     rw[rC];exact Kh X _ _ _ _ _ h1 (fun q hq=>abZ (bj.1 C q hq)) M
   .cases h
  .cases h
 |false=>
  simp only[cond_false] at h;split at h
  .rename_i c1 tr h1;simp only[aV] at h;subst h;exact Kh (cf:=[]) X _ _ _ _ _ h1 oS M
  .cases h
end
structure Ctx where
 IT:FuncId->Option (Func×Code)
 iter:FuncId->List D->List D->Option (List (List D))
 known:FuncId->List D->Option D
structure Ctx.Ok(P:Program)(x:Ctx):Prop where
 mix:P.follows .mixedOrders=true
 IT:∀ f fn c,x.IT f=some (fn,c)->na P f fn c
 iter:∀ f fs cs xs,x.iter f fs cs=some xs->SeqA P f fs cs xs/\∀ y∈xs,∀ d∈y,Tr d
 known:∀ f args r,x.known f args=some r->PCall P f args r
def yL:Nat->List D->T D->Option (T D)
 |_,[],t=>some t
 |k,d::ds,t=>match t.put k (some d) with
  |some C=>yL (k+1) ds C
  |none=>none
theorem PF:∀ {ds:List D} {k:Nat} {t C:T D},yL k ds t=some C->∀ j,dO C j=if k<=j/\j<k+ds.length then ds.getD (j - k) .u else dO t j
 |[],k,t,C,h,j=>by
  simp only[yL,aV] at h;subst h;rw[if_neg oS]
 |d::ds,k,t,C,h,j=>by
  simp only[yL] at h;split at h
  .rename_i J h1;rw[PF h j,Kg h1];by_cases hj:j=k
   .subst hj;rw[if_neg oG,up_same,if_pos oS];simp
   .rw[up_ne _ _ hj];by_cases ao:k+1<=j/\j<k+1+ds.length
    .rw[if_pos ao,if_pos oP];have:j - k=(j - (k+1))+1:=by omega
     rw[this];simp
    .rw[if_neg ao,if_neg oP]
  .cases h
theorem PG{args:List D}{t:T D}(h:yL 0 args .leaf=some t):dO t=envOf args:=by
 funext j;rw[PF h j];unfold envOf;split
 .simp
 .rename_i hj;have:args.length<=j:=by omega
  simp[dO,T.get,this]
def BJ:T D->List Tmp->List D->Option (T D)
 |t,p::ps,d::ds=>match t.put p (some d) with
  |some C=>BJ C ps ds
  |none=>none
 |t,_,_=>some t
theorem Pp:∀ {ps:List Tmp} {ds:List D} {t C:T D},BJ t ps ds=some C->dO C=setAll (dO t) ps ds
 |[],ds,t,C,h=>by simp only[BJ,aV] at h;subst h;rfl
 |_::_,[],t,C,h=>by simp only[BJ,aV] at h;subst h;rfl
 |p::ps,d::ds,t,C,h=>by
  simp only[BJ] at h;split at h
  .rename_i J h1;rw[Pp h,Kg h1];rfl
  .cases h
section
variable(P:Program)
def MB(c:cB):ResultVar->Option D
 | .tmp t=>some (dO c.env t)
 | .cell a t=>match dO c.env a with
  | .rp i off=>match c.mem.get i with
   |some (.cells cs _)=>bif tyOk P t&&Nat.ble (off+P.cellsOf t) cs.length then some (takeV P t (cs.drop off)) else none
   |_=>none
  | .pt cs=>bif tyOk P t&&Nat.ble (P.cellsOf t) cs.length then some (takeV P t cs) else none
  |_=>none
def Cw(c:cB):List ResultVar->Option (List D)
 |[]=>some []
 |r::rs=>match MB P c r with
  |some d=>match Cw c rs with
   |some ds=>some (d::ds)
   |none=>none
  |none=>none
def E0(x:Ctx)(C:Bool->Code->cB->Option (Exit×cB))(f:FuncId)(args:List D)(m:T Row)(nx:Nat):Option (D×T Row×Nat):=
 match x.IT f with
 |none=>none
 |some (fn,c)=>bif Nat.ble args.length fn.ntmps then
  match yL 0 args .leaf with
  |none=>none
  |some t=>match C true c ⟨t,m,nx⟩ with
   |some (.normal,s)=>match Cw P s fn.results.toList with
    |some ds=>some (one1 ds,s.mem,s.nx)
    |none=>none
   |some (.ret,s)=>match Cw P s fn.results.toList with
    |some ds=>some (one1 ds,s.mem,s.nx)
    |none=>none
   |_=>none
  else none
def depth:Nat:=12
def Cd(x:Ctx)(C:Bool->Code->cB->Option (Exit×cB))(f:FuncId)(args:List D):Option (D ⊕ (List D×Nat×TypeId)):=
 match E0 P x C f args .leaf 0 with
 |none=>none
 |some (d,m,_)=>match d with
  | .rs i 0 k=>match m.get i with
   |some (.cells es t)=>bif es.all (rF depth) then some (.inr (es,k,t)) else match cT P (fE m) depth (.rs i 0 k) with
    |some (r,_)=>some (.inl r)
    |none=>none
   |_=>none
  |d=>match cT P (fE m) depth d with
   |some (r,_)=>some (.inl r)
   |none=>none
def LX(x:Ctx)(C:Bool->Code->cB->Option (Exit×cB)):ve:=fun f args dr m nx=>
 match x.known f args with
 |some r=>some (r,m,nx,[],[])
 |none=>bif args.all (rF depth) then match Cd P x C f args with
  |some (.inl r)=>some (r,m,nx,[],[])
  |some (.inr (es,k,t))=>match m.put nx (some (.cells es t)) with
   |some m'=>some (.rs nx 0 k,m',nx+1,[],[nx])
   |none=>none
  |none=>none
  else bif dr then match jr (cT P (fE m) depth) args with
   |none=>none
   |some (args',rds)=>match x.known f args' with
    |some r=>bif r.scal then some (r,m,nx,rds,[]) else none
    |none=>match Cd P x C f args' with
     |some (.inl r)=>bif r.scal then some (r,m,nx,rds,[]) else none
     |_=>none
  else match E0 P x C f args m nx with
   |some (d,m',nx')=>some (d,m',nx',[],[])
   |none=>none
def DT(C:Bool->Code->cB->Option (Exit×cB))(env:T D)(ps:List Tmp)(assign body:Code):List (List D)->T Row->Nat->Option (Exit×T Row×Nat)
 |[],m,nx=>some (.normal,m,nx)
 |y::ys,m,nx=>match BJ env ps y with
  |none=>none
  |some t=>match C false assign ⟨t,m,nx⟩ with
   |some (.normal,s)=>match C false body s with
    |some (.normal,s')=>DT C env ps assign body ys s'.mem s'.nx
    |some (.ret,s')=>some (.ret,s'.mem,s'.nx)
    |some (.exit i,s')=>some (.exit i,s'.mem,s'.nx)
    |_=>none
   |_=>none
def so(x:Ctx)(C:Bool->Code->cB->Option (Exit×cB))(rf:Bool)(c:Code)(s:cB):Option (Exit×cB):=match c with
 | .skip=>some (.normal,s)
 | .region _ ops dr=>match KN P (LX P x C) ops dr s with
  |some s'=>some (.normal,s')
  |none=>none
 | .seq a b=>match C rf a s with
  |some (.normal,s')=>C rf b s'
  |r=>r
 | .cond c a b=>bif decide (opd (dO s.env) c).ask then match (opd (dO s.env) c).core with
   | .s (.bool t)=>bif t then C rf a s else C rf b s
   |_=>none
  else none
 | .block id b=>match C rf b s with
  |some (.exit i,s')=>bif Nat.beq i id then some (.normal,s') else some (.exit i,s')
  |r=>r
 | .scope b=>match C rf b s with
  |some (.goto _,_)=>none
  |r=>r
 | .loop b=>match C rf b s with
  |some (.normal,s')=>C rf (.loop b) s'
  |r=>r
 | .rangeFunc g ps assign body=>bif rf&&decide (opd (dO s.env) g).ask then match (opd (dO s.env) g).core with
   | .fn (.func f) fs cs=>match x.iter f fs cs with
    |some ys=>bif ys.all fun y=>Nat.beq y.length ps.size then match DT C s.env ps.toList assign body ys s.mem s.nx with
     |some (e,m,nx)=>some (e,⟨s.env,m,nx⟩)
     |none=>none
     else none
    |none=>none
   |_=>none
  else none
 | .exit id=>some (.exit id,s)
 | .label _=>some (.normal,s)
 | .ret=>some (.ret,s)
 |_=>none
def A1(x:Ctx):Nat->Bool->Code->cB->Option (Exit×cB)
 |0=>fun _ _ _=>none
 |n+1=>so P x (A1 x n)
end
section
variable{P:Program}{x:Ctx}
theorem Lk{c:cB}{K:List D->Prop}:∀ {rs:List ResultVar} {ds C:List D},Cw P c rs=some ds->K (C++ds)->retL P c.st rs C K
 |[],ds,C,h,hK=>by
  simp only[Cw,aV] at h;subst h;simpa[retL] using hK
 |r::rs,ds,C,h,hK=>by
  simp only[Cw] at h;split at h
  .rename_i d hd;split at h
   .rename_i zo M;simp only[aV] at h;subst h
    have J:∃ p,resD P c.st r=some (p,d)/\p:=by
     cases r with
     |tmp t=>
      simp only[MB,aV] at hd;exact⟨True,by simp only[resD,cB.st,hd],trivial⟩
     |cell a t=>
      simp only[MB] at hd;simp only[resD,cB.st];split at hd
      .rename_i i off ha;rw[ha];simp only;split at hd
       .rename_i cs e hm;have X:fE c.mem i=some (.cells cs e):=hm;rw[X];simp only;cases hb:(tyOk P t&&Nat.ble (off+P.cellsOf t) cs.length) with
        |false=>rw[hb] at hd;cases hd
        |true=>
         rw[hb] at hd;simp only[cond_true,aV] at hd;simp only[aM,Nat.ble_eq] at hb;exact⟨_,by rw[hd],hb⟩
       .cases hd
      .rename_i cs ha;rw[ha];simp only;cases hb:(tyOk P t&&Nat.ble (P.cellsOf t) cs.length) with
       |false=>rw[hb] at hd;cases hd
       |true=>
        rw[hb] at hd;simp only[cond_true,aV] at hd;simp only[aM,Nat.ble_eq] at hb;exact⟨_,by rw[hd],hb⟩
      .cases hd
    obtain⟨p,h1,h2⟩:=J;simp only[retL,h1];exact⟨h2,Lk M (by simpa using hK)⟩
   .cases h
  .cases h
def Cx(P:Program)(C:Bool->Code->cB->Option (Exit×cB)):Prop:=∀ rf c s e s',C rf c s=some (e,s')->∀ Q:Exit->St->Prop,Q e s'.st->AW P noY rf c Q s.st
theorem RM(hx:x.Ok P){M:Bool->Code->cB->Option (Exit×cB)}(kD:Cx P M){f:FuncId}{args:List D}{m m':T Row}{nx nx':Nat}{d:D}(h:E0 P x M f args m nx=some (d,m',nx')):
 ∃ fn c,na P f fn c/\Nat.ble args.length fn.ntmps=true/\∀ K:D->St->Prop,(∀ env,K d ⟨env,fE m',nx'⟩)->AW P noY true c (retQ P fn.results.toList K) ⟨envOf args,fE m,nx⟩:=by
 unfold E0 at h;split at h
 .cases h
 .rename_i fn c C;cases hb:Nat.ble args.length fn.ntmps with
  |false=>rw[hb] at h;cases h
  |true=>
   rw[hb] at h;simp only[cond_true] at h;split at h
   .cases h
   .rename_i t ht;refine⟨fn,c,hx.IT f fn c C,hb,fun K X=>?_⟩;rw[<- PG ht];split at h
    .rename_i s hs;split at h
     .rename_i ds J;simp only[aV,bQ] at h;obtain⟨rfl,rfl,rfl⟩:=h;exact kD _ _ _ _ _ hs _ (Lk (K:=fun ds=>K (one1 ds) s.st) J (X _))
     .cases h
    .rename_i s hs;split at h
     .rename_i ds J;simp only[aV,bQ] at h;obtain⟨rfl,rfl,rfl⟩:=h;exact kD _ _ _ _ _ hs _ (Lk (K:=fun ds=>K (one1 ds) s.st) J (X _))
     .cases h
    .cases h
theorem aaz:fE .leaf=fun _=>none:=rfl
theorem ZL(J:P.follows .mixedOrders=true){fn:Func}{f:FuncId}{c:Code}(hf:na P f fn c){args:List D}(hn:Nat.ble args.length fn.ntmps=true)(ht:∀ a∈args,Tr a){d r:D}{m:Mem}{n:Nat}{rds:List Nat}(hd:cT P m n d=some (r,rds))
 (h:AW P noY true c (retQ P fn.results.toList fun d' st=>d'=d/\st.mem=m) ⟨envOf args,fun _=>none,0⟩):PCall P f args r:=
 ⟨hf.he,ht,fun F w vs hF hR=>(BE J hf.hf hf.hb hf.ao hn h (fun _ _ _ _ _ h=>h.elim) (GD hF) (fun _ _=>rfl) hR).mono fun e w' hp=>by
  obtain⟨v,d',st',β',h1,⟨rfl,rfl⟩,h3,h4,h5,C,M,h8⟩:=hp
  exact⟨v,h1,Et hd (fun i _ r hr=>by
   obtain⟨p,hp,ax⟩:=h4.row i r hr
   exact⟨p,hp,ax,fun b hb=>h4.nf i p b hp hb⟩) h3,Gq C⟩⟩
theorem JL(hx:x.Ok P){J:Bool->Code->cB->Option (Exit×cB)}(kD:Cx P J){f:FuncId}{args:List D}(ht:∀ a∈args,Tr a):
 (∀ r,Cd P x J f args=some (.inl r)->PCall P f args r)/\∀ es k t,Cd P x J f args=some (.inr (es,k,t))->OCall P f args es k t:=by
 unfold Cd;cases X:E0 P x J f args .leaf 0 with
 |none=>exact⟨fun r h=>oH,fun es k t h=>oH⟩
 |some q=>
  obtain⟨d,m,nx⟩:=q;obtain⟨fn,c,hf,hn,C⟩:=RM hx kD X
  have deep:∀ d r rds,d=d->cT P (fE m) depth d=some (r,rds)->(∀ K:D->St->Prop,(∀ env,K d ⟨env,fE m,nx⟩)->AW P noY true c (retQ P fn.results.toList K) ⟨envOf args,fE .leaf,0⟩)->PCall P f args r:=fun d r rds _ hd C=>
   ZL hx.mix hf hn ht hd (C _ fun env=>⟨rfl,rfl⟩)
  simp only;split
  .rename_i i k;split
   .rename_i es t hm;cases M:es.all (rF depth) with
    |true=>
     simp only[cond_true];refine⟨fun r h=>(by simp at h),fun es' k' t' h=>?_⟩;simp only[aV,Sum.inr.injEq,bQ] at h;obtain⟨rfl,rfl,rfl⟩:=h;exact QT hx.mix hf hn ht (fun a ha=>qQ (bj.1 M a ha)) (C _ fun env=>⟨i,rfl,hm⟩)
    |false=>
     simp only[cond_false];split
     .rename_i r rds hd;exact⟨fun r' h=>(by simp only[aV,Sum.inl.injEq] at h;subst h;exact deep _ _ _ rfl hd C),fun es k t h=>(by simp at h)⟩
     .exact⟨fun r h=>oH,fun es k t h=>oH⟩
   .exact⟨fun r h=>oH,fun es k t h=>oH⟩
  .split
   .rename_i r rds hd;exact⟨fun r' h=>(by simp only[aV,Sum.inl.injEq] at h;subst h;exact deep _ _ _ rfl hd C),fun es k t h=>(by simp at h)⟩
   .exact⟨fun r h=>oH,fun es k t h=>oH⟩
theorem Pq{m:Mem}{n:Nat}{rds:List Nat}:∀ {aS bs:List D} {r:List Nat},jr (cT P m n) aS=some (bs,r)->(∀ i∈r,i∈rds)->Sns P rds m aS bs
 |[],bs,r,h,_=>by
  simp only[jr,aV,bQ] at h;obtain⟨rfl,_⟩:=h;trivial
 |a::aS,bs,r,h,hr=>by
  simp only[jr] at h;split at h
  .cases h
  .rename_i y hy;split at h
   .cases h
   .rename_i ys C;simp only[aV,bQ] at h;obtain⟨rfl,rfl⟩:=h;exact⟨fun F β w v hl hv=>Et (r:=y.2) hy (fun i hi=>hl i (hr i (List.mem_append_left _ hi))) hv,Pq (r:=ys.2) C fun i hi=>hr i (List.mem_append_right _ hi)⟩
theorem ab0(hx:x.Ok P){ev:Bool->Code->cB->Option (Exit×cB)}(M:Cx P ev):Eu P (LX P x ev):=by
 intro f args dr m nx r m' nx' rd wr h env K C;unfold LX at h;split at h
 .rename_i r' hk;simp only[aV,bQ] at h;obtain⟨rfl,rfl,rfl,rfl,rfl⟩:=h;exact .inl ⟨_,hx.known _ _ _ hk,C⟩
 .cases J:args.all (rF depth) with
  |true=>
   rw[J] at h;simp only[cond_true] at h;obtain⟨h1,h2⟩:=JL hx M (f:=f) (args:=args) fun a ha=>qQ (bj.1 J a ha);split at h
   .rename_i r' hp;simp only[aV,bQ] at h;obtain⟨rfl,rfl,rfl,rfl,rfl⟩:=h;exact .inl ⟨_,h1 _ hp,C⟩
   .rename_i es k t hp;split at h
    .rename_i m1 hm;simp only[aV,bQ] at h;obtain⟨rfl,rfl,rfl,rfl,rfl⟩:=h;rw[QU hm] at C;exact .inr (.inr (.inl ⟨es,k,t,h2 _ _ _ hp,C⟩))
    .cases h
   .cases h
  |false=>
   rw[J] at h;simp only[cond_false] at h;cases dr with
   |true=>
    simp only[cond_true] at h;split at h
    .cases h
    .rename_i args' rds X;have a7:∀ a∈args',Tr a:=tf X fun x y r' h=>Hk h;have pf:Sns P rds (fE m) args args':=Pq X fun _ h=>h;split at h
     .rename_i r' hk;cases hs:r'.scal with
      |false=>rw[hs] at h;cases h
      |true=>
       rw[hs] at h;simp only[cond_true,aV,bQ] at h;obtain⟨rfl,rfl,rfl,rfl,rfl⟩:=h;exact .inr (.inl ⟨args',_,_,pf,hx.known _ _ _ hk,hs,C⟩)
     .split at h
      .rename_i r' hp;cases hs:r'.scal with
       |false=>rw[hs] at h;cases h
       |true=>
        rw[hs] at h;simp only[cond_true,aV,bQ] at h;obtain⟨rfl,rfl,rfl,rfl,rfl⟩:=h;exact .inr (.inl ⟨args',_,_,pf,(JL hx M a7).1 _ hp,hs,C⟩)
      .cases h
   |false=>
    simp only[cond_false] at h;split at h
    .rename_i d m1 XS gL;simp only[aV,bQ] at h;obtain⟨rfl,rfl,rfl,rfl,rfl⟩:=h;obtain⟨fn,c,hf,hn,A2⟩:=RM hx M gL;exact .inr (.inr (.inr (.inl ⟨rfl,QS hx.mix hf hn (A2 (fun d st=>K d st.mem st.nx [] []) fun env=>C)⟩)))
    .cases h
theorem PH{ev:Bool->Code->cB->Option (Exit×cB)}(J:Cx P ev){env:T D}{ps:List Tmp}{assign body:Code}{Q:Exit->St->Prop}:∀ {ys:List (List D)} {m m':T Row} {nx nx':Nat} {e:Exit},DT ev env ps assign body ys m nx=some (e,m',nx')->
 Q e ⟨dO env,fE m',nx'⟩->∃ I:Nat->Mem->Nat->Prop,I 0 (fE m) nx/\
  (∀ k m nx y,ys[k]? =some y->I k m nx->AW P noY false assign (assignQ fun s=>AW P noY false body (roundQ (dO env) (I (k+1)) Q) s) ⟨setAll (dO env) ps y,m,nx⟩)/\
  ∀ m nx,I ys.length m nx->Q .normal ⟨dO env,m,nx⟩
 |[],m,m',nx,nx',e,h,hQ=>by
  simp only[DT,aV,bQ] at h;obtain⟨rfl,rfl,rfl⟩:=h;exact⟨fun _ a b=>a=fE m/\b=nx,⟨rfl,rfl⟩,fun k _ _ y hy=>by simp at hy,fun a b h=>by obtain⟨rfl,rfl⟩:=h;exact hQ⟩
 |y::ys,m,m',nx,nx',e,h,hQ=>by
  simp only[DT] at h;split at h
  .cases h
  .rename_i t ht;have w9:=Pp ht;split at h
   .rename_i s hs
    have done:∀ (I:Nat->Mem->Nat->Prop),AW P noY false body (roundQ (dO env) (I 0) Q) s.st->
     (∀ k m nx y,ys[k]? =some y->I k m nx->AW P noY false assign (assignQ fun s=>AW P noY false body (roundQ (dO env) (I (k+1)) Q) s) ⟨setAll (dO env) ps y,m,nx⟩)->
     (∀ m nx,I ys.length m nx->Q .normal ⟨dO env,m,nx⟩)->
     ∃ I:Nat->Mem->Nat->Prop,I 0 (fE m) nx/\
      (∀ k m nx z,(y::ys)[k]? =some z->I k m nx->AW P noY false assign (assignQ fun s=>AW P noY false body (roundQ (dO env) (I (k+1)) Q) s) ⟨setAll (dO env) ps z,m,nx⟩)/\
      ∀ m nx,I (y::ys).length m nx->Q .normal ⟨dO env,m,nx⟩:=fun I h1 h2 h3=>by
     refine⟨fun k a b=>match k with|0=>a=fE m/\b=nx|k+1=>I k a b,⟨rfl,rfl⟩,fun k a b z X M=>?_,fun a b M=>h3 a b M⟩;cases k with
     |zero=>
      obtain⟨rfl,rfl⟩:=M;simp only[List.getElem?_cons_zero,aV] at X;subst X;rw[<- w9];exact J _ _ _ _ _ hs _ h1
     |succ k=>exact h2 k a b z (by simpa using X) M
    split at h
    .rename_i s' C;obtain⟨I,g1,g2,g3⟩:=PH J h hQ;exact done I (J _ _ _ _ _ C _ g1) g2 g3
    .rename_i s' C;simp only[aV,bQ] at h;obtain⟨rfl,rfl,rfl⟩:=h;exact done (fun _ _ _=>False) (J _ _ _ _ _ C _ hQ) (fun _ _ _ _ _ h=>h.elim) fun _ _ h=>h.elim
    .rename_i i s' C;simp only[aV,bQ] at h;obtain⟨rfl,rfl,rfl⟩:=h;exact done (fun _ _ _=>False) (J _ _ _ _ _ C _ hQ) (fun _ _ _ _ _ h=>h.elim) fun _ _ h=>h.elim
    .cases h
   .cases h
theorem Tj(hx:x.Ok P):∀ n,Cx P (A1 P x n):=by
 intro n
 induction n using Nat.strongRecOn with
 |_ n ih=>
  cases n with
  |zero=>intro rf c s e s' h;cases h
  |succ n=>
   have J:=ih n (Nat.lt_succ_self n);intro rf c s e s' h Q C;simp only[A1] at h;cases c with
   |skip=>
    simp only[so,aV,bQ] at h;obtain⟨rfl,rfl⟩:=h;exact C
   |ret=>
    simp only[so,aV,bQ] at h;obtain⟨rfl,rfl⟩:=h;exact C
   |label l=>
    simp only[so,aV,bQ] at h;obtain⟨rfl,rfl⟩:=h;exact C
   |exit id=>
    simp only[so,aV,bQ] at h;obtain⟨rfl,rfl⟩:=h;exact C
   |region id ops dr=>
    simp only[so] at h;split at h
    .rename_i s1 h1;simp only[aV,bQ] at h;obtain⟨rfl,rfl⟩:=h;exact ZK (ab0 hx J) h1 C
    .cases h
   |seq a b=>
    simp only[so] at h;split at h
    .rename_i s1 h1;exact J _ _ _ _ _ h1 _ ⟨_,.refl _,J _ _ _ _ _ h _ C⟩
    .rename_i X;refine J _ _ _ _ _ h _ ?_;cases e with
     |normal=>exact absurd h (X s')
     |_=>exact C
   |cond c a b=>
    simp only[so] at h;cases M:decide (opd (dO s.env) c).ask with
    |false=>rw[M] at h;cases h
    |true=>
     rw[M] at h;simp only[cond_true] at h;refine⟨of_decide_eq_true M,?_⟩;split at h
     .rename_i t ht;have ht':(opd s.st.env c).core=.s (.bool t):=ht;rw[ht'];cases t with
      |true=>exact⟨fun _=>J _ _ _ _ _ h _ C,fun h=>by cases h⟩
      |false=>exact⟨fun h=>oH,fun _=>J _ _ _ _ _ h _ C⟩
     .cases h
   |block id b=>
    simp only[so] at h;split at h
    .rename_i i s1 h1;refine J _ _ _ _ _ h1 (blockQ id Q) ?_;simp only[blockQ];cases hb:Nat.beq i id with
     |true=>
      rw[hb] at h;simp only[cond_true,aV,bQ] at h;obtain⟨rfl,rfl⟩:=h;rw[if_pos (Nat.eq_of_beq_eq_true hb)];exact C
     |false=>
      rw[hb] at h;simp only[cond_false,aV,bQ] at h;obtain⟨rfl,rfl⟩:=h;rw[if_neg (Nat.ne_of_beq_eq_false hb)];exact C
    .rename_i X;refine J _ _ _ _ _ h (blockQ id Q) ?_;cases e with
     |exit i=>exact absurd h (X i s')
     |_=>exact C
   |scope b=>
    simp only[so] at h;split at h
    .cases h
    .rename_i X;refine J _ _ _ _ _ h (scopeQ Q) ?_;cases e with
     |goto l=>exact absurd h (X l s')
     |_=>exact C
   |loop b=>
    refine QY (fun j st=>j<=n+1/\∃ s,st=s.st/\A1 P x j rf (.loop b) s=some (e,s')) (j₀:=n+1) ⟨bF _,s,rfl,h⟩ ?_;rintro j st ⟨hj,s,rfl,hs⟩;cases j with
    |zero=>cases hs
    |succ j=>
     have XT:=ih j oG;simp only[A1,so] at hs;split at hs
     .rename_i s1 h1;exact XT _ _ _ _ _ h1 _ ⟨_,.refl _,j,Nat.lt_succ_self j,oG,s1,rfl,hs⟩
     .rename_i X;refine XT _ _ _ _ _ hs _ ?_;cases e with
      |normal=>exact absurd hs (X s')
      |_=>exact C
   |rangeFunc g ps assign body=>
    simp only[so] at h;cases M:(rf&&decide (opd (dO s.env) g).ask) with
    |false=>rw[M] at h;cases h
    |true=>
     rw[M] at h;simp only[cond_true] at h;simp only[aM] at M;split at h
     .rename_i f fs cs Ca;split at h
      .rename_i ys CZ;cases bD:ys.all fun y=>Nat.beq y.length ps.size with
       |false=>rw[bD] at h;cases h
       |true=>
        rw[bD] at h;simp only[cond_true] at h;split at h
        .rename_i e1 m nx hr;simp only[aV,bQ] at h;obtain⟨rfl,rfl⟩:=h;obtain⟨I,g1,g2,g3⟩:=PH J hr C;obtain⟨k1,k2⟩:=hx.iter _ _ _ _ CZ;exact⟨M.1,of_decide_eq_true M.2,f,fs,cs,ys,I,Ca,k1,fun y hy=>⟨Nat.eq_of_beq_eq_true (bj.1 bD y hy),k2 y hy⟩,g1,g2,g3⟩
        .cases h
      .cases h
     .cases h
   |_=>cases h
theorem lS(hx:x.Ok P)(n:Nat){f:FuncId}{args:List D}{r:D}(ht:args.all (rF depth)=true)(h:Cd P x (A1 P x n) f args=some (.inl r)):PCall P f args r:=
 (JL hx (Tj hx n) fun a ha=>qQ (bj.1 ht a ha)).1 r h
end
def aD:List (Nat×D)->Env
 |[],_=>.u
 |(t,d)::l,j=>if j=t then d else aD l j
def jN:List (Nat×D)->Env->Prop
 |[],_=>True
 |(t,d)::l,env=>env t=d/\jN l env
theorem pN:∀ {l:List (Nat×D)} {env:Env},jN l env->∀ t,aD l t=env t\/aD l t=.u
 |[],_,_,_=>.inr rfl
 |(k,d)::l,env,h,t=>by
  simp only[aD];by_cases ht:t=k
  .subst ht;rw[if_pos rfl];exact .inl h.1.symm
  .rw[if_neg ht];exact pN h.2 t
def ja(env:Env):List Operand->Prop
 |[]=>True
 |x::xs=>(opd env x).ask/\ja env xs
theorem Q2{env:Env}:∀ {l:List Operand},ja env l->∀ x∈l,(opd env x).ask
 |[],_,x,h=>by cases h
 |y::l,h,x,hx=>by
  cases hx with
  |head=>exact h.1
  |tail _ hx=>exact Q2 h.2 x hx
theorem r5{env:Env}{o:Op}(h:ja env o.operands.toList):asks env o:=by
 have:=Q2 h;unfold asks;cases o<;>first|exact this|exact this _ gk
section
variable{P:Program}{Y:YSpec}{rf:Bool}
structure Ef(P:Program)(op:Op)(env:Env)(m:Mem)(nx:Nat)(e:Eff):Prop where
 ok:aop P op (rho env op) m nx=some e
 nc:callD (rho env op) op=none
 ny:yieldD (rho env op) op=none
variable{ops:Array Oper}{dr:Bool}{cf:List (Nat×Nat)}{Q:Exit->St->Prop}{rest:List Oper}{env:Env}{m:Mem}{nx:Nat}{tr:Tra}{t:Nat}{op:Op}{ty:TypeId}{pos:String}{after:Array Edge}
 {pre:Prop} {v:D} {rd:List Nat}
theorem Ap{d:Option Nat}{e:Eff}(he:Ef P op env m nx e)(ha:asks env op)(hp:e.pre)(K:AOps P Y ops dr cf Q rest (St.put ⟨env,upds m e.ups,nx+e.new⟩ d e.val) (tr++[(e.rd,e.ups.map (·.1))])):
 AOps P Y ops dr cf Q (⟨d,op,ty,pos,after,none⟩::rest) ⟨env,m,nx⟩ tr:=by
 simp only[AOps,AOp];rw[he.nc,he.ny,he.ok];exact⟨ha,hp,K⟩
theorem aI(he:Ef P op env m nx ⟨pre,v,[],rd,0⟩)(ha:ja env op.operands.toList)(hp:pre)(K:AOps P Y ops dr cf Q rest ⟨up env t v,m,nx⟩ (tr++[(rd,[])])):
 AOps P Y ops dr cf Q (⟨some t,op,ty,pos,after,none⟩::rest) ⟨env,m,nx⟩ tr:=Ap he (r5 ha) hp K
theorem BM{c a b:Operand}{g:Bool}(hc:(opd env c).core=.s (.bool g)):Ef P (.pick c a b) env m nx ⟨(g=true->(opd env a).ask/\(opd env a).core.bool?.isSome=true)/\(g=false->(opd env b).ask/\(opd env b).core.bool?.isSome=true),
 .s (.bool (if g then(opd env a).core.bool?.getD false else(opd env b).core.bool?.getD false)),[],[],0⟩:=⟨by simp only[aop,rho,hc,D.bool?],rfl,rfl⟩
theorem adE{c a b:Operand}{g x y:Bool}(hc:opd env c=.s (.bool g))(ha:(opd env a).core=.s (.bool x))(hb:(opd env b).core=.s (.bool y))(h1:g=true->(opd env a).ask)(h2:g=false->(opd env b).ask)
 (K:AOps P Y ops dr cf Q rest ⟨up env t (.s (.bool (if g then x else y))),m,nx⟩ (tr++[([],[])])):
 AOps P Y ops dr cf Q (⟨some t,.pick c a b,ty,pos,after,none⟩::rest) ⟨env,m,nx⟩ tr:=by
 refine Ap (BM (g:=g) (by rw[hc];rfl)) (by simp only[asks,hc,D.ask]) ⟨fun h=>⟨h1 h,by rw[ha];rfl⟩,fun h=>⟨h2 h,by rw[hb];rfl⟩⟩ ?_;simp only[ha,hb,D.bool?,Option.getD_some];exact K
theorem ab6{c a b:Operand}{x:Bool}(hc:opd env c=.s (.bool true))(ha:(opd env a).core=.s (.bool x))(h1:(opd env a).ask)
 (K:AOps P Y ops dr cf Q rest ⟨up env t (.s (.bool x)),m,nx⟩ (tr++[([],[])])):
 AOps P Y ops dr cf Q (⟨some t,.pick c a b,ty,pos,after,none⟩::rest) ⟨env,m,nx⟩ tr:=by
 refine Ap (BM (g:=true) (by rw[hc];rfl)) (by simp only[asks,hc,D.ask]) ⟨fun _=>⟨h1,by rw[ha];rfl⟩,fun h=>by cases h⟩ ?_;simp only[ha,D.bool?,Option.getD_some,if_true];exact K
theorem ab7{c a b:Operand}{y:Bool}(hc:opd env c=.s (.bool false))(hb:(opd env b).core=.s (.bool y))(h2:(opd env b).ask)
 (K:AOps P Y ops dr cf Q rest ⟨up env t (.s (.bool y)),m,nx⟩ (tr++[([],[])])):
 AOps P Y ops dr cf Q (⟨some t,.pick c a b,ty,pos,after,none⟩::rest) ⟨env,m,nx⟩ tr:=by
 refine Ap (BM (g:=false) (by rw[hc];rfl)) (by simp only[asks,hc,D.ask]) ⟨fun h=>oH,fun _=>⟨h2,by rw[hb];rfl⟩⟩ ?_;simp only[hb,D.bool?,Option.getD_some,Bool.false_eq_true,if_false];exact K
theorem cA{i:Nat}{row:Option Row}(he:Ef P op env m nx ⟨pre,v,[(i,row)],rd,0⟩)(ha:ja env op.operands.toList)(hp:pre)(K:AOps P Y ops dr cf Q rest ⟨env,up m i row,nx⟩ (tr++[(rd,[i])])):
 AOps P Y ops dr cf Q (⟨none,op,ty,pos,after,none⟩::rest) ⟨env,m,nx⟩ tr:=Ap he (r5 ha) hp K
theorem iB{row:Row}(he:Ef P op env m nx ⟨pre,v,[(nx,some row)],rd,1⟩)(ha:ja env op.operands.toList)(hp:pre)(K:AOps P Y ops dr cf Q rest ⟨up env t v,up m nx (some row),nx+1⟩ (tr++[(rd,[nx])])):
 AOps P Y ops dr cf Q (⟨some t,op,ty,pos,after,none⟩::rest) ⟨env,m,nx⟩ tr:=Ap he (r5 ha) hp K
theorem vo{i:Nat}{row:Row}(he:Ef P op env m nx ⟨pre,v,[(i,none),(nx,some row)],rd,1⟩)(ha:ja env op.operands.toList)(hp:pre)(K:AOps P Y ops dr cf Q rest ⟨up env t v,up (up m i none) nx (some row),nx+1⟩ (tr++[(rd,[i,nx])])):
 AOps P Y ops dr cf Q (⟨some t,op,ty,pos,after,none⟩::rest) ⟨env,m,nx⟩ tr:=Ap he (r5 ha) hp K
theorem bt{j:Nat}{b c:Bool}{u:Nat}(hj:(ops[j]?).bind (·.dst)=some u)(hg:guardC (env u) b=some c)(he:Ef P op env m nx ⟨pre,v,[],rd,0⟩)(ha:c=true->ja env op.operands.toList/\pre)
 (K:AOps P Y ops dr cf Q rest ⟨up env t (.opt c v),m,nx⟩ (tr++[(rd,[])])):AOps P Y ops dr cf Q (⟨some t,op,ty,pos,after,some (j,b)⟩::rest) ⟨env,m,nx⟩ tr:=by
 simp only[AOps,AOp];rw[hj];simp only[Option.bind_some];rw[hg,he.nc,he.ny,he.ok];exact⟨fun hc=>⟨r5 (ha hc).1,(ha hc).2⟩,K⟩
theorem ab8{j:Nat}{b0 C:Bool}{u:Nat}(hj:(ops[j]?).bind (·.dst)=some u)(hg:guardC (env u) b0=some C){c a b:Operand}{g x y:Bool}(hc:(opd env c).core=.s (.bool g))(ha:(opd env a).core=.s (.bool x))(hb:(opd env b).core=.s (.bool y))
 (h0:C=true->(opd env c).ask) (h1:C=true->g=true->(opd env a).ask) (h2:C=true->g=false->(opd env b).ask)
 (K:AOps P Y ops dr cf Q rest ⟨up env t (.opt C (.s (.bool (if g then x else y)))),m,nx⟩ (tr++[([],[])])):
 AOps P Y ops dr cf Q (⟨some t,.pick c a b,ty,pos,after,some (j,b0)⟩::rest) ⟨env,m,nx⟩ tr:=by
 have he:=BM (P:=P) (env:=env) (m:=m) (nx:=nx) (a:=a) (b:=b) hc;simp only[ha,hb,D.bool?,Option.getD_some,Option.isSome_some,and_true] at he;simp only[AOps,AOp];rw[hj];simp only[Option.bind_some];rw[hg,he.nc,he.ny,he.ok];exact⟨fun hc=>⟨by simp only[asks];exact h0 hc,h1 hc,h2 hc⟩,K⟩
theorem afQ{j:Nat}{b:Bool}{u:Nat}{d:Option Nat}{e:Eff}(hj:(ops[j]?).bind (·.dst)=some u)(hg:guardC (env u) b=some true)(he:Ef P op env m nx e)(ha:ja env op.operands.toList)(hp:e.pre)
 (K:e.ups=[]->e.new=0->AOps P Y ops dr cf Q rest (St.put ⟨env,m,nx⟩ d (.opt true e.val)) (tr++[(e.rd,[])]))
 (K':AOps P Y ops dr cf Q rest (St.put ⟨env,upds m e.ups,nx+e.new⟩ d e.val) (tr++[(e.rd,e.ups.map (·.1))])):AOps P Y ops dr cf Q (⟨d,op,ty,pos,after,some (j,b)⟩::rest) ⟨env,m,nx⟩ tr:=by
 simp only[AOps,AOp];rw[hj];simp only[Option.bind_some];rw[hg,he.nc,he.ny,he.ok];simp only;split
 .rename_i h;simp only[aM,List.isEmpty_iff,beq_iff_eq] at h;exact⟨fun _=>⟨r5 ha,hp⟩,K h.1 h.2⟩
 .exact⟨fun _=>⟨r5 ha,hp,K'⟩,oS⟩
theorem Ut{j:Nat}{b:Bool}{u:Nat}{d:Option Nat}(hj:(ops[j]?).bind (·.dst)=some u)(hg:guardC (env u) b=some false)
 (K:∀ (x:D) rd,AOps P Y ops dr cf Q rest (St.put ⟨env,m,nx⟩ d (.opt false x)) (tr++[(rd,[])])):AOps P Y ops dr cf Q (⟨d,op,ty,pos,after,some (j,b)⟩::rest) ⟨env,m,nx⟩ tr:=by
 simp only[AOps,AOp];rw[hj];simp only[Option.bind_some];rw[hg];simp only;split
 .exact .inr ⟨oS,fun _=>K .u []⟩
 .split
  .exact⟨oS,fun _=>K .u []⟩
  .split
   .split
    .exact⟨oS,K _ _⟩
    .exact⟨oS,fun _=>K .u []⟩
   .exact⟨trivial,K .u []⟩
theorem aov{j:Nat}{b:Bool}{u t:Nat}(hj:(ops[j]?).bind (·.dst)=some u)(hg:guardC (env u) b=some false)
 (K:∀ (x:D) rd,AOps P Y ops dr cf Q rest ⟨up env t (.opt false x),m,nx⟩ (tr++[(rd,[])])):AOps P Y ops dr cf Q (⟨some t,op,ty,pos,after,some (j,b)⟩::rest) ⟨env,m,nx⟩ tr:=Ut hj hg K
theorem DU{f:FuncId}{args:List D}{d:Option Nat}(hc:callD (rho env op) op=some (f,args))(ha:ja env op.operands.toList)(h:CallOp P dr ⟨env,m,nx⟩ f args fun r m nx rd wr=>AOps P Y ops dr cf Q rest (St.put ⟨env,m,nx⟩ d r) (tr++[(rd,wr)])):
 AOps P Y ops dr cf Q (⟨d,op,ty,pos,after,none⟩::rest) ⟨env,m,nx⟩ tr:=by
 simp only[AOps,AOp];rw[hc];exact⟨r5 ha,h⟩
theorem afR{f:FuncId}{args:List D}{r:D}(h:PCall P f args r)(hc:callD (rho env op) op=some (f,args))(ha:ja env op.operands.toList)(K:AOps P Y ops dr cf Q rest ⟨up env t r,m,nx⟩ (tr++[([],[])])):
 AOps P Y ops dr cf Q (⟨some t,op,ty,pos,after,none⟩::rest) ⟨env,m,nx⟩ tr:=DU hc ha (.inl ⟨r,h,K⟩)
theorem Ce{f:FuncId}{args es:List D}{n:Nat}{C:TypeId}(h:OCall P f args es n C)(hc:callD (rho env op) op=some (f,args))(ha:ja env op.operands.toList)(K:AOps P Y ops dr cf Q rest ⟨up env t (.rs nx 0 n),up m nx (some (.cells es C)),nx+1⟩ (tr++[([],[nx])])):
 AOps P Y ops dr cf Q (⟨some t,op,ty,pos,after,none⟩::rest) ⟨env,m,nx⟩ tr:=DU hc ha (.inr (.inr (.inl ⟨es,n,C,h,K⟩)))
theorem kO{f:FuncId}{args:List D}{d:Option Nat}{cN:D->Mem->Nat->Prop}(h:ACalls P f args m nx cN)(hc:callD (rho env op) op=some (f,args))(ha:ja env op.operands.toList)
 (K:∀ r m' nx',cN r m' nx'->AOps P Y ops false cf Q rest (St.put ⟨env,m',nx'⟩ d r) (tr++[([],[])])):
 AOps P Y ops false cf Q (⟨d,op,ty,pos,after,none⟩::rest) ⟨env,m,nx⟩ tr:=DU hc ha (.inr (.inr (.inr (.inl ⟨rfl,h.mono K⟩))))
theorem afS{f:FuncId}{args args':List D}{r:D}{rds:List Nat}(h:PCall P f args' r)(hs:r.scal=true)(C:Sns P rds m args args')(hc:callD (rho env op) op=some (f,args))(ha:ja env op.operands.toList)
 (K:AOps P Y ops dr cf Q rest ⟨up env t r,m,nx⟩ (tr++[(rds,[])])):AOps P Y ops dr cf Q (⟨some t,op,ty,pos,after,none⟩::rest) ⟨env,m,nx⟩ tr:=DU hc ha (.inr (.inl ⟨args',rds,r,C,h,hs,K⟩))
theorem B2{j:Nat}{b c:Bool}{u:Nat}{f:FuncId}{args:List D}{r:D}(hj:(ops[j]?).bind (·.dst)=some u)(hg:guardC (env u) b=some c)(hc:callD (rho env op) op=some (f,args))(h:c=true->ja env op.operands.toList/\PCall P f args r)
 (K:AOps P Y ops dr cf Q rest ⟨up env t (.opt c r),m,nx⟩ (tr++[([],[])])):AOps P Y ops dr cf Q (⟨some t,op,ty,pos,after,some (j,b)⟩::rest) ⟨env,m,nx⟩ tr:=by
 simp only[AOps,AOp];rw[hj];simp only[Option.bind_some];rw[hg,hc];exact .inl ⟨r,fun C=>⟨r5 (h C).1,(h C).2⟩,K⟩
theorem ab4{j:Nat}{b:Bool}{u:Nat}{d:Option Nat}{f:FuncId}{args:List D}(hj:(ops[j]?).bind (·.dst)=some u)(hg:guardC (env u) b=some true)(hc:callD (rho env op) op=some (f,args))(ha:ja env op.operands.toList)
 (h:CallOp P dr ⟨env,m,nx⟩ f args fun r m nx rd wr=>AOps P Y ops dr cf Q rest (St.put ⟨env,m,nx⟩ d r) (tr++[(rd,wr)])):AOps P Y ops dr cf Q (⟨d,op,ty,pos,after,some (j,b)⟩::rest) ⟨env,m,nx⟩ tr:=by
 simp only[AOps,AOp];rw[hj];simp only[Option.bind_some];rw[hg,hc];exact .inr ⟨fun _=>⟨r5 ha,h⟩,oS⟩
theorem MF{l:Nat}{args:List D}{d:Option Nat}(hc:callD (rho env op) op=none)(hy:yieldD (rho env op) op=some (l,args))(ha:ja env op.operands.toList)(h:Y l args m nx fun r m' nx'=>AOps P Y ops false cf Q rest (St.put ⟨env,m',nx'⟩ d r) (tr++[([],[])])):
 AOps P Y ops false cf Q (⟨d,op,ty,pos,after,none⟩::rest) ⟨env,m,nx⟩ tr:=by
 simp only[AOps,AOp];rw[hc,hy];exact⟨r5 ha,trivial,h⟩
theorem HS{j:Nat}{b:Bool}{u:Nat}{l:Nat}{args:List D}{d:Option Nat}(hj:(ops[j]?).bind (·.dst)=some u)(hg:guardC (env u) b=some true)(hc:callD (rho env op) op=none)(hy:yieldD (rho env op) op=some (l,args))(ha:ja env op.operands.toList)
 (h:Y l args m nx fun r m' nx'=>AOps P Y ops false cf Q rest (St.put ⟨env,m',nx'⟩ d r) (tr++[([],[])])):AOps P Y ops false cf Q (⟨d,op,ty,pos,after,some (j,b)⟩::rest) ⟨env,m,nx⟩ tr:=by
 simp only[AOps,AOp];rw[hj];simp only[Option.bind_some];rw[hg,hc,hy];exact⟨fun _=>⟨r5 ha,trivial,h⟩,oS⟩
def gM(K:St->Prop):Exit->St->Prop
 | .normal,st=>K st
 |_,_=>True
theorem af{K:St->Prop}{st:St}(h:K st):AOps P Y ops dr [] (gM K) [] st tr:=⟨oS,h⟩
theorem a8{K:St->Prop}{st:St}(hc:∀ q∈cf,apartT tr q.1 q.2)(h:K st):AOps P Y ops dr cf (gM K) [] st tr:=⟨hc,h⟩
variable{st:St}{a b c:Code}
theorem AOps.lC{cf:List (Nat×Nat)}{K:St->Prop}{Q:Exit->St->Prop}[eC Y]{l:List Oper}(h:AOps P Y ops dr cf (gM K) l st tr)(hk:∀ st,K st->Q .normal st):AOps P Y ops dr cf Q l st tr:=
 AOps.mono (Q:=gM K) (fun st h=>hk st h) l st tr h
theorem qI[eC Y]{id:Nat}(h:AOps P Y ops false [] (gM fun st=>Q .normal st) ops.toList st []):AW P Y rf (.region id ops false) Q st:=AOps.lC h fun _ h=>h
theorem B0[eC Y]{id:Nat}(hi:drawInfo ops=some cf)(h:AOps P Y ops true cf (gM fun st=>Q .normal st) ops.toList st []):AW P Y rf (.region id ops true) Q st:=by
 show match drawInfo ops with
  |some cf=>AOps P Y ops true cf Q ops.toList st []
  |none=>False
 rw[hi];exact AOps.lC h fun _ h=>h
theorem aj[eC Y]{id:Nat}(h:AOps P Y ops false [] (gM fun st=>AW P Y rf b Q st) ops.toList st []):AW P Y rf (.seq (.region id ops false) b) Q st:=
 qI (rf:=rf) (id:=id) (AOps.lC h fun st h=>⟨st,.refl st,h⟩)
theorem dF[eC Y]{id:Nat}(hi:drawInfo ops=some cf)(h:AOps P Y ops true cf (gM fun st=>AW P Y rf b Q st) ops.toList st []):AW P Y rf (.seq (.region id ops true) b) Q st:=
 B0 (rf:=rf) (id:=id) hi (AOps.lC h fun st h=>⟨st,.refl st,h⟩)
theorem aW{st':St}(hg:Ghost P st st')(h:AW P Y rf b Q st'):∃ C,Ghost P st C/\AW P Y rf b Q C:=⟨st',hg,h⟩
theorem az[eC Y]{id:Nat}(h:AOps P Y ops false [] (gM fun st=>∃ st',Ghost P st st'/\AW P Y rf b Q st') ops.toList st []):AW P Y rf (.seq (.region id ops false) b) Q st:=
 qI (rf:=rf) (id:=id) (AOps.lC h fun _ h=>h)
theorem pK[eC Y]{id:Nat}(hi:drawInfo ops=some cf)(h:AOps P Y ops true cf (gM fun st=>∃ st',Ghost P st st'/\AW P Y rf b Q st') ops.toList st []):AW P Y rf (.seq (.region id ops true) b) Q st:=
 B0 (rf:=rf) (id:=id) hi (AOps.lC h fun _ h=>h)
theorem Uo[eC Y](J:St->Prop)(h:AW P Y rf a (seqQ J Q) st)(k:∀ st,J st->AW P Y rf b Q st):AW P Y rf (.seq a b) Q st:=
 wx a (fun e st h=>by
  cases e with
  |normal=>exact⟨st,.refl st,k st h⟩
  |_=>exact h) h
theorem eI[eC Y](J:St->Prop)(h:AW P Y rf a (seqQ J Q) st)(k:∀ st,J st->∃ st',Ghost P st st'/\AW P Y rf b Q st'):AW P Y rf (.seq a b) Q st:=
 wx a (fun e st h=>by
  cases e with
  |normal=>exact k st h
  |_=>exact h) h
theorem bP[eC Y](h:AW P Y rf b Q st):AW P Y rf (.seq .skip b) Q st:=⟨st,.refl st,h⟩
theorem bX(h:Q .ret st):AW P Y rf (.seq .ret b) Q st:=h
theorem jy{id:Nat}(h:Q (.exit id) st):AW P Y rf (.seq (.exit id) b) Q st:=h
theorem Zy{l:Nat}(h:AW P Y rf b Q st):AW P Y rf (.seq (.label l) b) Q st:=⟨st,.refl st,h⟩
theorem aB[eC Y](h:AW P Y rf (.seq a (.seq b c)) Q st):AW P Y rf (.seq (.seq a b) c) Q st:=by
 refine wx a (fun e st h=>?_) h;cases e with
 |normal=>
  obtain⟨st',hg,h⟩:=h;refine⟨st',hg,wx b (fun e st h=>?_) h⟩;cases e<;>exact h
 |_=>exact h
theorem aw{c:Operand}{x y:Code}{g:Bool}(hc:opd st.env c=.s (.bool g))(ht:g=true->AW P Y rf x Q st)(hf:g=false->AW P Y rf y Q st):AW P Y rf (.cond c x y) Q st:=by
 rw[RN];rw[hc];exact⟨trivial,ht,hf⟩
theorem cx{c:Operand}{x y:Code}{g:Bool}(hc:opd st.env c=.s (.bool g))(ht:g=true->AW P Y rf (.seq x b) Q st)(hf:g=false->AW P Y rf (.seq y b) Q st):AW P Y rf (.seq (.cond c x y) b) Q st:=aw hc ht hf
theorem adF{c:Operand}{x y:Code}(hc:opd st.env c=.ub)(ht:AW P Y rf x Q st)(hf:AW P Y rf y Q st):AW P Y rf (.cond c x y) Q st:=by
 rw[RN];rw[hc];exact⟨trivial,ht,hf⟩
theorem oL{id:Nat}(h:AW P Y rf b (blockQ id Q) st):AW P Y rf (.block id b) Q st:=h
theorem Pc[eC Y]{id:Nat}(J:St->Prop)(h:AW P Y rf a (blockQ id (seqQ J Q)) st)(k:∀ st,J st->∃ st',Ghost P st st'/\AW P Y rf b Q st'):AW P Y rf (.seq (.block id a) b) Q st:=eI J (oL h) k
theorem adx[eC Y]{α:Type}(S:α->St)(J:α->Prop)(μ:α->Nat)(X:α)(h0:st=S X)(hJ:J X)(h:∀ x,J x->AW P Y rf b (seqQ (fun st'=>∃ M C,Ghost P st' M/\M=S C/\J C/\μ C<μ x) Q) (S x)):AW P Y rf (.loop b) Q st:=by
 refine QY (fun j st=>∃ x,st=S x/\J x/\μ x=j) (j₀:=μ X) ⟨X,h0,hJ,rfl⟩ ?_;rintro j st ⟨x,rfl,hx,rfl⟩;refine wx b (fun e st' hq=>?_) (h x hx);cases e with
 |normal=>
  obtain⟨M,C,h1,h2,h3,h4⟩:=hq;exact⟨M,h1,μ C,h4,C,h2,h3,rfl⟩
 |_=>exact hq
end
theorem gT{P:Program}{Y:YSpec}{rf:Bool}{Q:Exit->St->Prop}{st:St}{c:Operand}{x y:Code}(K:AW P Y rf y Q st)(h:opd st.env c=.s (.bool false):=by exact rfl):AW P Y rf (.cond c x y) Q st:=aw h (fun h=>by cases h) fun _=>K
theorem gJ{P:Program}{Y:YSpec}{rf:Bool}{Q:Exit->St->Prop}{st:St}{c:Operand}{x y:Code}(K:AW P Y rf x Q st)(h:opd st.env c=.s (.bool true):=by exact rfl):AW P Y rf (.cond c x y) Q st:=aw h (fun _=>K) fun h=>by cases h
theorem gU{P:Program}{Y:YSpec}{rf:Bool}{Q:Exit->St->Prop}{st:St}{c:Operand}{x y b:Code}(K:AW P Y rf (.seq y b) Q st)(h:opd st.env c=.s (.bool false):=by exact rfl):AW P Y rf (.seq (.cond c x y) b) Q st:=aw h (fun h=>by cases h) fun _=>K
theorem dN{P:Program}{Y:YSpec}{rf:Bool}{Q:Exit->St->Prop}{st:St}{c:Operand}{x y b:Code}(K:AW P Y rf (.seq x b) Q st)(h:opd st.env c=.s (.bool true):=by exact rfl):AW P Y rf (.seq (.cond c x y) b) Q st:=aw h (fun _=>K) fun h=>by cases h
section
variable{P:Program}{env:Env}{m:Mem}{nx:Nat}{t:TypeId}{x y a:Operand}{d v:D}{k:IntKind}{n n':Int}{p q:TypeId}
theorem kL(hx:(opd env x).core=v):Ef P (.move x) env m nx ⟨True,v,[],[],0⟩:=⟨by simp only[aop,rho,hx],rfl,rfl⟩
theorem oJ(hx:(opd env x).core=v):Ef P (.assign x) env m nx ⟨True,v,[],[],0⟩:=⟨by simp only[aop,rho,hx],rfl,rfl⟩
theorem Lf(op:BinOp)(v:Value)(y:Operand):nilD P m op t (.s v) y=none:=by
 unfold nilD;split<;>first|rfl|(rename_i h;cases h)
theorem aeB{op:BinOp}{v w:Value}(h:∀ a b,v=.bool a->w=.bool b->False):binD P op t (.s v) (.s w)=(binV op v w).map fun r=>(r.1,.s r.2):=by
 cases v<;>cases w<;>first|rfl|exact(h _ _ rfl rfl).elim
theorem nT{op:BinOp}{v w u:Value}{pre:Prop}(hx:(opd env x).core=.s v)(hy:(opd env y).core=.s w)(hn:∀ a b,v=.bool a->w=.bool b->False)(hb:binV op v w=some (pre,u)):Ef P (.binOp op t x y p) env m nx ⟨pre,.s u,[],[],0⟩:=
 ⟨by simp only[aop,rho,hx,hy,Lf,aeB hn,hb,Option.map_some],rfl,rfl⟩
section ints
variable(hx:(opd env x).core=.s (.int k n))(hy:(opd env y).core=.s (.int k n'))
include hx hy
theorem LK:Ef P (.binOp .lss t x y p) env m nx ⟨k=k,.s (.bool (decide (n<n'))),[],[],0⟩:=nT hx hy oS rfl
theorem LL:Ef P (.binOp .leq t x y p) env m nx ⟨k=k,.s (.bool (decide (n<=n'))),[],[],0⟩:=nT hx hy oS rfl
theorem LM:Ef P (.binOp .gtr t x y p) env m nx ⟨k=k,.s (.bool (decide (n'<n))),[],[],0⟩:=nT hx hy oS rfl
theorem LN:Ef P (.binOp .geq t x y p) env m nx ⟨k=k,.s (.bool (decide (n'<=n))),[],[],0⟩:=nT hx hy oS rfl
theorem LO:Ef P (.binOp .eql t x y p) env m nx ⟨k=k,.s (.bool (n==n')),[],[],0⟩:=nT hx hy oS rfl
theorem LP:Ef P (.binOp .neq t x y p) env m nx ⟨k=k,.s (.bool (n !=n')),[],[],0⟩:=nT hx hy oS rfl
theorem aeC:Ef P (.binOp .add t x y p) env m nx ⟨k=k,.s (.int k (k.wrap (n+n'))),[],[],0⟩:=nT hx hy oS rfl
theorem aeD:Ef P (.binOp .sub t x y p) env m nx ⟨k=k,.s (.int k (k.wrap (n - n'))),[],[],0⟩:=nT hx hy oS rfl
theorem aeE:Ef P (.binOp .quo t x y p) env m nx ⟨k=k/\n'≠0,.s (.int k (k.wrap (n.tdiv n'))),[],[],0⟩:=nT hx hy oS rfl
theorem afD:Ef P (.binOp .rem t x y p) env m nx ⟨k=k/\n'≠0,.s (.int k (n.tmod n')),[],[],0⟩:=nT hx hy oS rfl
theorem afE:Ef P (.binOp .and t x y p) env m nx ⟨k=k,.s (.int k (intBitsV .and k n n')),[],[],0⟩:=nT hx hy oS rfl
theorem ai6:Ef P (.binOp .or t x y p) env m nx ⟨k=k,.s (.int k (intBitsV .or k n n')),[],[],0⟩:=nT hx hy oS rfl
end ints
theorem afF{C:IntKind}(hx:(opd env x).core=.s (.int k n))(hy:(opd env y).core=.s (.int C n')):Ef P (.binOp .shl t x y p) env m nx ⟨0<=n',.s (.int k (k.wrap (n*2 ^ (min n'.toNat k.bits)))),[],[],0⟩:=nT hx hy oS rfl
theorem afG{C:IntKind}(hx:(opd env x).core=.s (.int k n))(hy:(opd env y).core=.s (.int C n')):Ef P (.binOp .shr t x y p) env m nx ⟨0<=n',.s (.int k (n.fdiv (2 ^ (min n'.toNat k.bits)))),[],[],0⟩:=nT hx hy oS rfl
theorem i64_in(n:Int)(h: -9223372036854775808<=n/\n<=9223372036854775807):IntKind.i64.wrap n=n:=Go.IntWalk.i64_in n h
theorem Ug(hx:(opd env x).core=.s (.int .i64 n))(hy:(opd env y).core=.s (.int .i64 n'))(hb: -9223372036854775808<=n+n'/\n+n'<=9223372036854775807):Ef P (.binOp .add t x y p) env m nx ⟨IntKind.i64=IntKind.i64,.s (.int .i64 (n+n')),[],[],0⟩:=by
 have:=aeC (P:=P) (m:=m) (nx:=nx) (t:=t) (p:=p) hx hy
 rwa[i64_in _ hb] at this
theorem LQ(hx:(opd env x).core=.s (.int .i64 n))(hy:(opd env y).core=.s (.int .i64 n'))(hb: -9223372036854775808<=n - n'/\n - n'<=9223372036854775807):Ef P (.binOp .sub t x y p) env m nx ⟨IntKind.i64=IntKind.i64,.s (.int .i64 (n - n')),[],[],0⟩:=by
 have:=aeD (P:=P) (m:=m) (nx:=nx) (t:=t) (p:=p) hx hy
 rwa[i64_in _ hb] at this
section strings
variable{s s':ByteArray}(hx:(opd env x).core=.s (.string s))(hy:(opd env y).core=.s (.string s'))
include hx hy
theorem Lg:Ef P (.binOp .eql t x y p) env m nx ⟨True,.s (.bool (s.toList==s'.toList)),[],[],0⟩:=nT hx hy oS rfl
theorem S9:Ef P (.binOp .geq t x y p) env m nx ⟨True,.s (.bool !(Op.bytesLess s.toList s'.toList)),[],[],0⟩:=nT hx hy oS rfl
end strings
theorem S'{b C:Bool}(hx:(opd env x).core=.s (.bool b))(hy:(opd env y).core=.s (.bool C)):Ef P (.binOp .eql t x y p) env m nx ⟨boT P t=true,.s (.bool (b==C)),[],[],0⟩:=
 ⟨by simp only[aop,rho,hx,hy,Lf,binD,Option.map_some],rfl,rfl⟩
theorem aeF{b C:Bool}(hx:(opd env x).core=.s (.bool b))(hy:(opd env y).core=.s (.bool C)):Ef P (.binOp .neq t x y p) env m nx ⟨boT P t=true,.s (.bool !(b==C)),[],[],0⟩:=
 ⟨by simp only[aop,rho,hx,hy,Lf,binD,Option.map_some],rfl,rfl⟩
theorem Uh{b:Bool}(hx:(opd env x).core=.s (.bool b)):Ef P (.unOp .not t x) env m nx ⟨True,.s (.bool !b),[],[],0⟩:=⟨by simp only[aop,rho,hx,unV,Option.map_some],rfl,rfl⟩
theorem adt{z:List D}(C:zeroP P t=z):Ef P (.alloc t) env m nx ⟨tyOk P t=true,.rp nx 0,[(nx,some (.cells z t))],[],1⟩:=⟨by simp only[aop,C],rfl,rfl⟩
theorem Ui{cs:List D}(hx:(opd env x).core=d)(hc:d.cells=cs):Ef P (.box t x) env m nx ⟨cs.all D.one=true,.rp nx 0,[(nx,some (.cells cs t))],[],1⟩:=⟨by simp only[aop,rho,hx,hc],rfl,rfl⟩
theorem HA(hx:(opd env x).core=d)(hc:d.cells=[d]):Ef P (.box t x) env m nx ⟨[d].all D.one=true,.rp nx 0,[(nx,some (.cells [d] t))],[],1⟩:=Ui hx hc
theorem uW{cs:List D}(hx:(opd env x).core=.agg cs):Ef P (.box t x) env m nx ⟨cs.all D.one=true,.rp nx 0,[(nx,some (.cells cs t))],[],1⟩:=Ui hx rfl
theorem Ta{cs:List D}(hx:(opd env x).core=.pt (v::cs))(ha:aggP P t=false):Ef P (.load t x) env m nx ⟨tyOk P t=true/\P.cellsOf t<=(v::cs).length,v,[],[],0⟩:=⟨by simp[aop,rho,hx,takeV,ha],rfl,rfl⟩
theorem mK{cs vs:List D}{n:Nat}(hx:(opd env x).core=.pt cs)(ha:aggP P t=true)(hc:P.cellsOf t=n)(hv:cs.take n=vs):Ef P (.load t x) env m nx ⟨tyOk P t=true/\P.cellsOf t<=cs.length,.agg vs,[],[],0⟩:=⟨by simp[aop,rho,hx,takeV,ha,hc,hv],rfl,rfl⟩
theorem gQ{i off:Nat}{cs cs':List D}{e:TypeId}(hx:(opd env x).core=.rp i off)(hm:m i=some (.cells cs e))(hd:cs.drop off=v::cs')(ha:aggP P t=false):Ef P (.load t x) env m nx ⟨tyOk P t=true/\off+P.cellsOf t<=cs.length,v,[],[i],0⟩:=⟨by simp[aop,rho,hx,hm,takeV,ha,hd],rfl,rfl⟩
theorem ep{i off:Nat}{cs vs:List D}{e:TypeId}{n:Nat}(hx:(opd env x).core=.rp i off)(hm:m i=some (.cells cs e))(ha:aggP P t=true)(hc:P.cellsOf t=n)(hv:(cs.drop off).take n=vs):Ef P (.load t x) env m nx ⟨tyOk P t=true/\off+P.cellsOf t<=cs.length,.agg vs,[],[i],0⟩:=⟨by simp[aop,rho,hx,hm,takeV,ha,hc,hv],rfl,rfl⟩
theorem RI{i off:Nat}{cs cs' vs:List D}{e:TypeId}(hx:(opd env x).core=.rp i off)(hy:(opd env y).core=d)(hm:m i=some (.cells cs e))(hv:d.cells=vs)(hs:splice cs off vs=cs'):
 Ef P (.store t x y) env m nx ⟨tyOk P t=true/\vs.length=P.cellsOf t/\off+P.cellsOf t<=cs.length/\vs.all D.one=true,.tup [],[(i,some (.cells cs' e))],[i],0⟩:=⟨by simp only[aop,rho,hx,hy,hm,hv,hs],rfl,rfl⟩
theorem fI{i off:Nat}{cs cs':List D}{e:TypeId}(hx:(opd env x).core=.rp i off)(hy:(opd env y).core=d)(hm:m i=some (.cells cs e))(hv:d.cells=[d])(hs:cs.set off d=cs'):
 Ef P (.store t x y) env m nx ⟨tyOk P t=true/\[d].length=P.cellsOf t/\off+P.cellsOf t<=cs.length/\[d].all D.one=true,.tup [],[(i,some (.cells cs' e))],[i],0⟩:=RI hx hy hm hv hs
theorem jk{i off:Nat}{cs cs' vs:List D}{e:TypeId}(hx:(opd env x).core=.rp i off)(hy:(opd env y).core=.agg vs)(hm:m i=some (.cells cs e))(hs:splice cs off vs=cs'):
 Ef P (.store t x y) env m nx ⟨tyOk P t=true/\vs.length=P.cellsOf t/\off+P.cellsOf t<=cs.length/\vs.all D.one=true,.tup [],[(i,some (.cells cs' e))],[i],0⟩:=RI hx hy hm rfl hs
theorem RJ{cs:List D}{j off:Nat}{C:TypeId}(hx:(opd env x).core=.pt cs)(hf:fieldP P t j=some (off,C)):Ef P (.fieldAddr t x j) env m nx ⟨0<P.cellsOf C,.pt (cs.drop off),[],[],0⟩:=⟨by simp only[aop,rho,hx,hf],rfl,rfl⟩
theorem uL{i o:Nat}{j off:Nat}{C:TypeId}{r:Row}(hx:(opd env x).core=.rp i o)(hm:m i=some r)(hf:fieldP P t j=some (off,C)):Ef P (.fieldAddr t x j) env m nx ⟨0<P.cellsOf C,.rp i (o+off),[],[i],0⟩:=⟨by simp only[aop,rho,hx,hf,hm],rfl,rfl⟩
theorem Tb{cs:List D}(hx:(opd env x).core=.pt cs):Ef P (.nilCheck x) env m nx ⟨True,.pt cs,[],[],0⟩:=⟨by simp only[aop,rho,hx],rfl,rfl⟩
theorem Tc{i o:Nat}{r:Row}(hx:(opd env x).core=.rp i o)(hm:m i=some r):Ef P (.nilCheck x) env m nx ⟨True,.rp i o,[],[i],0⟩:=⟨by simp only[aop,rho,hx,hm],rfl,rfl⟩
theorem LR{es cs:List D}{l sz:Nat}{e:TypeId}(hx:(opd env x).core=.sl es l)(hy:(opd env y).core=.s (.int k n))(he:elemP P t=e)(hs:P.cellsOf e=sz)(hd:es.drop (n.toNat*sz)=cs):
 Ef P (.indexAddr t x y) env m nx ⟨slT P t=true/\0<=n/\n<l/\(n.toNat+1)*sz<=es.length,.pt cs,[],[],0⟩:=⟨by simp only[aop,rho,hx,hy,he,hs,hd],rfl,rfl⟩
theorem HB{j off l sz:Nat}{e:TypeId}{r:Row}(hx:(opd env x).core=.rs j off l)(hy:(opd env y).core=.s (.int k n))(hm:m j=some r)(he:elemP P t=e)(hs:P.cellsOf e=sz):
 Ef P (.indexAddr t x y) env m nx ⟨slT P t=true/\0<=n/\n<l,.rp j (off+n.toNat*sz),[],[j],0⟩:=⟨by simp only[aop,rho,hx,hy,hm,he,hs],rfl,rfl⟩
theorem Td{j off sz l:Nat}{e:TypeId}{r:Row}(hx:(opd env x).core=.rp j off)(hy:(opd env y).core=.s (.int k n))(hm:m j=some r)(he:elemP P t=e)(hs:P.cellsOf e=sz)(hl:lenP P t=l):
 Ef P (.indexAddr t x y) env m nx ⟨arT P t=true/\0<=n/\n<l,.rp j (off+n.toNat*sz),[],[j],0⟩:=⟨by simp only[aop,rho,hx,hy,hm,he,hs,hl],rfl,rfl⟩
section builtins
theorem wN{b:Builtin}{ts:Array TypeId}{args:Array Operand}{aS:List D}{e:Eff}(hs:ts.size=args.size)(ha:args.toList.map (fun x=>(opd env x).core)=aS)(hb:builtinD P m nx b ts aS=some e):Ef P (.call { callee:=.builtin b,args:=args,argTypes:=ts }) env m nx e:=
 ⟨by simp only[aop];rw[if_pos hs];simp only[rho];rw[ha,hb],rfl,rfl⟩
theorem Uj{es:List D}{l:Nat}(hx:(opd env x).core=.sl es l):Ef P (.call { callee:=.builtin .len,args:= #[x],argTypes:= #[t] }) env m nx ⟨slT P t=true,.s (.int .i64 l),[],[],0⟩:=wN (aS:=[.sl es l]) rfl (by simp[hx]) rfl
theorem BZ{i off l:Nat}{r:Row}(hx:(opd env x).core=.rs i off l)(hm:m i=some r):Ef P (.call { callee:=.builtin .len,args:= #[x],argTypes:= #[t] }) env m nx ⟨slT P t=true,.s (.int .i64 l),[],[i],0⟩:=wN (aS:=[.rs i off l]) rfl (by simp[hx]) (by simp[builtinD,lenD,hm])
theorem aeG(hx:(opd env x).core=.z):Ef P (.call { callee:=.builtin .len,args:= #[x],argTypes:= #[t] }) env m nx ⟨slT P t=true,.s (.int .i64 0),[],[],0⟩:=wN (aS:=[.z]) rfl (by simp[hx]) rfl
theorem Lh{b:ByteArray}(hx:(opd env x).core=.s (.string b)):Ef P (.call { callee:=.builtin .len,args:= #[x],argTypes:= #[t] }) env m nx ⟨stT P t=true,.s (.int .i64 b.size),[],[],0⟩:=wN (aS:=[.s (.string b)]) rfl (by simp[hx]) rfl
theorem Uk{k:IntKind}(hx:(opd env x).core=.s (.int k n))(hy:(opd env y).core=.s (.int k n')):Ef P (.call { callee:=.builtin .min,args:= #[x,y],argTypes:= #[t,t] }) env m nx ⟨k=k,.s (.int k (if n'<n then n' else n)),[],[],0⟩:=wN (aS:=[.s (.int k n),.s (.int k n')]) rfl (by simp[hx,hy]) rfl
structure Cells(m:Mem)(sz:Nat)(d:D)(p:Prop)(rd:List Nat)(k:Nat)(news:List D):Prop where
 ok:sliceCells m sz d=some (p,rd,k,news)
theorem QO{es news:List D}{k sz:Nat}(h:es.take (k*sz)=news):Cells m sz (.sl es k) (k*sz<=es.length) [] k news:=⟨by simp[sliceCells,h]⟩
theorem wm{i off k sz:Nat}{cs news:List D}{e:TypeId}(hm:m i=some (.cells cs e))(h:(cs.drop off).take (k*sz)=news):Cells m sz (.rs i off k) (off+k*sz<=cs.length) [i] k news:=⟨by simp[sliceCells,hm,h]⟩
theorem aeH{p:Prop}{rd:List Nat}{c sz:Nat}{news:List D}{e:TypeId}(hx:(opd env x).core=.z)(hy:(opd env y).core=d)(he:elemP P t=e)(hs:P.cellsOf e=sz)(hc:Cells m sz d p rd c news):
 Ef P (.call { callee:=.builtin .append,args:= #[x,y],argTypes:= #[t,t] }) env m nx ⟨slT P t=true/\p/\0<sz/\c<=maxLen/\c*P.bytesOf e<=140737488355328,.rs nx 0 c,[(nx,some (.cells news e))],rd,1⟩:=by
 refine wN (aS:=[.z,d]) rfl (by simp[hx,hy]) ?_;simp only[builtinD];rw[if_pos oS];simp only[appendD,Array.getD_eq_getD_getElem?,List.getElem?_toArray,List.getElem?_cons_zero,Option.getD_some,he,hs,hc.ok]
theorem uX{p:Prop}{rd:List Nat}{c sz i off l:Nat}{cs cs' news:List D}{e:TypeId}(hx:(opd env x).core=.rs i off l)(hm:m i=some (.cells cs e))(hy:(opd env y).core=d)(he:elemP P t=e)(hs:P.cellsOf e=sz)(hc:Cells m sz d p rd c news)(hn:cs.drop off++news=cs'):
 Ef P (.call { callee:=.builtin .append,args:= #[x,y],argTypes:= #[t,t] }) env m nx ⟨slT P t=true/\e=e/\p/\0<sz/\off+l*sz=cs.length/\l+c<=maxLen/\(l+c)*P.bytesOf e<=140737488355328/\i∉rd,.rs nx 0 (l+c),[(i,none),(nx,some (.cells cs' e))],i::rd,1⟩:=by
 refine wN (aS:=[.rs i off l,d]) rfl (by simp[hx,hy]) ?_;simp only[builtinD];rw[if_pos oS];simp only[appendD,Array.getD_eq_getD_getElem?,List.getElem?_toArray,List.getElem?_cons_zero,Option.getD_some,he,hs,hc.ok,hm,hn]
end builtins
theorem Te{b:ByteArray}(hx:(opd env x).core=.s (.string b))(hy:(opd env y).core=.s (.int k n)):Ef P (.index t x y) env m nx ⟨stT P t=true/\0<=n/\n<b.size,.s (.int .u8 (b.data.toList.getD n.toNat 0).toNat),[],[],0⟩:=⟨by simp only[aop,rho,hx,hy],rfl,rfl⟩
theorem te{cs cs':List D}{j:Nat}(hx:(opd env x).core=.tup cs)(hd:cs.drop j=v::cs'):Ef P (.extract x j) env m nx ⟨j<cs.length,v,[],[],0⟩:=by
 have h:cs[j]? =some v:=by
  have:(cs.drop j)[0]? =some v:=by rw[hd];rfl
  simpa using this
 exact⟨by simp[aop,rho,hx,h],rfl,rfl⟩
theorem adu{ps:Array (Nat×Operand)}{fs:Array Field}{cs z:List D}{C:List (Nat×D)}(J:P.underlying t=some (.struct fs))(M:zeroP P t=z)(hq:(ps.toList.map fun q=>(q.1,(opd env q.2).core))=C)
 (hf:fillD (fun i=>(fs[i]?).map fun f=>(f.offset,P.cellsOf f.type)) z C=some cs):Ef P (.build t ps) env m nx ⟨tyOk P t=true/\fs.toList.all (fun f=>(P.info? f.type).isSome)=true,.agg cs,[],[],0⟩:=
 ⟨by simp only[aop,rho,J,M,hq,hf,Option.map_some],rfl,rfl⟩
theorem G3{ps:Array (Nat×Operand)}{fs:Array Field}{C:List (Nat×Nat)}{cs z:List D}{J:List (Nat×D)}(M:P.underlying t=some (.struct fs))(hp:(fs.toList.map fun(f:Field)=>(f.offset,P.cellsOf f.type))=C)(X:zeroP P t=z)(hq:(ps.toList.map fun q=>(q.1,(opd env q.2).core))=J)
 (hf:fillD (fun i=>C[i]?) z J=some cs):Ef P (.build t ps) env m nx ⟨tyOk P t=true/\fs.toList.all (fun f=>(P.info? f.type).isSome)=true,.agg cs,[],[],0⟩:=by
 refine adu M X hq ?_
 have:(fun(i:Nat)=>(fs[i]?).map fun(f:Field)=>(f.offset,P.cellsOf f.type))=fun(i:Nat)=>C[i]? :=by
  funext i;rw[<- hp];simp
 rw[this];exact hf
theorem DC{ps:Array (Nat×Operand)}{l sz:Nat}{e:TypeId}{cs z:List D}{C:List (Nat×D)}(he:elemP P t=e)(hs:P.cellsOf e=sz)(J:zeroP P e=z)(hq:(ps.toList.map fun q=>(q.1,(opd env q.2).core))=C)
 (hf:fillD (fun i=>some (i*sz,sz)) (replD l z) C=some cs):Ef P (.buildSlice t l ps) env m nx ⟨cs.all D.one=true/\l*sz<=2 ^ 24/\slT P t=true/\l<=maxLen,.rs nx 0 l,[(nx,some (.cells cs e))],[],1⟩:=
 ⟨by simp only[aop,rho,he,hs,J,hq,hf,Option.map_some],rfl,rfl⟩
theorem Tf{f:Fn}{fs cs:Array Operand}{J C:List D}(hf:fs.toList.map (fun x=>(opd env x).core)=J)(hc:cs.toList.map (fun x=>(opd env x).core)=C):Ef P (.makeFunc f fs cs) env m nx ⟨True,.fn f J C,[],[],0⟩:=⟨by simp only[aop,rho,hf,hc],rfl,rfl⟩
theorem afH:Ef P (.makeMap t none) env m nx ⟨True,.mp nx,[(nx,some (.map []))],[],1⟩:=⟨by simp only[aop],rfl,rfl⟩
theorem BD{e:TypeId}{z:List D}(hx:(opd env x).core=.s (.int .i64 n))(hy:(opd env y).core=.s (.int .i64 n'))(he:elemP P t=e)(C:zeroP P e=z):
 Ef P (.makeSlice t x y) env m nx ⟨0<=n/\n=n'/\n<=9223372036854775807/\P.bytesOf e*n<=281474976710656/\slT P t=true,.rs nx 0 n.toNat,[(nx,some (.cells (replD n.toNat z) e))],[],1⟩:=⟨by simp only[aop,rho,hx,hy,he,C],rfl,rfl⟩
theorem aeI{src:TypeId}{C:IntKind}(hx:(opd env x).core=.s (.int k n))(J:P.underlying t=some (.int C)):Ef P (.convert src t x) env m nx ⟨tyOk P src=true,.s (.int C (C.wrap n)),[],[],0⟩:=⟨by simp only[aop,rho,hx,J],rfl,rfl⟩
theorem adv{src e:TypeId}{b:ByteArray}(hx:(opd env x).core=.s (.string b))(C:P.underlying t=some (.slice e))(he:P.underlying e=some (.int .u8)):
 Ef P (.convert src t x) env m nx ⟨stT P src=true/\b.size<=maxLen,.sl (b.data.toList.map fun c=>.s (.int .u8 c.toNat)) b.size,[],[],0⟩:=⟨by simp only[aop,rho,hx,C,he],rfl,rfl⟩
def c7(b:ByteArray):List Int:=b.data.toList.map fun c=>(c.toNat:Int)
theorem Y7(b:ByteArray):(c7 b).length=b.size:=by unfold c7;rw[List.length_map];rfl
theorem QP{src e:TypeId}{b:ByteArray}(hx:(opd env x).core=.s (.string b))(C:P.underlying t=some (.slice e))(he:P.underlying e=some (.int .u8)):
 Ef P (.convert src t x) env m nx ⟨stT P src=true/\b.size<=maxLen,.sl ((c7 b).map fun n=>.s (.int .u8 n)) (c7 b).length,[],[],0⟩:=by
 have:=adv (P:=P) (env:=env) (m:=m) (nx:=nx) (t:=t) (src:=src) hx C he;have h:(c7 b).map (fun n=>D.s (.int .u8 n))=b.data.toList.map (fun c=>D.s (.int .u8 c.toNat)):=by rw[c7,List.map_map];rfl
 rw[Y7,h];exact this
theorem ww{es es':List D}{l:Nat}{lo hi:Option Operand}{a b:Int}{e:TypeId}{sz:Nat}(hx:(opd env x).core=.sl es l)(he:elemP P t=e)(hs:P.cellsOf e=sz)
 (ha:bndD (lo.map fun x=>(opd env x).core) 0=some a) (hb:bndD (hi.map fun x=>(opd env x).core) l=some b) (hd:(es.drop (a.toNat*sz)).take ((b - a).toNat*sz)=es'):
 Ef P (.slice t x lo hi none) env m nx ⟨slT P t=true/\0<=a/\a<=b/\b<=l,.sl es' (b - a).toNat,[],[],0⟩:=by
 refine⟨?_,rfl,rfl⟩;show sliceD P m t (opd env x).core (lo.map fun x=>(opd env x).core) (hi.map fun x=>(opd env x).core) (Option.map (fun x=>(opd env x).core) none)=_;rw[hx];simp only[sliceD,Option.map_none,ha,hb,he,hs,hd]
theorem Kc{i off l:Nat}{cs:List D}{lo hi:Option Operand}{a b:Int}{e:TypeId}{sz:Nat}(hx:(opd env x).core=.rs i off l)(hm:m i=some (.cells cs e))(he:elemP P t=e)(hs:P.cellsOf e=sz)
 (ha:bndD (lo.map fun x=>(opd env x).core) 0=some a) (hb:bndD (hi.map fun x=>(opd env x).core) l=some b):
 Ef P (.slice t x lo hi none) env m nx ⟨(slT P t=true/\sz=sz)/\0<=a/\a<=b/\b<=l,.rs i (off+a.toNat*sz) (b - a).toNat,[],[i],0⟩:=by
 refine⟨?_,rfl,rfl⟩;show sliceD P m t (opd env x).core (lo.map fun x=>(opd env x).core) (hi.map fun x=>(opd env x).core) (Option.map (fun x=>(opd env x).core) none)=_;rw[hx];simp only[sliceD,hm,Option.map_none,ha,hb,he,hs]
theorem yx{i:Nat}{es:List (Value×D)}{key:Value}{ok:Bool}{kt:TypeId}(hx:(opd env x).core=.mp i)(hm:m i=some (.map es))(hk:keyV (opd env y).core=some key)(ht:mkeyP P t=kt)(hg:gotD P t ok (lookD key es)=v):
 Ef P (.lookup t x y ok) env m nx ⟨mapT P t=true/\keyP P kt key=true/\es.all (fun e=>keyP P kt e.1)=true,v,[],[i],0⟩:=by
 refine⟨?_,rfl,rfl⟩;show lookupD P m t (opd env x).core (opd env y).core ok=_;simp only[lookupD,hk,hx,hm,ht,hg]
theorem GC{es:List (Value×D)}{key:Value}{ok:Bool}{kt:TypeId}(hx:(opd env x).core=.im es)(hk:keyV (opd env y).core=some key)(ht:mkeyP P t=kt)(hg:gotD P t ok (lookD key es)=v):
 Ef P (.lookup t x y ok) env m nx ⟨mapT P t=true/\keyP P kt key=true/\es.all (fun e=>keyP P kt e.1)=true,v,[],[],0⟩:=by
 refine⟨?_,rfl,rfl⟩;show lookupD P m t (opd env x).core (opd env y).core ok=_;simp only[lookupD,hk,hx,ht,hg]
theorem HC{i:Nat}{es:List (Value×D)}{key:Value}{z:Operand}{kt:TypeId}(hx:(opd env x).core=.mp i)(hm:m i=some (.map es))(hk:keyV (opd env y).core=some key)(C:(opd env z).core=v)(ht:mkeyP P t=kt):
 Ef P (.mapUpdate t x y z) env m nx ⟨mapT P t=true/\keyP P kt key=true/\es.all (fun e=>keyP P kt e.1)=true,.tup [],[(i,some (.map (putD key v es)))],[i],0⟩:=by
 refine⟨?_,rfl,rfl⟩;show mapPutD P m t (opd env x).core (opd env y).core (opd env z).core=_;simp only[mapPutD,hk,hx,hm,ht,C]
end
theorem iG{α:Type}{f:α->D}:∀ {l:List α} {k:Nat} {x:α},l[k]? =some x->(l.map f).drop k=f x::(l.drop (k+1)).map f
 |[],k,x,h=>by simp at h
 |a::l,0,x,h=>by simp at h;subst h;rfl
 |a::l,k+1,x,h=>by simpa using iG (f:=f) (l:=l) (k:=k) (by simpa using h)
theorem PX{α:Type}{f:α->List D}{sz:Nat}(hs:∀ x,(f x).length=sz):∀ {l:List α} {k:Nat} {x:α},l[k]? =some x->(l.flatMap f).drop (k*sz)=f x++(l.drop (k+1)).flatMap f
 |[],k,x,h=>by simp at h
 |a::l,0,x,h=>by simp at h;subst h;simp
 |a::l,k+1,x,h=>by
  have h1:(k+1)*sz=(f a).length+k*sz:=by rw[hs];rw[Nat.add_mul];omega
  simp only[List.flatMap_cons,h1,List.drop_append,List.drop_succ_cons];rw[List.drop_of_length_le oG];have:(f a).length+k*sz - (f a).length=k*sz:=by omega
  rw[this];simpa using PX hs (l:=l) (k:=k) (by simpa using h)
theorem Pn{α:Type}{f:α->List D}{sz:Nat}(hs:∀ x,(f x).length=sz):∀ (l:List α),(l.flatMap f).length=l.length*sz
 |[]=>by simp
 |a::l=>by simp only[List.flatMap_cons,List.length_append,hs,Pn hs l,List.length_cons,Nat.add_mul];omega
section
variable{P:Program}{env:Env}{m:Mem}{nx:Nat}{t e:TypeId}{x y:Operand}{k:IntKind}
theorem Tg{α:Type}{f:α->D}{l:List α}{i n:Nat}{z:α}(hx:(opd env x).core=.sl (l.map f) n)(hy:(opd env y).core=.s (.int k i))(he:elemP P t=e)(hs:P.cellsOf e=1)(C:l[i]? =some z):
 Ef P (.indexAddr t x y) env m nx ⟨slT P t=true/\0<=(i:Int)/\(i:Int)<n/\((i:Int).toNat+1)*1<=(l.map f).length,.pt (f z::(l.drop (i+1)).map f),[],[],0⟩:=
 LR hx hy he hs (by rw[bN,Nat.mul_one];exact iG C)
theorem Th{α:Type}{f:α->D}{l:List α}{i:Nat}{z:α}(ht:slT P t=true)(C:l[i]? =some z):slT P t=true/\0<=(i:Int)/\(i:Int)<l.length/\((i:Int).toNat+1)*1<=(l.map f).length:=by
 have:=(bw.1 C).1;exact⟨ht,oG,oG,by simp;omega⟩
theorem yJ{α:Type}{f:α->List D}{sz:Nat}{l:List α}{i n:Nat}{z:α}(hx:(opd env x).core=.sl (l.flatMap f) n)(hy:(opd env y).core=.s (.int k i))(he:elemP P t=e)(hs:P.cellsOf e=sz)(hl:∀ x,(f x).length=sz)(C:l[i]? =some z):
 Ef P (.indexAddr t x y) env m nx ⟨slT P t=true/\0<=(i:Int)/\(i:Int)<n/\((i:Int).toNat+1)*sz<=(l.flatMap f).length,.pt (f z++(l.drop (i+1)).flatMap f),[],[],0⟩:=
 LR hx hy he hs (by rw[bN];exact PX hl C)
theorem yK{α:Type}{f:α->List D}{sz:Nat}{l:List α}{i:Nat}{z:α}(ht:slT P t=true)(hl:∀ x,(f x).length=sz)(C:l[i]? =some z):slT P t=true/\0<=(i:Int)/\(i:Int)<l.length/\((i:Int).toNat+1)*sz<=(l.flatMap f).length:=by
 have:=(bw.1 C).1;refine⟨ht,oG,oG,?_⟩;rw[Pn hl,bN];exact Nat.mul_le_mul_right _ this
theorem Ti{v:D}{cs:List D}(ht:tyOk P t=true)(hc:P.cellsOf t=1):tyOk P t=true/\P.cellsOf t<=(v::cs).length:=⟨ht,by rw[hc];simp⟩
theorem gR{v:D}{cs cs':List D}{off:Nat}(ht:tyOk P t=true)(hc:P.cellsOf t=1)(hd:cs.drop off=v::cs'):tyOk P t=true/\off+P.cellsOf t<=cs.length:=by
 refine⟨ht,?_⟩;have:(cs.drop off).length=cs'.length+1:=by rw[hd];rfl
 rw[List.length_drop] at this;omega
theorem mL{n:Nat}{cs:List D}(ht:tyOk P t=true)(hc:P.cellsOf t=n)(hl:n<=cs.length):tyOk P t=true/\P.cellsOf t<=cs.length:=⟨ht,by rw[hc];exact hl⟩
theorem ez{n off:Nat}{cs:List D}(ht:tyOk P t=true)(hc:P.cellsOf t=n)(hl:off+n<=cs.length):tyOk P t=true/\off+P.cellsOf t<=cs.length:=⟨ht,by rw[hc];exact hl⟩
theorem sy{n:Nat}(hc:P.cellsOf t=n+1):0<P.cellsOf t:=by omega
theorem du{n off:Nat}{cs vs:List D}(ht:tyOk P t=true)(hc:P.cellsOf t=n)(hv:vs.length=n/\off+n<=cs.length)(C:vs.all D.one=true):tyOk P t=true/\vs.length=P.cellsOf t/\off+P.cellsOf t<=cs.length/\vs.all D.one=true:=
 ⟨ht,by rw[hc];exact hv.1,by rw[hc];exact hv.2,C⟩
end
section
variable{P:Program}{K:D->St->Prop}{st:St}
theorem wH(h:K (.tup []) st):retQ P [] K .ret st:=h
theorem qP(h:K (.tup []) st):retQ P [] K .normal st:=h
theorem av{t:Nat}{d:D}(hd:st.env t=d)(h:K d st):retQ P [.tmp t] K .ret st:=⟨trivial,by subst hd;exact h⟩
theorem fk{t u:Nat}{d e:D}(hd:st.env t=d)(he:st.env u=e)(h:K (.tup [d,e]) st):retQ P [.tmp t,.tmp u] K .ret st:=⟨trivial,trivial,by subst hd;subst he;exact h⟩
theorem mI{a i off n:Nat}{ty e:TypeId}{cs vs:List D}(ha:st.env a=.rp i off)(hm:st.mem i=some (.cells cs e))(hg:aggP P ty=true)(hc:P.cellsOf ty=n)(hv:(cs.drop off).take n=vs)(ht:tyOk P ty=true)(hl:off+n<=cs.length):
 ∃ p,resD P st (.cell a ty)=some (p,.agg vs)/\p:=⟨tyOk P ty=true/\off+n<=cs.length,by simp only[resD,ha,hm,takeV,hg,if_true,hc,hv],ht,hl⟩
theorem nK{a:Nat}{ty:TypeId}{d:D}(hr:∃ p,resD P st (.cell a ty)=some (p,d)/\p)(h:K d st):retQ P [.cell a ty] K .ret st:=by
 obtain⟨p,h1,h2⟩:=hr;simp only[retQ,retL,h1];exact⟨h2,h⟩
theorem JJ{a t:Nat}{ty:TypeId}{d e:D}(hr:∃ p,resD P st (.cell a ty)=some (p,d)/\p)(he:st.env t=e)(h:K (.tup [d,e]) st):retQ P [.cell a ty,.tmp t] K .ret st:=by
 obtain⟨p,h1,h2⟩:=hr;simp only[retQ,retL,h1];exact⟨h2,trivial,by subst he;exact h⟩
end
section
variable{P:Program}{Y:YSpec}{rf:Bool}{Q:Exit->St->Prop}{st:St}
theorem ap{l:List (Nat×D)}{env:Env}{m:Mem}{nx:Nat}(h:jN l env):Ghost P ⟨env,m,nx⟩ ⟨aD l,m,nx⟩:=.forget env _ m nx (pN h)
def MC(P:Program):List (Nat×List D×TypeId)->Mem->Prop
 |[],_=>True
 |(i,cs,e)::fs,m=>m i=some (.cells cs e)/\MC P fs (fun j=>if j=i then none else(m j).map (Row.sub (fz0 i cs (P.cellsOf e))))
def uj(P:Program):List (Nat×List D×TypeId)->D->D
 |[],d=>d
 |(i,cs,e)::fs,d=>uj P fs (sub (fz0 i cs (P.cellsOf e)) d)
theorem PZ:∀ {fs:List (Nat×List D×TypeId)} {env:Env} {m:Mem} {nx:Nat},MC P fs m->∃ m',Ghost P ⟨env,m,nx⟩ ⟨fun t=>uj P fs (env t),m',nx⟩
 |[],env,m,nx,_=>⟨m,.refl _⟩
 |(i,cs,e)::fs,env,m,nx,⟨h1,h2⟩=>by
  obtain⟨m',h⟩:=PZ (env:=fun t=>sub (fz0 i cs (P.cellsOf e)) (env t)) (nx:=nx) h2;exact⟨m',(Ghost.freeze env m nx i cs e h1).trans h⟩
theorem bG{env:Env}{m:Mem}{nx:Nat}(fs:List (Nat×List D×TypeId))(hf:MC P fs m){l:List (Nat×D)}(hl:jN l fun t=>uj P fs (env t)):Ghost P ⟨env,m,nx⟩ ⟨aD l,fun _=>none,nx⟩:=by
 obtain⟨m',h⟩:=PZ (env:=env) (nx:=nx) hf;exact h.trans ((Ghost.forget _ _ _ _ (pN hl)).trans (Ghost.drop _ _ _ _ fun _=>.inr rfl))
def mT(iF id:Nat)(next:St->Prop)(Q:Exit->St->Prop):Exit->St->Prop
 | .normal,s=>next s
 | .exit i,s=>if i=iF then next s else if i=id then Q .normal s else Q (.exit i) s
 |e,s=>Q e s
def sA(P:Program){α:Type}(S:α->St)(J:α->Prop)(μ:α->Nat)(x:α)(s:St):Prop:=∃ C,Ghost P s (S C)/\J C/\μ C<μ x
theorem aK{α:Type}{S:α->St}{J:α->Prop}{μ:α->Nat}{x:α}{s:St}(C:α)(hg:Ghost P s (S C))(M:J C)(X:μ C<μ x):sA P S J μ x s:=⟨C,hg,M,X⟩
theorem BK[eC Y]{b:Code}{α:Type}(S:α->St)(J:α->Prop)(μ:α->Nat)(C:α)(hg:Ghost P st (S C))(X:J C)(h:∀ x,J x->AW P Y rf b (seqQ (sA P S J μ x) Q) (S x)){a:Code}(ha:∀ st,Q .normal st->Q .normal st):
 ∃ st',Ghost P st st'/\AW P Y rf (.loop b) Q st':=
 ⟨S C,hg,adx S J μ C rfl X fun x hx=>wx b (fun e st' hq=>by
  cases e with
  |normal=>
   obtain⟨M,h1,h2,h3⟩:=hq;exact⟨S M,M,h1,rfl,h2,h3⟩
  |_=>exact hq) (h x hx)⟩
variable{id iF t i1 i2 i3 i4:Nat}{rc ri:Array Oper}{body rest:Code}{α:Type}
theorem KO[eC Y]{ri:Array Oper}{next:St->Prop}{s:St}(h:AW P Y rf body (mT iF id (fun s=>AOps P Y ri false [] (gM next) ri.toList s []) Q) s):
 AW P Y rf (.seq (.block iF body) (.region i3 ri false)) (seqQ next (blockQ id Q)) s:=by
 refine wx body (fun e s h=>?_) h;have hr:∀ s,AOps P Y ri false [] (gM next) ri.toList s []->∃ s',Ghost P s s'/\AW P Y rf (.region i3 ri false) (seqQ next (blockQ id Q)) s':=fun s h=>⟨s,.refl s,qI (rf:=rf) (id:=i3) (AOps.lC h fun _ h=>h)⟩
 cases e with
 |normal=>exact hr s h
 |exit i=>
  simp only[mT] at h;simp only[blockQ];split at h
  .rename_i hi;rw[if_pos hi];exact hr s h
  .rename_i hi;rw[if_neg hi];simp only[seqQ,blockQ];exact h
 |_=>exact h
theorem dV[eC Y](S:α->St)(J:α->Prop)(μ:α->Nat)(C:α)(hg:Ghost P st (S C))(M:J C)
 (h:∀ x,J x->AOps P Y rc false [] (gM fun s=>∃ g,opd s.env (.tmp t)=.s (.bool g)/\(g=true->AW P Y rf body (mT iF id (fun s=>AOps P Y ri false [] (gM (sA P S J μ x)) ri.toList s []) Q) s)/\(g=false->Q .normal s)) rc.toList (S x) []):
 ∃ st',Ghost P st st'/\AW P Y rf (.block id (.loop (.seq (.region i1 rc false) (.seq (.cond (.tmp t) .skip (.exit id)) (.seq (.block iF body) (.region i3 ri false)))))) Q st':=by
 refine BK (Q:=blockQ id Q) S J μ C hg M (fun x hx=>?_) (a:=.skip) fun _ h=>h;refine qI (rf:=rf) (id:=i1) (AOps.lC (h x hx) fun s hs=>?_);obtain⟨g,h1,h2,h3⟩:=hs;refine⟨s,.refl s,cx h1 (fun X=>?_) fun xI=>?_⟩
 .exact bP (KO (h2 X))
 .refine jy ?_;simp only[seqQ,blockQ,if_true];exact h3 xI
theorem cQ[eC Y](S:α->St)(J:α->Prop)(μ:α->Nat)(C:α)(hg:Ghost P st (S C))(M:J C)
 (h:∀ x,J x->AOps P Y rc false [] (gM fun s=>∃ g,opd s.env (.tmp t)=.s (.bool g)/\(g=true->AW P Y rf body (mT iF id (fun s=>AOps P Y ri false [] (gM (sA P S J μ x)) ri.toList s []) Q) s)/\(g=false->Q .normal s)) rc.toList (S x) []):
 ∃ st',Ghost P st st'/\AW P Y rf (.block id (.loop (.seq (.seq (.region i1 rc false) (.cond (.tmp t) .skip (.exit id))) (.seq (.block iF body) (.region i3 ri false))))) Q st':=by
 refine BK (Q:=blockQ id Q) S J μ C hg M (fun x hx=>?_) (a:=.skip) fun _ h=>h;refine aB (qI (rf:=rf) (id:=i1) (AOps.lC (h x hx) fun s hs=>?_));obtain⟨g,h1,h2,h3⟩:=hs;refine⟨s,.refl s,cx h1 (fun X=>?_) fun xI=>?_⟩
 .exact bP (KO (h2 X))
 .refine jy ?_;simp only[seqQ,blockQ,if_true];exact h3 xI
theorem ab1[eC Y]{next:St->Prop}{s:St}(h:AW P Y rf body (mT iF id next Q) s):AW P Y rf (.block iF body) (seqQ next (blockQ id Q)) s:=by
 refine wx body (fun e s h=>?_) h;cases e with
 |exit i=>
  simp only[mT] at h;simp only[blockQ];split at h
  .rename_i hi;rw[if_pos hi];exact h
  .rename_i hi;rw[if_neg hi];simp only[seqQ,blockQ];exact h
 |_=>exact h
theorem yC[eC Y](S:α->St)(J:α->Prop)(μ:α->Nat)(C:α)(hg:Ghost P st (S C))(M:J C)
 (h:∀ x,J x->AOps P Y rc false [] (gM fun s=>∃ g,opd s.env (.tmp t)=.s (.bool g)/\(g=true->AW P Y rf body (mT iF id (sA P S J μ x) Q) s)/\(g=false->Q .normal s)) rc.toList (S x) []):
 ∃ st',Ghost P st st'/\AW P Y rf (.block id (.loop (.seq (.seq (.region i1 rc false) (.cond (.tmp t) .skip (.exit id))) (.block iF body)))) Q st':=by
 refine BK (Q:=blockQ id Q) S J μ C hg M (fun x hx=>?_) (a:=.skip) fun _ h=>h;refine aB (qI (rf:=rf) (id:=i1) (AOps.lC (h x hx) fun s hs=>?_));obtain⟨g,h1,h2,h3⟩:=hs;refine⟨s,.refl s,cx h1 (fun X=>?_) fun xI=>?_⟩
 .exact bP (ab1 (h2 X))
 .refine jy ?_;simp only[seqQ,blockQ,if_true];exact h3 xI
theorem bS{s:St}(h:Q .normal s):AW P Y rf .skip Q s:=h
theorem aY{s:St}(h:Q .ret s):AW P Y rf .ret Q s:=h
theorem aeK{s:St}{i:Nat}(h:Q (.exit i) s):AW P Y rf (.exit i) Q s:=h
theorem br{next:St->Prop}{s:St}(h:Q .ret s):mT iF id next Q .ret s:=h
theorem aR{K:St->Prop}{s:St}(h:Q .ret s):seqQ K Q .ret s:=h
theorem bO{s:St}(h:Q .ret s):blockQ id Q .ret s:=h
theorem KP{s:St}(h:Q .ret s):scopeQ Q .ret s:=h
theorem mR{next:St->Prop}{s:St}(h:next s):mT iF id next Q (.exit iF) s:=by simp only[mT,if_true];exact h
theorem ady{next:St->Prop}{s:St}(C:id≠iF)(h:Q .normal s):mT iF id next Q (.exit id) s:=by simp only[mT,if_neg C,if_true];exact h
theorem afM{i:Nat}{next:St->Prop}{s:St}(h2:i≠iF)(h1:i≠id)(h:Q (.exit i) s):mT iF id next Q (.exit i) s:=by simp only[mT,if_neg h2,if_neg h1];exact h
theorem Tk{K:St->Prop}{i:Nat}{s:St}(h:Q (.exit i) s):seqQ K Q (.exit i) s:=h
theorem oI[eC Y]{a:Code}(h:AW P Y rf a (blockQ id (seqQ (fun st=>AW P Y rf rest Q st) Q)) st):AW P Y rf (.seq (.block id a) rest) Q st:=Uo (fun st=>AW P Y rf rest Q st) (oL h) fun _ h=>h
theorem nL{s:St}(h:AW P Y rf rest Q s):AW P Y rf .skip (blockQ id (seqQ (fun st=>AW P Y rf rest Q st) Q)) s:=h
theorem Tl[eC Y]{a:Code}(h:AW P Y rf a (seqQ (fun st=>AW P Y rf rest Q st) Q) st):AW P Y rf (.seq a rest) Q st:=Uo _ h fun _ h=>h
theorem lx[eC Y]{r:Array Oper}{i:Nat}{J:St->Prop}(h:AOps P Y r false [] (gM J) r.toList st []):AW P Y rf (.region i r false) (seqQ J Q) st:=qI (rf:=rf) (id:=i) (AOps.lC h fun _ h=>h)
theorem nH[eC Y]{r:Array Oper}{i:Nat}{J:St->Prop}(h:AOps P Y r false [] (gM J) r.toList st []):AW P Y rf (.region i r false) (blockQ id (seqQ J Q)) st:=qI (rf:=rf) (id:=i) (AOps.lC h fun _ h=>h)
theorem bd{J:St->Prop}(h:J st):AW P Y rf .skip (seqQ J Q) st:=h
theorem Ki{J:St->Prop}(h:J st):AW P Y rf .skip (blockQ id (seqQ J Q)) st:=h
theorem bR[eC Y]{a:Code}(R:St->Prop)(h:∃ st',Ghost P st st'/\AW P Y rf a (seqQ R Q) st')(k:∀ s,R s->∃ s',Ghost P s s'/\AW P Y rf rest Q s'):∃ st',Ghost P st st'/\AW P Y rf (.seq a rest) Q st':=by
 obtain⟨st',hg,h⟩:=h;exact⟨st',hg,eI R h k⟩
end
def Real(d:D):Prop:=∃ F β w v,R F β w d v
theorem Real.sl{es:List D}{n:Nat}(h:Real (.sl es n)):n<=maxLen/\∀ d∈es,Real d:=by
 obtain⟨F,β,w,v,h⟩:=h;cases h with
 |sln=>simp[maxLen]
 |sl _ _ b o cap us hf hb ao sD fV hc C=>
  refine⟨Nat.le_trans sD fV,fun d hd=>?_⟩;obtain⟨k,hk⟩:=cC hd;exact⟨F,β,w,_,C k d hk⟩
theorem Real.agg{cs:List D}(h:Real (.agg cs)):∀ d∈cs,Real d:=by
 obtain⟨F,β,w,v,h⟩:=h;obtain⟨vs,rfl,hl,C⟩:=h.agg_inv;intro d hd;obtain⟨k,hk⟩:=cC hd;have:k<vs.length:=by rw[hl];exact(bw.1 hk).1
 exact⟨F,β,w,_,C k d vs[k] hk (by simp[this])⟩
theorem adz{F:Nat->Prop}{β:Pla}{w:World}{args:List D}{vs:Array Value}(h:Rs F β w args vs):∀ a∈args,Real a:=fun a ha=>by
 obtain⟨k,hk⟩:=cC ha;have:k<vs.size:=by rw[h.1];exact(bw.1 hk).1
 exact⟨F,β,w,vs[k],h.2 k a _ hk (by simp[this])⟩
theorem mJ{P:Program}{f:FuncId}{args:List D}{r:D}(he:enterOk P f=true)(ht:∀ a∈args,Tr a)(h:(∀ a∈args,Real a)->PCall P f args r):PCall P f args r:=
 ⟨he,ht,fun F w vs hF hR=>(h (adz hR)).2.2 F w vs hF hR⟩
section
variable{P:Program}{m:Mem}{rds:List Nat}
theorem c8{a:D}(h:Tr a):Sn P rds m a a:=fun _ _ _ _ _ hv=>h.Cc hv
theorem L1{i off n:Nat}{cs es:List D}{e:TypeId}(hm:m i=some (.cells cs e))(hi:i∈rds)(J:(cs.drop off).take (n*P.cellsOf e)=es)(ht:∀ a∈es,Tr a):Sn P rds m (.rs i off n) (.sl es n):=fun F β w v hl hv=>by
 subst J;obtain⟨p,hp,hr,X⟩:=hl i hi _ hm;cases hv with
 |rsd _ _ _ _ h1 _=>rw[h1] at hp;cases hp;cases hr
 |rsn _ a h1=>
  rw[h1] at hp;cases hp;cases hr;simp only[List.drop_nil,List.take_nil];exact .sln a 0
 |rsz _ _ a b o len room sz h1=>
  simp only[Nat.zero_mul,List.take_zero];exact .sln a 0
 |rs _ _ _ cap b o len room sz h1 hn fV h2 h3=>
  rw[h1] at hp;cases hp
  have ao:b<w.heap.size:=by
   cases hr with
   |cells _ _ _ _ _ _ c hb _ _ _ _=>exact(Array.getElem?_eq_some_iff.1 hb).1
  obtain⟨C,hl,cE,_⟩:=hr.rd;obtain⟨us,M,u2⟩:=(C.drop off).take (n*P.cellsOf e);exact .sl _ n b (o+off) cap us (X b rfl) (fun k q hq=>by cases hq) ao hn fV M fun k d hk=>(ht d (bU hk)).Cc (u2 k d hk)
theorem Us{i off:Nat}{cs es:List D}{e:TypeId}(hm:m i=some (.cells cs e))(hi:i∈rds)(J:cs.drop off=es)(ht:∀ a∈es,Tr a):Sn P rds m (.rp i off) (.pt es):=fun F β w v hl hv=>by
 subst J;obtain⟨p,hp,hr,X⟩:=hl i hi _ hm;cases hv with
 |rpd _ _ _ h1 _=>rw[h1] at hp;cases hp;cases hr
 |rp _ _ b o len room sz h1=>
  rw[h1] at hp;cases hp
  have ao:b<w.heap.size:=by
   cases hr with
   |cells _ _ _ _ _ _ c hb _ _ _ _=>exact(Array.getElem?_eq_some_iff.1 hb).1
  obtain⟨C,hl,cE,_⟩:=hr.rd;obtain⟨us,M,u2⟩:=C.drop off;exact .pt _ b (o+off) us (X b rfl) (fun k q hq=>by cases hq) ao M fun k d hk=>(ht d (bU hk)).Cc (u2 k d hk)
variable{Y:YSpec}{rf:Bool}{ops:Array Oper}{dr:Bool}{cf:List (Nat×Nat)}{Q:Exit->St->Prop}{rest:List Oper}{env:Env}{nx:Nat}{tr:Tra}{t:Nat}{op:Op}{ty:TypeId}{pos:String}{after:Array Edge}
 {pre:Prop} {v:D} {rd:List Nat}
theorem aeP{j:Nat}{b:Bool}{u:Nat}{row:Row}(hj:(ops[j]?).bind (·.dst)=some u)(hg:guardC (env u) b=some true)(he:Ef P op env m nx ⟨pre,v,[(nx,some row)],rd,1⟩)(ha:ja env op.operands.toList)(hp:pre)
 (K:AOps P Y ops dr cf Q rest ⟨up env t v,up m nx (some row),nx+1⟩ (tr++[(rd,[nx])])):AOps P Y ops dr cf Q (⟨some t,op,ty,pos,after,some (j,b)⟩::rest) ⟨env,m,nx⟩ tr:=
 afQ hj hg he ha hp (fun h=>by cases h) K
theorem HE{j:Nat}{b:Bool}{u:Nat}{f:FuncId}{args args':List D}{r:D}{rds:List Nat}(h:PCall P f args' r)(hs:r.scal=true)(hj:(ops[j]?).bind (·.dst)=some u)(hg:guardC (env u) b=some true)(hc:callD (rho env op) op=some (f,args))(C:Sns P rds m args args')(ha:ja env op.operands.toList)
 (K:AOps P Y ops dr cf Q rest ⟨up env t r,m,nx⟩ (tr++[(rds,[])])):AOps P Y ops dr cf Q (⟨some t,op,ty,pos,after,some (j,b)⟩::rest) ⟨env,m,nx⟩ tr:=
 ab4 hj hg hc ha (.inr (.inl ⟨args',rds,r,C,h,hs,K⟩))
end
section
variable{P:Program}{Y:YSpec}{rf:Bool}{ops:Array Oper}{dr:Bool}{cf:List (Nat×Nat)}{Q:Exit->St->Prop}{rest:List Oper}{env:Env}{m:Mem}{nx:Nat}{tr:Tra}{t:Nat}{ty:TypeId}{pos:String}{after:Array Edge}
theorem aaB{j:Nat}{b0 C:Bool}{u:Nat}(hj:(ops[j]?).bind (·.dst)=some u)(hg:guardC (env u) b0=some C){c a b:Operand}{x:Bool}(hc:(opd env c).core=.s (.bool true))(ha:(opd env a).core=.s (.bool x))
 (h0:C=true->(opd env c).ask) (h1:C=true->(opd env a).ask) (K:AOps P Y ops dr cf Q rest ⟨up env t (.opt C (.s (.bool x))),m,nx⟩ (tr++[([],[])])):
 AOps P Y ops dr cf Q (⟨some t,.pick c a b,ty,pos,after,some (j,b0)⟩::rest) ⟨env,m,nx⟩ tr:=by
 have he:=BM (P:=P) (env:=env) (m:=m) (nx:=nx) (a:=a) (b:=b) hc;simp only[ha,D.bool?,Option.getD_some,if_true] at he;simp only[AOps,AOp];rw[hj];simp only[Option.bind_some];rw[hg,he.nc,he.ny,he.ok];exact⟨fun hc=>⟨by simp only[asks];exact h0 hc,fun _=>⟨h1 hc,rfl⟩,fun h=>by cases h⟩,K⟩
theorem aaC{j:Nat}{b0 C:Bool}{u:Nat}(hj:(ops[j]?).bind (·.dst)=some u)(hg:guardC (env u) b0=some C){c a b:Operand}{y:Bool}(hc:(opd env c).core=.s (.bool false))(hb:(opd env b).core=.s (.bool y))
 (h0:C=true->(opd env c).ask) (h1:C=true->(opd env b).ask) (K:AOps P Y ops dr cf Q rest ⟨up env t (.opt C (.s (.bool y))),m,nx⟩ (tr++[([],[])])):
 AOps P Y ops dr cf Q (⟨some t,.pick c a b,ty,pos,after,some (j,b0)⟩::rest) ⟨env,m,nx⟩ tr:=by
 have he:=BM (P:=P) (env:=env) (m:=m) (nx:=nx) (a:=a) (b:=b) hc;simp only[hb,D.bool?,Option.getD_some,Bool.false_eq_true,if_false] at he;simp only[AOps,AOp];rw[hj];simp only[Option.bind_some];rw[hg,he.nc,he.ny,he.ok];exact⟨fun hc=>⟨by simp only[asks];exact h0 hc,fun h=>oH,fun _=>⟨h1 hc,rfl⟩⟩,K⟩
variable{id:Nat}{st:St}
theorem Kk[eC Y]{i:Nat}{J:St->Prop}(hi:drawInfo ops=some cf)(h:AOps P Y ops true cf (gM J) ops.toList st []):AW P Y rf (.region i ops true) (blockQ id (seqQ J Q)) st:=B0 (rf:=rf) (id:=i) hi (AOps.lC h fun _ h=>h)
theorem ab5{r:Option Row}{i:Nat}(h:m i=r):∀ j,up (fun _=>none) i r j=m j\/up (fun _=>none) i r j=none:=fun j=>by
 by_cases hj:j=i
 .subst hj;left;rw[up_same,h]
 .right;rw[up_ne _ _ hj]
theorem pO[eC Y]{i iF:Nat}{next:St->Prop}(hi:drawInfo ops=some cf)(h:AOps P Y ops true cf (gM next) ops.toList st []):AW P Y rf (.region i ops true) (mT iF id next Q) st:=B0 (rf:=rf) (id:=i) hi (AOps.lC h fun _ h=>h)
theorem fh[eC Y]{i iF:Nat}{next:St->Prop}(h:AOps P Y ops false [] (gM next) ops.toList st []):AW P Y rf (.region i ops false) (mT iF id next Q) st:=qI (rf:=rf) (id:=i) (AOps.lC h fun _ h=>h)
def bf:List (Nat×Row)->Mem
 |[],_=>none
 |(i,r)::l,j=>if j=i then some r else bf l j
def Ev:List (Nat×Row)->Mem->Prop
 |[],_=>True
 |(i,r)::l,m=>m i=some r/\Ev l m
theorem KQ:∀ {l:List (Nat×Row)} {m:Mem},Ev l m->∀ i,bf l i=m i\/bf l i=none
 |[],_,_,_=>.inr rfl
 |(k,r)::l,m,h,i=>by
  simp only[bf];by_cases hi:i=k
  .subst hi;rw[if_pos rfl];exact .inl h.1.symm
  .rw[if_neg hi];exact KQ h.2 i
theorem aQ{l:List (Nat×D)}{ml:List (Nat×Row)}{m:Mem}{nx:Nat}(h:jN l env)(hm:Ev ml m):Ghost P ⟨env,m,nx⟩ ⟨aD l,bf ml,nx⟩:=(Ghost.forget env _ m nx (pN h)).trans (.drop _ _ _ _ (KQ hm))
end
section
variable{P:Program}
theorem OCall.afP{f:FuncId}{args es:List D}{n:Nat}{t:TypeId}(h:OCall P f args es n t)(M:∀ d∈es,d.scal=true)(ht:Tr (.sl (es.take (n*P.cellsOf t)) n)):PCall P f args (.sl (es.take (n*P.cellsOf t)) n):=by
 refine⟨h.1,h.2.1,fun F w vs hF hR=>(h.2.2 F w vs hF hR).mono ?_⟩;rintro e w' ⟨v,p,h1,h2,h3,h4,h5,C⟩;refine⟨v,h1,?_,C⟩
 have b0:∀ {i q},up noRows 0 (some p) i=some q->i=0/\q=p:=fun {i q} hi=>by
  by_cases e:i=0
  .subst e;rw[up_same] at hi;cases hi;exact⟨rfl,rfl⟩
  .rw[up_ne _ _ e] at hi;cases hi
 have hm:MSim P F (up (fun _=>none) 0 (some (.cells es t))) (up noRows 0 (some p)) w':=by
  refine⟨fun i r hi=>?_,fun i j q X b hq J _ _=>(b0 hq).1.trans (b0 J).1.symm,fun i q b hq e=>?_,fun i q b hq e=>?_,fun b hb=>Nat.lt_of_lt_of_le (hF b hb) C.1⟩
  .by_cases e:i=0
   .subst e;rw[up_same] at hi;cases hi;exact⟨p,up_same _ _ _,G5 ⟨es,t,rfl,M⟩ h4⟩
   .rw[up_ne _ _ e] at hi;cases hi
  .rw[(b0 hq).2] at e;exact(h3 b e).2
  .rw[(b0 hq).2] at e;intro hb;have:=hF b hb;have:=(h3 b e).1;omega
 have:=QJ hm (up_same _ _ _) rfl h5;have e:fz0 0 es (P.cellsOf t) (.rs 0 0 n)=.sl (es.take (n*P.cellsOf t)) n:=by simp[fz0]
 rw[e] at this;exact ht.Cc this
end
theorem aC{α:Type}{f:Nat->α}{k j:Nat}{v r:α}(h:j≠k)(hf:f j=r):up f k v j=r:=(up_ne f v h).trans hf
theorem dI{β:Sort _}{M m:Mem}{i:Nat}{r:Option Row}(h:M=m)(x:β)(k:β->m i=r:=by intro x;repeat (first|exact x|exact rfl|exact up_same _ _ _|refine aC (by omega) ?_)):M i=r:=h ▸ k x
theorem rj{β:Sort _}{p:Prop}(x:β)(k:β->p:=by intro x;dsimp only;repeat (first|exact x|exact up_same _ _ _|refine aC (by omega) ?_)):p:=k x
theorem oZ{i off sz:Nat}{cs:List D}:sub (fz0 i cs sz) (.rp i off)=.pt (cs.drop off):=by simp[sub,sub1,fz0]
theorem Cn{i off n sz:Nat}{cs:List D}:sub (fz0 i cs sz) (.rs i off n)=.sl ((cs.drop off).take (n*sz)) n:=by simp[sub,sub1,fz0]
theorem Hc{i j off sz:Nat}{cs:List D}(h:j≠i):sub (fz0 i cs sz) (.rp j off)=.rp j off:=by simp[sub,sub1,fz0,h]
theorem BH{i j off n sz:Nat}{cs:List D}(h:j≠i):sub (fz0 i cs sz) (.rs j off n)=.rs j off n:=by simp[sub,sub1,fz0,h]
theorem Qx{α:Type}{f:α->List D}{sz:Nat}(hs:∀ x,(f x).length=sz):∀ (l:List α) (k:Nat),(l.flatMap f).take (k*sz)=(l.take k).flatMap f
 |[],k=>by simp
 |x::l,0=>by simp
 |x::l,k+1=>by
  rw[List.flatMap_cons,List.take_succ_cons,List.flatMap_cons, <- Qx hs l k,show(k+1)*sz=(f x).length+k*sz by rw[hs x,Nat.add_mul];omega,List.take_length_add_append]
theorem ad3{α:Type}{f:α->List D}{sz k:Nat}{l:List α}(hs:∀ x,(f x).length=sz)(hk:k<=l.length):
 D.sl (((l.flatMap f).drop ((0:Int).toNat*sz)).take (((k:Int) - 0).toNat*sz)) ((k:Int) - 0).toNat=D.sl ((l.take k).flatMap f) (l.take k).length:=by
 have h1:((k:Int) - 0).toNat=k:=by omega
 have h2:(0:Int).toNat*sz=0:=by simp
 rw[h1,h2,List.drop_zero,Qx hs,List.length_take,Nat.min_eq_left hk]
section
variable{P:Program}{env:Env}{m:Mem}{nx:Nat}{x y z:Operand}{t:TypeId}{v:D}
theorem ab'{i:Nat}{es:List (Value×D)}{key:Value}{kt:TypeId}(hx:(opd env x).core=.mp i)(hm:m i=some (.map es))(hk:keyV (opd env y).core=some key)(C:(opd env z).core=v)(ht:mkeyP P t=kt):
 Ef P (.insert t x y z) env m nx ⟨mapT P t=true/\keyP P kt key=true/\es.all (fun e=>keyP P kt e.1)=true,.tup [],[(i,some (.map (putD key v es)))],[i],0⟩:=by
 refine⟨?_,rfl,rfl⟩;show mapPutD P m t (opd env x).core (opd env y).core (opd env z).core=_;simp only[mapPutD,hk,hx,hm,ht,C]
variable{n n':Int}{k:IntKind}{c:Bool}{p:TypeId}{n0:Nat}
theorem Ts(hx:(opd env x).core=.s (.int k n))(hy:(opd env y).core=.s (.int k n'))(hd:decide (n'<n)=c):Ef P (.binOp .gtr t x y p) env m nx ⟨k=k,.s (.bool c),[],[],0⟩:=by subst hd;exact LM hx hy
theorem Tp(hx:(opd env x).core=.s (.int k n))(hy:(opd env y).core=.s (.int k n'))(hd:decide (n<n')=c):Ef P (.binOp .lss t x y p) env m nx ⟨k=k,.s (.bool c),[],[],0⟩:=by subst hd;exact LK hx hy
theorem Tu(hx:(opd env x).core=.s (.int k n))(hy:(opd env y).core=.s (.int k n'))(hd:decide (n<=n')=c):Ef P (.binOp .leq t x y p) env m nx ⟨k=k,.s (.bool c),[],[],0⟩:=by subst hd;exact LL hx hy
theorem Lm(hx:(opd env x).core=.s (.int k n))(hy:(opd env y).core=.s (.int k n'))(hd:(n==n')=c):Ef P (.binOp .eql t x y p) env m nx ⟨k=k,.s (.bool c),[],[],0⟩:=by subst hd;exact LO hx hy
theorem Tq(hx:(opd env x).core=.s (.int k n))(hy:(opd env y).core=.s (.int k n'))(hd:(n !=n')=c):Ef P (.binOp .neq t x y p) env m nx ⟨k=k,.s (.bool c),[],[],0⟩:=by subst hd;exact LP hx hy
theorem afk(hx:(opd env x).core=.s (.int k n))(hy:(opd env y).core=.s (.int k n')){r:Int}(hd:k.wrap (n.tdiv n')=r):Ef P (.binOp .quo t x y p) env m nx ⟨k=k/\n'≠0,.s (.int k r),[],[],0⟩:=by subst hd;exact aeE hx hy
theorem afl(hx:(opd env x).core=.s (.int k n))(hy:(opd env y).core=.s (.int k n')){r:Int}(hd:n.tmod n'=r):Ef P (.binOp .rem t x y p) env m nx ⟨k=k/\n'≠0,.s (.int k r),[],[],0⟩:=by subst hd;exact afD hx hy
theorem Tv(hx:(opd env x).core=.s (.int k n))(hy:(opd env y).core=.s (.int k n'))(hd:decide (n'<=n)=c):Ef P (.binOp .geq t x y p) env m nx ⟨k=k,.s (.bool c),[],[],0⟩:=by subst hd;exact LN hx hy
theorem adG{j i l:Nat}{e:TypeId}{r:Row}(hx:(opd env x).core=.rp j 0)(hy:(opd env y).core=.s (.int k (i:Int)))(hm:m j=some r)(he:elemP P t=e)(hs:P.cellsOf e=1)(hl:lenP P t=l):
 Ef P (.indexAddr t x y) env m nx ⟨arT P t=true/\i<l,.rp j i,[],[j],0⟩:=by
 have h:=Td (P:=P) (env:=env) (m:=m) (nx:=nx) (t:=t) hx hy hm he hs hl;have h1:0+((i:Int)).toNat*1=i:=by simp
 have h2:(arT P t=true/\(0:Int)<=(i:Int)/\(i:Int)<l)=(arT P t=true/\i<l):=by
  apply propext;constructor
  .rintro⟨a,_,b⟩;exact⟨a,oG⟩
  .rintro⟨a,b⟩;exact⟨a,oG,oG⟩
 rw[h1,h2] at h;exact h
theorem nV{l:List D}{n:Nat}(h:l.length=n):(l.drop 0).take n=l:=by rw[List.drop_zero,df oG]
theorem TC{l:List D}{n:Nat}(h:l.length=n):l.take n=l:=df oG
theorem KR{z l:List D}(C:z.length=20)(hl:l.length=20):splice z 0 l=l:=by
 unfold splice;split
 .simp at hl
 .rw[List.take_zero,List.nil_append,List.drop_eq_nil_of_le oG,List.append_nil]
theorem afi{es:List D}(hx:(opd env x).core=.sl es 0):Ef P (.binOp .eql t x (.const (.slice none 0 0)) p) env m nx ⟨slT P t=true,.ub,[],[],0⟩:=⟨by simp only[aop,rho,hx,nilD,if_true],rfl,rfl⟩
theorem afj{es:List D}{l:Nat}(hx:(opd env x).core=.sl es l)(hl:l≠0):Ef P (.binOp .eql t x (.const (.slice none 0 0)) p) env m nx ⟨slT P t=true,.s (.bool false),[],[],0⟩:=⟨by simp only[aop,rho,hx,nilD,if_neg hl],rfl,rfl⟩
theorem lA{i off n sz:Nat}{cs es:List D}{e:TypeId}(hs:P.cellsOf e=sz)(h:(cs.drop off).take (n*sz)=es):uj P [(i,cs,e)] (.rs i off n)=.sl es n:=by subst hs h;exact Cn
theorem z9(h:env n0=.z):Ghost P ⟨env,m,nx⟩ ⟨aD [(n0,.sl [] 0)],fun _=>none,nx+1⟩:=by
 have h1:=Ghost.nilrow (P:=P) env m nx n0 0 h;have h2:=bG (P:=P) (env:=up env n0 (.rs nx 0 0)) (m:=up m nx (some (.cells [] 0))) (nx:=nx+1) [(nx,[],0)] ⟨up_same _ _ _,trivial⟩ (l:=[(n0,.sl [] 0)]) ⟨(congrArg _ (up_same _ _ _)).trans (lA (sz:=P.cellsOf 0) rfl oS),trivial⟩;exact h1.trans h2
theorem oh{rds:List Nat}:Sn P rds m .z (.sl [] 0):=fun F β w v _ hv=>by
 obtain⟨x,rfl⟩:=hv.z_inv;exact .sln x 0
theorem afe{rds:List Nat}{aS bs:List D}(h:Sns P rds m aS bs):Sn P rds m (.agg aS) (.agg bs):=fun F β w v hl hv=>by
 obtain⟨vs,rfl,hn,C⟩:=hv.agg_inv;obtain⟨h1,h2⟩:=sns_R hl h;refine .agg _ vs oG fun k d u hd J=>?_;have hk:k<aS.length:=by rw[h1];exact(bw.1 hd).1
 exact h2 k aS[k] d (by simp[hk]) hd u (C k aS[k] u (by simp[hk]) J)
theorem Re{l:List (Nat×D)}{m':Mem}(h:jN l env)(hm:∀ i,m' i=m i\/m' i=none):Ghost P ⟨env,m,nx⟩ ⟨aD l,m',nx⟩:=(Ghost.forget env _ m nx (pN h)).trans (.drop _ _ _ _ hm)
def Ni:List (Nat×List (Value×D))->Mem->Prop
 |[],_=>True
 |(i,es)::fs,m=>m i=some (.map es)/\Ni fs (fun j=>if j=i then none else(m j).map (Row.sub (fm0 i es)))
def O0:List (Nat×List (Value×D))->D->D
 |[],d=>d
 |(i,es)::fs,d=>O0 fs (sub (fm0 i es) d)
theorem Qy:∀ {fs:List (Nat×List (Value×D))} {env:Env} {m:Mem} {nx:Nat},Ni fs m->∃ m',Ghost P ⟨env,m,nx⟩ ⟨fun t=>O0 fs (env t),m',nx⟩
 |[],env,m,nx,_=>⟨m,.refl _⟩
 |(i,es)::fs,env,m,nx,⟨h1,h2⟩=>by
  obtain⟨m',h⟩:=Qy (env:=fun t=>sub (fm0 i es) (env t)) (nx:=nx) h2;exact⟨m',(Ghost.freezeM env m nx i es h1).trans h⟩
theorem acL(fs:List (Nat×List (Value×D)))(hf:Ni fs m){l:List (Nat×D)}(hl:jN l fun t=>O0 fs (env t)):Ghost P ⟨env,m,nx⟩ ⟨aD l,fun _=>none,nx⟩:=by
 obtain⟨m',h⟩:=Qy (P:=P) (env:=env) (nx:=nx) hf;exact h.trans ((Ghost.forget _ _ _ _ (pN hl)).trans (Ghost.drop _ _ _ _ fun _=>.inr rfl))
end
end Go.Abs
namespace Go.Proofs.Tryz.K
open Go.Abs
theorem a1:aggP prog 1=false:=kr
theorem b1:prog.bytesOf 1=8:=kr
theorem b2:prog.bytesOf 2=8:=kr
theorem a2:aggP prog 2=false:=kr
theorem c3:prog.cellsOf 3=1:=kr
theorem b3:prog.bytesOf 3=8:=kr
theorem a3:aggP prog 3=false:=kr
theorem c4:prog.cellsOf 4=1:=kr
theorem b4:prog.bytesOf 4=1:=kr
theorem a4:aggP prog 4=false:=kr
theorem c5:prog.cellsOf 5=1:=kr
theorem b5:prog.bytesOf 5=1:=kr
theorem a5:aggP prog 5=false:=kr
theorem b6:prog.bytesOf 6=1:=kr
theorem a6:aggP prog 6=false:=kr
theorem Gd:elemP prog 15=275:=kr
theorem Ge:elemP prog 16=278:=kr
theorem Gc:elemP prog 17=287:=kr
theorem Yl:elemP prog 22=5:=kr
theorem W3:slT prog 22=true:=kr
theorem Bh:prog.cellsOf 27=1:=kr
theorem X2:prog.bytesOf 27=24:=kr
theorem vV:elemP prog 27=3:=kr
theorem vp:slT prog 27=true:=kr
theorem Oh:prog.cellsOf 30=3:=kr
theorem Og:aggP prog 30=true:=kr
theorem t30:tyOk prog 30=true:=kr
theorem YO:prog.cellsOf 52=1:=kr
theorem YN:prog.bytesOf 52=24:=kr
theorem Xq:prog.cellsOf 133=10:=kr
theorem Xp:aggP prog 133=true:=kr
theorem t133:tyOk prog 133=true:=kr
theorem nj:prog.cellsOf 158=2:=kr
theorem Xs:prog.bytesOf 158=32:=kr
theorem uf:aggP prog 158=true:=kr
theorem t158:tyOk prog 158=true:=kr
theorem zb:prog.cellsOf 168=2:=kr
theorem Wq:prog.bytesOf 168=16:=kr
theorem Wz:aggP prog 168=true:=kr
theorem t168:tyOk prog 168=true:=kr
theorem Ij:elemP prog 169=168:=kr
theorem HW:slT prog 169=true:=kr
theorem Nc:aggP prog 205=true:=kr
theorem Nd:zeroP prog 205=[.s (.int .i64 0),.s (.int .i64 0),.s (.int .i64 0),.s (.int .i64 0),.s (.int .i64 0),.s (.int .i64 0)]:=kr
theorem tY:prog.cellsOf 231=20:=kr
theorem WS:prog.bytesOf 231=160:=kr
theorem xg:aggP prog 231=true:=kr
theorem t231:tyOk prog 231=true:=kr
theorem WR:zeroP prog 231=[.s (.int .u64 0),.s (.int .u64 0),.s (.int .u64 0),.s (.int .u64 0),.s (.int .u64 0),.s (.int .u64 0),.s (.int .u64 0),.s (.int .u64 0),.s (.int .u64 0),.s (.int .u64 0),.s (.int .u64 0),.s (.int .u64 0),.s (.int .u64 0),.s (.int .u64 0),.s (.int .u64 0),.s (.int .u64 0),.s (.int .u64 0),.s (.int .u64 0),.s (.int .u64 0),.s (.int .u64 0)]:=kr
theorem mixed:prog.follows .mixedOrders=true:=kr
noncomputable def bo(f:Func):Code:=(f.body).getD .skip
abbrev FO(n:FuncId)(f:Func)(c:Code):=na prog n f c
theorem fo{n:FuncId}{f:Func}{c:Code}(h1:prog.funcs[n]? =some f:=by kernel_rfl)(h2:f.body=some c:=by kernel_rfl)(h3:ln f.ntmps c=true:=by kernel_rfl)(h4:enterOk prog n=true:=by kernel_rfl):FO n f c:=⟨h1,h2,h3,h4⟩
noncomputable def o4:=bo Tryz.f3
theorem ok3:FO 3 Tryz.f3 o4:=fo
noncomputable def jP:=bo Tryz.f15
theorem akW:FO 15 Tryz.f15 jP:=fo
noncomputable def nO:=bo Tryz.f16
theorem aj2:FO 16 Tryz.f16 nO:=fo
noncomputable def TM:=bo Tryz.f17
theorem alz:FO 17 Tryz.f17 TM:=fo
noncomputable def iy:=bo Tryz.f18
theorem ML:FO 18 Tryz.f18 iy:=fo
noncomputable def eg:=bo Tryz.f19
theorem ajZ:FO 19 Tryz.f19 eg:=fo
noncomputable def nP:=bo Tryz.f20
theorem Im:FO 20 Tryz.f20 nP:=fo
noncomputable def As:=bo Tryz.f21
theorem alv:FO 21 Tryz.f21 As:=fo
noncomputable def EF:=bo Tryz.f22
theorem Xz:FO 22 Tryz.f22 EF:=fo
noncomputable def TN:=bo Tryz.f23
theorem alA:FO 23 Tryz.f23 TN:=fo
noncomputable def TO:=bo Tryz.f26
theorem alB:FO 26 Tryz.f26 TO:=fo
noncomputable def TP:=bo Tryz.f28
theorem alC:FO 28 Tryz.f28 TP:=fo
noncomputable def TQ:=bo Tryz.f33
theorem alD:FO 33 Tryz.f33 TQ:=fo
noncomputable def TS:=bo Tryz.f36
theorem alE:FO 36 Tryz.f36 TS:=fo
noncomputable def dQ:=bo Tryz.f39
theorem Xi:FO 39 Tryz.f39 dQ:=fo
theorem akZ: Tryz.f39.results.toList=[.tmp 2,.tmp 3]:=kr
noncomputable def TT:=bo Tryz.f41
theorem alF:FO 41 Tryz.f41 TT:=fo
noncomputable def TU:=bo Tryz.f50
theorem alG:FO 50 Tryz.f50 TU:=fo
noncomputable def iI:=bo Tryz.f51
theorem M9:FO 51 Tryz.f51 iI:=fo
noncomputable def iz:=bo Tryz.f52
theorem We:FO 52 Tryz.f52 iz:=fo
noncomputable def pX:=bo Tryz.f53
theorem MK:FO 53 Tryz.f53 pX:=fo
noncomputable def EG:=bo Tryz.f54
theorem W6:FO 54 Tryz.f54 EG:=fo
noncomputable def eU:=bo Tryz.f55
theorem ale:FO 55 Tryz.f55 eU:=fo
noncomputable def pY:=bo Tryz.f56
theorem ak':FO 56 Tryz.f56 pY:=fo
noncomputable def u6:=bo Tryz.f57
theorem ajW:FO 57 Tryz.f57 u6:=fo
noncomputable def sv:=bo Tryz.f58
theorem Wi:FO 58 Tryz.f58 sv:=fo
noncomputable def wL:=bo Tryz.f59
theorem XB:FO 59 Tryz.f59 wL:=fo
noncomputable def fm:=bo Tryz.f60
theorem Xk:FO 60 Tryz.f60 fm:=fo
noncomputable def yQ:=bo Tryz.f61
theorem Xd:FO 61 Tryz.f61 yQ:=fo
noncomputable def bJ:=bo Tryz.f62
theorem Wv:FO 62 Tryz.f62 bJ:=fo
noncomputable def nQ:=bo Tryz.f63
theorem als:FO 63 Tryz.f63 nQ:=fo
noncomputable def qU:=bo Tryz.f64
theorem Nh:FO 64 Tryz.f64 qU:=fo
noncomputable def TV:=bo Tryz.f65
theorem alH:FO 65 Tryz.f65 TV:=fo
noncomputable def TW:=bo Tryz.f66
theorem alI:FO 66 Tryz.f66 TW:=fo
noncomputable def EH:=bo Tryz.f69
theorem W7:FO 69 Tryz.f69 EH:=fo
noncomputable def TX:=bo Tryz.f70
theorem alJ:FO 70 Tryz.f70 TX:=fo
noncomputable def TY:=bo Tryz.f71
theorem alK:FO 71 Tryz.f71 TY:=fo
noncomputable def TZ:=bo Tryz.f72
theorem alL:FO 72 Tryz.f72 TZ:=fo
noncomputable def T0:=bo Tryz.f73
theorem alM:FO 73 Tryz.f73 T0:=fo
noncomputable def jQ:=bo Tryz.f75
theorem alk:FO 75 Tryz.f75 jQ:=fo
noncomputable def u7:=bo Tryz.f76
theorem ak8:FO 76 Tryz.f76 u7:=fo
noncomputable def T1:=bo Tryz.f82
theorem alN:FO 82 Tryz.f82 T1:=fo
noncomputable def T2:=bo Tryz.f83
theorem alO:FO 83 Tryz.f83 T2:=fo
noncomputable def yR:=bo Tryz.f84
theorem W8:FO 84 Tryz.f84 yR:=fo
noncomputable def tK:=bo Tryz.f85
theorem Xa:FO 85 Tryz.f85 tK:=fo
noncomputable def T3:=bo Tryz.f87
theorem alP:FO 87 Tryz.f87 T3:=fo
noncomputable def EI:=bo Tryz.f89
theorem WQ:FO 89 Tryz.f89 EI:=fo
noncomputable def jR:=bo Tryz.f90
theorem CC:FO 90 Tryz.f90 jR:=fo
noncomputable def ly:=bo Tryz.f91
theorem alq:FO 91 Tryz.f91 ly:=fo
noncomputable def u9:=bo Tryz.f92
theorem ak6:FO 92 Tryz.f92 u9:=fo
noncomputable def T4:=bo Tryz.f93
theorem alQ:FO 93 Tryz.f93 T4:=fo
noncomputable def tL:=bo Tryz.f94
theorem Xj:FO 94 Tryz.f94 tL:=fo
noncomputable def wM:=bo Tryz.f95
theorem W4:FO 95 Tryz.f95 wM:=fo
noncomputable def EJ:=bo Tryz.f96
theorem WV:FO 96 Tryz.f96 EJ:=fo
noncomputable def oX:=bo Tryz.f97
theorem WU:FO 97 Tryz.f97 oX:=fo
noncomputable def Sd:=bo Tryz.f100
theorem aie:FO 100 Tryz.f100 Sd:=fo
noncomputable def yE:=bo Tryz.f105
theorem VM:FO 105 Tryz.f105 yE:=fo
noncomputable def tu:=bo Tryz.f110
theorem Mi:FO 110 Tryz.f110 tu:=fo
noncomputable def mP:=bo Tryz.f115
theorem Vd:FO 115 Tryz.f115 mP:=fo
noncomputable def tv:=bo Tryz.f116
theorem Vi:FO 116 Tryz.f116 tv:=fo
noncomputable def D0:=bo Tryz.f117
theorem UH:FO 117 Tryz.f117 D0:=fo
noncomputable def qM:=bo Tryz.f118
theorem L6:FO 118 Tryz.f118 qM:=fo
noncomputable def D1:=bo Tryz.f119
theorem Uy:FO 119 Tryz.f119 D1:=fo
noncomputable def eJ:=bo Tryz.f120
theorem ahU:FO 120 Tryz.f120 eJ:=fo
noncomputable def eK:=bo Tryz.f121
theorem ah5:FO 121 Tryz.f121 eK:=fo
noncomputable def uS:=bo Tryz.f122
theorem VB:FO 122 Tryz.f122 uS:=fo
noncomputable def fT:=bo Tryz.f123
theorem ahD:FO 123 Tryz.f123 fT:=fo
noncomputable def wC:=bo Tryz.f124
theorem ahx:FO 124 Tryz.f124 wC:=fo
noncomputable def hC:=bo Tryz.f125
theorem ahz:FO 125 Tryz.f125 hC:=fo
noncomputable def pQ:=bo Tryz.f126
theorem ah3:FO 126 Tryz.f126 pQ:=fo
noncomputable def qN:=bo Tryz.f127
theorem ah1:FO 127 Tryz.f127 qN:=fo
noncomputable def lV:=bo Tryz.f128
theorem ahF:FO 128 Tryz.f128 lV:=fo
noncomputable def yF:=bo Tryz.f129
theorem UL:FO 129 Tryz.f129 yF:=fo
noncomputable def tw:=bo Tryz.f130
theorem L5:FO 130 Tryz.f130 tw:=fo
noncomputable def D2:=bo Tryz.f131
theorem UQ:FO 131 Tryz.f131 D2:=fo
noncomputable def Se:=bo Tryz.f132
theorem aif:FO 132 Tryz.f132 Se:=fo
noncomputable def Sf:=bo Tryz.f133
theorem aih:FO 133 Tryz.f133 Sf:=fo
noncomputable def Sg:=bo Tryz.f134
theorem aii:FO 134 Tryz.f134 Sg:=fo
noncomputable def Si:=bo Tryz.f135
theorem aij:FO 135 Tryz.f135 Si:=fo
noncomputable def Sj:=bo Tryz.f136
theorem aik:FO 136 Tryz.f136 Sj:=fo
noncomputable def lW:=bo Tryz.f137
theorem VO:FO 137 Tryz.f137 lW:=fo
noncomputable def Sk:=bo Tryz.f138
theorem ail:FO 138 Tryz.f138 Sk:=fo
noncomputable def gH:=bo Tryz.f139
theorem VK:FO 139 Tryz.f139 gH:=fo
noncomputable def fK:=bo Tryz.f140
theorem VN:FO 140 Tryz.f140 fK:=fo
noncomputable def Sl:=bo Tryz.f141
theorem aim:FO 141 Tryz.f141 Sl:=fo
noncomputable def Sm:=bo Tryz.f142
theorem ain:FO 142 Tryz.f142 Sm:=fo
noncomputable def So:=bo Tryz.f143
theorem aio:FO 143 Tryz.f143 So:=fo
noncomputable def Sp:=bo Tryz.f144
theorem aip:FO 144 Tryz.f144 Sp:=fo
noncomputable def oR:=bo Tryz.f145
theorem ahu:FO 145 Tryz.f145 oR:=fo
noncomputable def si:=bo Tryz.f146
theorem ahB:FO 146 Tryz.f146 si:=fo
noncomputable def tx:=bo Tryz.f149
theorem Vj:FO 149 Tryz.f149 tx:=fo
noncomputable def fL:=bo Tryz.f151
theorem UW:FO 151 Tryz.f151 fL:=fo
noncomputable def Sq:=bo Tryz.f152
theorem aiq:FO 152 Tryz.f152 Sq:=fo
noncomputable def eA:=bo Tryz.f153
theorem Vb:FO 153 Tryz.f153 eA:=fo
noncomputable def gI:=bo Tryz.f154
theorem Va:FO 154 Tryz.f154 gI:=fo
noncomputable def D3:=bo Tryz.f155
theorem UY:FO 155 Tryz.f155 D3:=fo
noncomputable def D4:=bo Tryz.f156
theorem UF:FO 156 Tryz.f156 D4:=fo
noncomputable def Sr:=bo Tryz.f158
theorem air:FO 158 Tryz.f158 Sr:=fo
noncomputable def Ai:=bo Tryz.f166
theorem Vt:FO 166 Tryz.f166 Ai:=fo
noncomputable def uT:=bo Tryz.f168
theorem Vf:FO 168 Tryz.f168 uT:=fo
noncomputable def jM:=bo Tryz.f169
theorem ahH:FO 169 Tryz.f169 jM:=fo
noncomputable def Hu:=bo Tryz.f170
theorem ahf:FO 170 Tryz.f170 Hu:=fo
noncomputable def dG:=bo Tryz.f171
theorem VE:FO 171 Tryz.f171 dG:=fo
noncomputable def hD:=bo Tryz.f172
theorem ahS:FO 172 Tryz.f172 hD:=fo
noncomputable def pR:=bo Tryz.f173
theorem ahZ:FO 173 Tryz.f173 pR:=fo
noncomputable def Ss:=bo Tryz.f174
theorem ais:FO 174 Tryz.f174 Ss:=fo
noncomputable def qO:=bo Tryz.f175
theorem VL:FO 175 Tryz.f175 qO:=fo
noncomputable def Aj:=bo Tryz.f176
theorem Ve:FO 176 Tryz.f176 Aj:=fo
noncomputable def Su:=bo Tryz.f177
theorem ait:FO 177 Tryz.f177 Su:=fo
noncomputable def sj:=bo Tryz.f178
theorem UU:FO 178 Tryz.f178 sj:=fo
noncomputable def Sv:=bo Tryz.f179
theorem aiu:FO 179 Tryz.f179 Sv:=fo
noncomputable def Sw:=bo Tryz.f180
theorem aiv:FO 180 Tryz.f180 Sw:=fo
noncomputable def Sx:=bo Tryz.f181
theorem aiw:FO 181 Tryz.f181 Sx:=fo
noncomputable def Sy:=bo Tryz.f182
theorem aix:FO 182 Tryz.f182 Sy:=fo
noncomputable def Sz:=bo Tryz.f183
theorem aiy:FO 183 Tryz.f183 Sz:=fo
noncomputable def D5:=bo Tryz.f184
theorem UT:FO 184 Tryz.f184 D5:=fo
noncomputable def SA:=bo Tryz.f185
theorem aiz:FO 185 Tryz.f185 SA:=fo
noncomputable def SB:=bo Tryz.f186
theorem aiA:FO 186 Tryz.f186 SB:=fo
noncomputable def SC:=bo Tryz.f187
theorem aiB:FO 187 Tryz.f187 SC:=fo
noncomputable def SD:=bo Tryz.f188
theorem aiC:FO 188 Tryz.f188 SD:=fo
noncomputable def BS:=bo Tryz.f189
theorem Vu:FO 189 Tryz.f189 BS:=fo
noncomputable def D6:=bo Tryz.f190
theorem U4:FO 190 Tryz.f190 D6:=fo
noncomputable def D7:=bo Tryz.f191
theorem U9:FO 191 Tryz.f191 D7:=fo
noncomputable def D8:=bo Tryz.f192
theorem Uw:FO 192 Tryz.f192 D8:=fo
noncomputable def D9:=bo Tryz.f193
theorem U6:FO 193 Tryz.f193 D9:=fo
noncomputable def D':=bo Tryz.f194
theorem U5:FO 194 Tryz.f194 D':=fo
noncomputable def fA:=bo Tryz.f195
theorem VH:FO 195 Tryz.f195 fA:=fo
noncomputable def mQ:=bo Tryz.f196
theorem Vy:FO 196 Tryz.f196 mQ:=fo
noncomputable def fj:=bo Tryz.f197
theorem U1:FO 197 Tryz.f197 fj:=fo
noncomputable def jA:=bo Tryz.f198
theorem U0:FO 198 Tryz.f198 jA:=fo
noncomputable def yG:=bo Tryz.f199
theorem UZ:FO 199 Tryz.f199 yG:=fo
noncomputable def Ea:=bo Tryz.f200
theorem UB:FO 200 Tryz.f200 Ea:=fo
noncomputable def Ak:=bo Tryz.f201
theorem UX:FO 201 Tryz.f201 Ak:=fo
noncomputable def sk:=bo Tryz.f202
theorem UG:FO 202 Tryz.f202 sk:=fo
noncomputable def wD:=bo Tryz.f211
theorem aha:FO 211 Tryz.f211 wD:=fo
noncomputable def Hv:=bo Tryz.f212
theorem ag9:FO 212 Tryz.f212 Hv:=fo
noncomputable def wE:=bo Tryz.f213
theorem ahc:FO 213 Tryz.f213 wE:=fo
noncomputable def lX:=bo Tryz.f214
theorem ahq:FO 214 Tryz.f214 lX:=fo
noncomputable def pS:=bo Tryz.f215
theorem ahh:FO 215 Tryz.f215 pS:=fo
noncomputable def Eb:=bo Tryz.f216
theorem ahj:FO 216 Tryz.f216 Eb:=fo
noncomputable def tz:=bo Tryz.f217
theorem Vw:FO 217 Tryz.f217 tz:=fo
noncomputable def Ec:=bo Tryz.f218
theorem ahm:FO 218 Tryz.f218 Ec:=fo
noncomputable def ix:=bo Tryz.f219
theorem ahs:FO 219 Tryz.f219 ix:=fo
noncomputable def lm:=bo Tryz.f220
theorem ahL:FO 220 Tryz.f220 lm:=fo
noncomputable def lY:=bo Tryz.f221
theorem ahP:FO 221 Tryz.f221 lY:=fo
noncomputable def SE:=bo Tryz.f222
theorem aiD:FO 222 Tryz.f222 SE:=fo
noncomputable def SF:=bo Tryz.f223
theorem aiE:FO 223 Tryz.f223 SF:=fo
noncomputable def SG:=bo Tryz.f224
theorem aiF:FO 224 Tryz.f224 SG:=fo
noncomputable def SH:=bo Tryz.f225
theorem aiG:FO 225 Tryz.f225 SH:=fo
noncomputable def SJ:=bo Tryz.f226
theorem aiH:FO 226 Tryz.f226 SJ:=fo
noncomputable def Ed:=bo Tryz.f227
theorem US:FO 227 Tryz.f227 Ed:=fo
noncomputable def Ee:=bo Tryz.f228
theorem Uv:FO 228 Tryz.f228 Ee:=fo
noncomputable def Eg:=bo Tryz.f229
theorem U2:FO 229 Tryz.f229 Eg:=fo
noncomputable def Eh:=bo Tryz.f230
theorem U7:FO 230 Tryz.f230 Eh:=fo
noncomputable def tA:=bo Tryz.f231
theorem L3:FO 231 Tryz.f231 tA:=fo
noncomputable def Ei:=bo Tryz.f232
theorem U3:FO 232 Tryz.f232 Ei:=fo
noncomputable def Ej:=bo Tryz.f233
theorem Mj:FO 233 Tryz.f233 Ej:=fo
noncomputable def Al:=bo Tryz.f234
theorem Mk:FO 234 Tryz.f234 Al:=fo
noncomputable def pT:=bo Tryz.f235
theorem Vl:FO 235 Tryz.f235 pT:=fo
noncomputable def tB:=bo Tryz.f236
theorem Mm:FO 236 Tryz.f236 tB:=fo
noncomputable def Ek:=bo Tryz.f237
theorem Vh:FO 237 Tryz.f237 Ek:=fo
noncomputable def El:=bo Tryz.f238
theorem Vr:FO 238 Tryz.f238 El:=fo
noncomputable def BT:=bo Tryz.f239
theorem Ml:FO 239 Tryz.f239 BT:=fo
noncomputable def BU:=bo Tryz.f240
theorem Vx:FO 240 Tryz.f240 BU:=fo
noncomputable def SK:=bo Tryz.f241
theorem aiI:FO 241 Tryz.f241 SK:=fo
noncomputable def yH:=bo Tryz.f242
theorem UC:FO 242 Tryz.f242 yH:=fo
noncomputable def tC:=bo Tryz.f243
theorem UD:FO 243 Tryz.f243 tC:=fo
noncomputable def Em:=bo Tryz.f244
theorem VJ:FO 244 Tryz.f244 Em:=fo
noncomputable def wF:=bo Tryz.f245
theorem UE:FO 245 Tryz.f245 wF:=fo
noncomputable def uU:=bo Tryz.f246
theorem UM:FO 246 Tryz.f246 uU:=fo
noncomputable def En:=bo Tryz.f247
theorem UO:FO 247 Tryz.f247 En:=fo
noncomputable def SL:=bo Tryz.f251
theorem aiJ:FO 251 Tryz.f251 SL:=fo
noncomputable def tD:=bo Tryz.f252
theorem L2:FO 252 Tryz.f252 tD:=fo
noncomputable def oU:=bo Tryz.f253
theorem Vk:FO 253 Tryz.f253 oU:=fo
noncomputable def Eo:=bo Tryz.f254
theorem Ux:FO 254 Tryz.f254 Eo:=fo
noncomputable def Ep:=bo Tryz.f255
theorem Vs:FO 255 Tryz.f255 Ep:=fo
noncomputable def Er:=bo Tryz.f256
theorem Vg:FO 256 Tryz.f256 Er:=fo
noncomputable def Es:=bo Tryz.f257
theorem Vq:FO 257 Tryz.f257 Es:=fo
noncomputable def yI:=bo Tryz.f258
theorem UN:FO 258 Tryz.f258 yI:=fo
noncomputable def tE:=bo Tryz.f260
theorem L4:FO 260 Tryz.f260 tE:=fo
theorem bg{f:FuncId}{fn:Func}{c:Code}(hf:na Tryz.prog f fn c){args:List D}(ht:∀ a∈args,Tr a){r:D}(hr:Tr r)(h:AW Tryz.prog noY true c (retQ Tryz.prog fn.results.toList fun d _=>d=r) ⟨envOf args,fun _=>none,0⟩)(hn:Nat.ble args.length fn.ntmps=true:=by kernel_rfl):PCall Tryz.prog f args r:=abU mixed hf hn ht hr h
theorem zK{f:FuncId}{fn:Func}{c:Code}(hf:na Tryz.prog f fn c){args:List D}(ht:∀ a∈args,Tr a){es:List D}(C:∀ a∈es,Tr a){k:Nat}{t:TypeId}(h:AW Tryz.prog noY true c (retQ Tryz.prog fn.results.toList fun d st=>∃ i,d=.rs i 0 k∧st.mem i=some (.cells es t)) ⟨envOf args,fun _=>none,0⟩)(hn:Nat.ble args.length fn.ntmps=true:=by kernel_rfl):OCall Tryz.prog f args es k t:=QT mixed hf hn ht C h
theorem zI{f:FuncId}{fn:Func}{c:Code}(hf:na Tryz.prog f fn c){args:List D}{m:Mem}{nx:Nat}{cN:D->Mem->Nat->Prop}(h:AW Tryz.prog noY true c (retQ Tryz.prog fn.results.toList fun d st=>cN d st.mem st.nx) ⟨envOf args,m,nx⟩)(hn:Nat.ble args.length fn.ntmps=true:=by kernel_rfl):ACalls Tryz.prog f args m nx cN:=QS mixed hf hn h
def gS(P:Program)(t:TypeId):Array Field:=match P.underlying t with|some (.struct fs)=>fs|_=> #[]
theorem u8:prog.underlying 8=some (.struct (gS prog 8)):=kr
theorem Me:mkeyP prog 127=3:=kr
theorem Mf:mapT prog 127=true:=kr
theorem Mo:melP prog 131=205:=kr
theorem wR:mkeyP prog 165=172:=kr
theorem wS:mapT prog 165=true:=kr
theorem Ci:mkeyP prog 166=168:=kr
theorem Cj:mapT prog 166=true:=kr
theorem u2:prog.underlying 2=some (.int .i64):=kr
theorem u3:prog.underlying 3=some (.int .i64):=kr
theorem u5:prog.underlying 5=some (.int .u8):=kr
end Go.Proofs.Tryz.K
namespace Go.Argus
open Go.Abs
abbrev I(n:Int):D:=.s (.int .i64 n)
abbrev U8(n:Int):D:=.s (.int .u8 n)
abbrev B(b:Bool):D:=.s (.bool b)
abbrev S(s:ByteArray):D:=.s (.string s)
abbrev au(l:List Int):D:=.sl (l.map I) l.length
abbrev lh(l:List Int):D:=.sl (l.map U8) l.length
abbrev r9(l:List ByteArray):D:=.sl (l.map S) l.length
structure bC where
 op:Int
 to:Int
 a:Int
 b:Int
 n:Int
 args:List Int
structure kS where
 name:ByteArray
 to:Int
structure End where
 kind:Int
 a:Int
 b:Int
 to:Int
 gF:Int
 name:ByteArray
 ins:bC
 args:List Int
 aL:List kS
 cX:Int
structure b7 where
 ins:List bC
 fin:End
structure aG where
 name:ByteArray
 iter:Bool
 args:Int
 result:Int
 al:List Int
 aZ:List Int
 ac:List ByteArray
 ab:List b7
def bu(x:bC):List D:=[U8 x.op,I x.to,I x.a,I x.b,I x.n,au x.args]
def mM(w:kS):List D:=[S w.name,I w.to]
def qJ(l:List kS):D:=.sl (l.flatMap mM) l.length
def iH(l:List bC):D:=.sl (l.flatMap bu) l.length
def bh(x:End):List D:=[U8 x.kind,I x.a,I x.b,I x.to,I x.gF,S x.name,U8 x.ins.op,I x.ins.to,I x.ins.a,I x.ins.b,I x.ins.n,au x.ins.args,au x.args,qJ x.aL,I x.cX]
def fJ(b:b7):List D:=iH b.ins::bh b.fin
def gz(l:List b7):D:=.sl (l.flatMap fJ) l.length
def aH(f:aG):List D:=[S f.name,B f.iter,I f.args,U8 f.result,lh f.al,lh f.aZ,r9 f.ac,gz f.ab]
def bq(p q:D)(f:aG):List D:=[S f.name,B f.iter,I f.args,U8 f.result,lh f.al,lh f.aZ,r9 f.ac,gz f.ab,p,q]
@[simp] theorem aoc (p q : D) (x : aG) : (bq p q x).length = 10 := rfl
@[simp] theorem aog (x : bC) : (bu x).length = 6 := rfl
@[simp] theorem aod (x : kS) : (mM x).length = 2 := rfl
@[simp] theorem aoh (x : End) : (bh x).length = 15 := rfl
@[simp] theorem an9 (x : b7) : (fJ x).length = 16 := rfl
@[simp] theorem aoe (x : aG) : (aH x).length = 8 := rfl
theorem GI(x:bC):(bu x).length=6:=rfl
theorem DA(x:kS):(mM x).length=2:=rfl
theorem GH(x:b7):(fJ x).length=16:=rfl
def oc{α:Type}(p:α->Bool)(l:List α):Int:=match l.findIdx? p with
 |some i=>i
 |none=> -1
theorem DD{α:Type}{p:α->Bool}{l:List α}{k:Nat}{x:α}(hx:l[k]? =some x)(hp:p x=true)(h:∀ j y,j<k->l[j]? =some y->p y=false):oc p l=k:=by
 have:l.findIdx? p=some k:=by
  rw[List.findIdx?_eq_some_iff_getElem];obtain⟨hk,he⟩:=bw.1 hx;refine⟨hk,by rw[he];exact hp,fun j hj=>?_⟩;have:=h j l[j] hj (by simp[show j<l.length by omega]);simp[this]
 simp[oc,this]
theorem DE{α:Type}{p:α->Bool}{l:List α}(h:∀ (j:Nat) y,l[j]? =some y->p y=false):oc p l= -1:=by
 have:l.findIdx? p=none:=by
  rw[List.findIdx?_eq_none_iff];intro x hx;obtain⟨j,hj⟩:=cC hx;exact h j x hj
 simp[oc,this]
theorem DM{α:Type}(p:α->Bool)(l:List α):decide (0<=oc p l)=l.any p:=by
 unfold oc;cases h:l.findIdx? p with
 |none=>
  rw[List.findIdx?_eq_none_iff] at h;have:l.any p=false:=List.any_eq_false.2 fun x hx=>by simp[h x hx]
  simp[this]
 |some i=>
  obtain⟨hi,hp,_⟩:=List.findIdx?_eq_some_iff_getElem.1 h;have:l.any p=true:=List.any_eq_true.2 ⟨l[i],oS,hp⟩;simp[this]
theorem cL(l:List Int):Tr (au l):=.sl (.map fun _=>.s _)
theorem r6(l:List Int):Tr (lh l):=.sl (.map fun _=>.s _)
theorem Ag(l:List ByteArray):Tr (r9 l):=.sl (.map fun _=>.s _)
theorem sc(x:bC):∀ a∈bu x,Tr a:=.cons (.s _) (.cons (.s _) (.cons (.s _) (.cons (.s _) (.cons (.s _) (.cons (cL _) .nil)))))
theorem Hd(x:kS):∀ a∈mM x,Tr a:=.cons (.s _) (.cons (.s _) .nil)
theorem kI(l:List kS):Tr (qJ l):=.sl (.flat Hd)
theorem aeh(l:List bC):Tr (iH l):=.sl (.flat sc)
theorem lT(x:End):∀ a∈bh x,Tr a:=.cons (.s _) (.cons (.s _) (.cons (.s _) (.cons (.s _) (.cons (.s _) (.cons (.s _) (.cons (.s _) (.cons (.s _) (.cons (.s _) (.cons (.s _) (.cons (.s _) (.cons (cL _) (.cons (cL _) (.cons (kI _) (.cons (.s _) .nil))))))))))))))
theorem Qf(x:b7):∀ a∈fJ x,Tr a:=.cons (aeh _) (lT _)
theorem GO(l:List b7):Tr (gz l):=.sl (.flat Qf)
theorem iu(x:aG):∀ a∈aH x,Tr a:=.cons (.s _) (.cons (.s _) (.cons (.s _) (.cons (.s _) (.cons (r6 _) (.cons (r6 _) (.cons (Ag _) (.cons (GO _) .nil)))))))
theorem DO{p q:D}(hp:Tr p)(hq:Tr q)(x:aG):∀ a∈bq p q x,Tr a:=.cons (.s _) (.cons (.s _) (.cons (.s _) (.cons (.s _) (.cons (r6 _) (.cons (r6 _) (.cons (Ag _) (.cons (GO _) (.cons hp (.cons hq .nil)))))))))
theorem nJ{p q:D}(hp:Tr p)(hq:Tr q)(x:aG):Tr (.agg (bq p q x)):=.agg (DO hp hq x)
theorem wq{p q:D}{f:aG}(h1:p.one=true)(h2:q.one=true):(bq p q f).all D.one=true:=by
 simp only[bq,List.all_cons,List.all_nil,h1,h2];rfl
abbrev c6(n:Int):D:=.s (.int .u64 n)
abbrev iC(w:List Int):D:=.agg (w.map c6)
theorem me(w:List Int):(w.map c6).all D.one=true:=bj.2 fun x hx=>by obtain⟨y,_,rfl⟩:=List.mem_map.1 hx;rfl
theorem Kl{w:List Int}{i:Nat}{x:Int}:((w.map c6).set i (c6 x)).all D.one=true:=by rw[<- List.map_set];exact me _
theorem sG(w:List Int):Tr (iC w):=.agg (.map fun _=>.s _)
def rk(a b:Int):Int:=intBitsV .and .u64 a b
def Bk(a b:Int):Int:=intBitsV .or .u64 a b
def wP(w:List Int)(m:Nat):List Int:=w.set (m / 64) (Bk (w.getD (m / 64) 0) (IntKind.u64.wrap (1*2 ^ (min (m % 64) 64))))
def kT(w:List Int)(m:Nat):Bool:=rk ((w.getD (m / 64) 0).fdiv (2 ^ (min (m % 64) 64))) 1==1
def gC(w:List Int)(n:Int):List Int:=if 0<=n then wP w n.toNat else w
def fM(w v:List Int):Nat->List Int
 |0=>w
 |k+1=>(fM w v k).set k (rk ((fM w v k).getD k 0) (v.getD k 0))
def iJ(w v:List Int):List Int:=fM w v 20
@[simp] theorem Qz (w v : List Int) : ∀ k, (fM w v k).length = w.length
 |0=>rfl
 |k+1=>by simp[fM,Qz w v k]
@[simp] theorem aom (w : List Int) (m : Nat) : (wP w m).length = w.length := by simp [wP]
@[simp] theorem aon (w : List Int) (n : Int) : (gC w n).length = w.length := by unfold gC; split <;> simp
@[simp] theorem Qi (w v : List Int) : (iJ w v).length = w.length := Qz w v 20
theorem wrap_i64{n:Nat}(h:n<2 ^ 62):IntKind.i64.wrap (n:Int)=n:=by
 unfold IntKind.wrap;simp[IntKind.signed,IntKind.bits];omega
theorem Uz{m:Nat}(h:m<2 ^ 62):IntKind.i64.wrap ((m:Int).tdiv 64)=((m / 64:Nat):Int):=by
 rw[show(m:Int).tdiv 64=((m / 64:Nat):Int) from by rw[Int.tdiv_eq_ediv_of_nonneg oG];omega];exact wrap_i64 oG
theorem UA(m:Nat):(m:Int).tmod 64=((m % 64:Nat):Int):=by rw[Int.tmod_eq_emod_of_nonneg oG];omega
theorem ib(a b:Int):(a==b)=decide (a=b):=rfl
def dg(n a b:Int):Bool:=decide (a<=n)&&decide (n<=b)
def uM(b:Int):Bool:=decide (b<33)||decide (126<b)
def lZ(s:ByteArray):Bool:=dg s.size 1 120&& !(c7 s).any uM
def uN(b:Int):Bool:=(decide (b<97)||decide (122<b))&&(decide (b<48)||decide (57<b))
def isName(s:ByteArray):Bool:=dg s.size 1 12&& !(c7 s).any uN
def nE(C k:Int):Bool:=decide (k<1)||decide (C<k)
def fy(l:List Int)(C:Int):Bool:= !l.any (nE C)
def cG(l:List Int)(r:Int):Int:=if 0<=r then l.getD r.toNat 0 else 0
theorem uP{l:List Int}{i:Nat}{x:Int}(h:l[i]? =some x):cG l i=x:=by
 simp[cG,bl,h]
theorem JZ{l:List Int}{r:Int}(h:¬ (0<=r/\r<l.length)):cG l r=0:=by
 unfold cG;split
 .rename_i h0;have:l.length<=r.toNat:=by omega
  simp[bl,List.getElem?_eq_none this]
 .rfl
theorem lk{n a b:Int}:dg n a b=true↔a<=n/\n<=b:=by simp[dg]
theorem aa'{n a b:Int}:dg n a b=false↔¬ (a<=n/\n<=b):=by
 rw[<- Bool.not_eq_true,lk]
def eY(l:List Int)(r:Int):Bool:=cG l r==1||cG l r==2
def gZ(l rs:List Int):Bool:=rs.all (eY l)
def mW(l aZ:List Int)(r n:Int):Bool:=dg n 0 (aZ.length - 1)&&(cG l r==cG aZ n)
def mS(l:List Int)(r want C:Int):Bool:=
 if want=0 then r==0 else if want=1 then cG l r==1 else if want=2 then cG l r==2 else if want=3 then eY l r
 else cG l r !=0&&cG l r==C
structure Shape where
 to:Int
 a:Int
 b:Int
 args:Int
 low:Int
 high:Int
def j7(s:Shape):List D:=[I s.to,I s.a,I s.b,I s.args,I s.low,I s.high]
@[simp] theorem an' (x : Shape) : (j7 x).length = 6 := rfl
theorem Qp(x:Shape):∀ a∈j7 x,Tr a:=.cons (.s _) (.cons (.s _) (.cons (.s _) (.cons (.s _) (.cons (.s _) (.cons (.s _) .nil)))))
def r8(l:List Int)(x:bC)(s:Shape):Int:=if s.to=0\/s.to=1 then cG l x.a else cG l x.to
def rZ(l:List Int)(x:bC)(s:Shape):Bool:=if s.args=5 then dg x.args.length 1 6&&gZ l x.args else if s.args=6 then decide ((x.args.length:Int)=1)&&gZ l x.args else decide ((x.args.length:Int)=0)
def qL(l:List Int)(x:bC)(s:Shape):Bool:=
 mS l x.to s.to 0&&(mS l x.a s.a (r8 l x s)&&(mS l x.b s.b (r8 l x s)&&(rZ l x s&&dg x.n s.low s.high)))
def sN(l:List (Int×Shape)):List (Value×D):=l.map fun x=>(.int .u8 x.1,.agg (j7 x.2))
def Ah:Shape:=⟨0,0,0,0,0,0⟩
def gA(l:List (Int×Shape))(op:Int):Option Shape:=(l.find? fun x=>x.1==op).map (·.2)
def pW:List (Int×Shape):=[(1,⟨1,0,0,0, -1000000000,1000000000⟩),(2,⟨3,4,0,0,0,0⟩),(3,⟨1,1,1,0,0,0⟩),(4,⟨1,1,1,0,0,0⟩),(5,⟨1,3,4,0,0,0⟩),(6,⟨1,1,1,0,0,0⟩),(7,⟨1,1,1,0,0,0⟩),(8,⟨1,1,0,0,0,0⟩),
 (9,⟨2,0,0,0,0,1⟩),(10,⟨2,0,0,5,0,5⟩),(11,⟨3,2,0,0,0,5⟩),(12,⟨0,2,3,0,0,5⟩),(13,⟨1,2,0,0,0,0⟩),(14,⟨1,2,0,0,0,0⟩),(15,⟨0,1,0,0,0,0⟩)]
def ke:List (Int×Shape):=[(30,⟨1,1,1,0,0,0⟩),(31,⟨1,1,1,0,0,0⟩),(32,⟨1,1,1,0,0,0⟩),(33,⟨1,1,1,0,0,0⟩),(34,⟨1,1,1,0,0,0⟩),(35,⟨0,2,3,0,0,0⟩),(36,⟨3,2,0,0,0,0⟩),(37,⟨3,2,1,0,0,0⟩),(38,⟨0,2,1,6,0,0⟩)]
theorem Cp(l:List (Int×Shape)):Tr (.im (sN l)):=.im fun x hx=>by
 obtain⟨y,_,rfl⟩:=List.mem_map.1 hx;exact .agg (Qp _)
theorem Sc(op:Int):∀ l:List (Int×Shape),(lookD (.int .u8 op) (sN l)).map (·.2)=(gA l op).map fun s=>.agg (j7 s)
 |[]=>rfl
 |(o,s)::l=>by
  have ih:=Sc op l;unfold sN at ih ⊢;simp only[List.map_cons,lookD,veq,veq1,gA,List.find?_cons] at ih ⊢;by_cases h:o=op
  .subst h;simp
  .have hb:(o==op)=false:=by simpa using h
   simp only[hb,beq_self_eq_true,Bool.and_false,Bool.false_eq_true,if_false,Option.map_map] at ih ⊢;exact ih
theorem TJ{P:Program}{t:TypeId}{C:D}(M:zeroD P (melP P t)=C)(op:Int)(l:List (Int×Shape))(J:C=.agg (j7 Ah)):gotD P t true (lookD (.int .u8 op) (sN l))=.tup [.agg (j7 ((gA l op).getD Ah)),.s (.bool (gA l op).isSome)]:=by
 have h:=Sc op l;cases h1:lookD (.int .u8 op) (sN l) with
 |none=>
  rw[h1] at h;have:gA l op=none:=by simpa using h.symm
  simp only[gotD,this,M,J,Option.getD_none,Option.isSome_none,if_true]
 |some x=>
  rw[h1] at h;cases h2:gA l op with
  |none=>rw[h2] at h;simp at h
  |some s=>
   rw[h2] at h;obtain⟨i,d⟩:=x;simp only[Option.map_some,aV] at h;subst h;simp[gotD]
theorem R6{P:Program}{kt:TypeId}(hk:P.underlying kt=some (.int .u8))(l:List (Int×Shape)):(sN l).all (fun e=>keyP P kt e.1)=true:=by
 refine bj.2 fun x hx=>?_;obtain⟨y,_,rfl⟩:=List.mem_map.1 hx;simp[keyP,hk]
def aX(a b:Int):Bool:=decide (a=b)
def kf(x:bC):Bool:=decide ((x.args.length:Int)=0)
def jO(f:aG)(b:Int)(x:bC)(phis:Bool)(ahead:Int):Bool:=
 if x.op=16 then aX x.to 0&&(aX (cG f.al x.a) 3&&(aX x.b 0&&(aX x.n 0&&kf x)))
 else if x.op=17 then aX x.a 0&&(aX x.b 0&&(kf x&&mW f.al f.aZ x.to x.n))
 else if x.op=18 then aX x.to 0&&(aX x.b 0&&(kf x&&mW f.al f.aZ x.a x.n))
 else if x.op=19 then phis&&(decide (0<b)&&(eY f.al x.to&&(aX x.a 0&&(aX x.b 0&&(aX x.n 0&&(aX x.args.length ahead&& !x.args.any fun r=> !aX (cG f.al r) (cG f.al x.to)))))))
 else(gA pW x.op).isSome&&qL f.al x ((gA pW x.op).getD Ah)
def EB(x:bC):Bool:=decide (x.op=0)&&(decide (x.to=0)&&(decide (x.a=0)&&(decide (x.b=0)&&(decide (x.n=0)&&decide ((x.args.length:Int)=0)))))
def AA(x:End):Bool:=decide (x.kind=0)&&(decide (x.a=0)&&(decide (x.b=0)&&(decide (x.to=0)&&(decide (x.gF=0)&&(x.name.toList==[]&&(decide (x.cX= -1)&&(decide ((x.args.length:Int)=0)&&(decide ((x.aL.length:Int)=0)&&EB x.ins))))))))
def cu(f:aG)(n:Int):Bool:=dg n 0 (f.ab.length - 1)
def qc(f:aG)(ws:List kS)(i:Nat)(w:kS):Bool:=isName w.name&&(cu f w.to&& !(ws.take i).any fun v=>v.name.toList==w.name.toList)
def HI(f:aG)(ws:List kS):Bool:=ws.zipIdx.all fun x=>qc f ws x.2 x.1
theorem Pu{f:aG}{ws:List kS}(h:∀ (i:Nat) w,ws[i]? =some w->qc f ws i w=true):HI f ws=true:=by
 refine bj.2 fun x hx=>?_;obtain⟨h1,h2⟩:=List.mem_zipIdx' hx;exact h x.2 x.1 (by rw[h2];simp[h1])
theorem Jx{f:aG}{ws:List kS}{i:Nat}{w:kS}(C:ws[i]? =some w)(h:qc f ws i w=false):HI f ws=false:=by
 refine Bool.eq_false_iff.2 fun ht=>?_;have hx:(w,i)∈ws.zipIdx:=List.mem_zipIdx_iff_getElem?.2 C;have:=bj.1 ht _ hx;rw[h] at this;cases this
def nG(f:aG)(x:End):Bool:=HI f x.aL&&(decide ((x.aL.length:Int)<=7)&&(decide (x.cX= -1)||cu f x.cX))
def eB:bC:=⟨0,0,0,0,0,[]⟩
def gK(f:aG)(x:End):Bool×End:=
 let r:End:={ x with kind:=0 }
 if x.kind=1 then(cu f x.to,{ r with to:=0 })
 else if x.kind=2 then(aX (cG f.al x.a) 1&&(cu f x.to&&cu f x.gF),{ r with a:=0,to:=0,gF:=0 })
 else if x.kind=3 then(if f.result≠0/\f.iter=false then aX (cG f.al x.a) f.result else aX x.a (-1),{ r with a:=0 })
 else if x.kind=4 then(isName x.name,{ r with name:=.empty })
 else if x.kind=5 then((gA ke x.ins.op).isSome&&(qL f.al x.ins ((gA ke x.ins.op).getD Ah)&&(cu f x.to&&nG f x)),{ r with ins:=eB,to:=0,aL:=[],cX:= -1 })
 else if x.kind=6 then(lZ x.name&&(decide ((x.args.length:Int)<=6)&&(gZ f.al x.args&&((aX x.a (-1)||eY f.al x.a)&&(cu f x.to&&nG f x)))),{ r with name:=.empty,args:=[],a:=0,to:=0,aL:=[],cX:= -1 })
 else if x.kind=7 then(lZ x.name&&(decide ((x.args.length:Int)<=6)&&(gZ f.al x.args&&(aX (cG f.al x.a) 3&&cu f x.to))),{ r with name:=.empty,args:=[],a:=0,to:=0 })
 else if x.kind=8 then(aX (cG f.al x.a) 3&&(eY f.al x.b&&(cu f x.to&&(cu f x.gF&&nG f x))),{ r with a:=0,b:=0,to:=0,gF:=0,aL:=[],cX:= -1 })
 else if x.kind=9 then(f.iter&&(aX (cG f.al x.a) f.result&&cu f x.to),{ r with a:=0,to:=0 })
 else(false,r)
def aU(l:List Int)(n:Int):Bool:=l.any fun c=>n==c
def ld(n:Int):Int:=1200+n
def nF:List Int:=[1,2,3,4,5,6,7,8,9,10,11,13,14,17,19]
def pM:List Int:=[30,31,32,33,34,36,37]
def dL(x:bC):Int:=if aU nF x.op then x.to else if aU pM x.op then x.to else -1
def eT(x:End):Int:=if x.kind=5 then dL x.ins else if aU [6,7] x.kind then x.a else if x.kind=8 then x.b else -1
def pP:List Int:=[2,8,11,13,14,15,16,18,36]
def tt:List Int:=[3,4,5,6,7,12,30,31,32,33,34,35,37]
def cP(x:bC):List Int:=if aU pP x.op then [x.a] else if aU tt x.op then [x.a,x.b] else if x.op=10 then x.args else if x.op=38 then x.a::x.b::x.args else []
def cK(x:End):List Int:=if aU [2,8,9] x.kind then [x.a] else if x.kind=3 then(if x.a≠ -1 then [x.a] else []) else if x.kind=5 then cP x.ins else if aU [6,7] x.kind then x.args else []
def j9(f:aG)(x:End):Bool:=(gK f x).1&&AA (gK f x).2
end Go.Argus
namespace Go.Proofs.Tryz.K
open Go.Abs
def zf(i:Nat):Code->Option (Array Oper)
 | .region j o _=>bif Nat.beq i j then some o else none
 | .seq a b=>match zf i a with
  |some x=>some x
  |none=>zf i b
 | .cond _ a b=>match zf i a with
  |some x=>some x
  |none=>zf i b
 | .block _ b=>zf i b
 | .loop b=>zf i b
 | .scope b=>zf i b
 | .rangeFunc _ _ a b=>match zf i a with
  |some x=>some x
  |none=>zf i b
 |_=>none
def Z(b:Code)(i:Nat):Array Oper:=(zf i b).getD #[]
abbrev G(i:Nat)(o:Array Oper):Code:=.region i o false
abbrev G1(b:Code)(i:Nat):Code:=.region i (Z b i) false
abbrev G2(b:Code)(i:Nat):Code:=.region i (Z b i) true
abbrev S1(a b:Code):Code:=.seq a b
abbrev C1(n:Nat)(a b:Code):Code:=.cond (.tmp n) a b
abbrev B1(n:Nat)(a:Code):Code:=.block n a
abbrev X1(n:Nat):Code:=.exit n
abbrev K1:Code:=.skip
theorem akA:EJ=(S1 (G1 EJ 0) (S1 (G1 EJ 1) .ret)):=kr
theorem agF:D'=(S1 (G1 D' 0) (S1 (G1 D' 1) .ret)):=kr
theorem afV:Ee=(S1 (G1 Ee 0) (S1 (G1 Ee 1) .ret)):=kr
theorem agD:Ei=(S1 (G1 Ei 0) (S1 (G1 Ei 1) .ret)):=kr
theorem afU:tD=(S1 (G1 tD 0) (S1 (S1 (G1 tD 1) (B1 0 (.loop (S1 (G1 tD 2) (S1 (C1 9 K1 (X1 0)) (S1 (B1 1 (S1 (G1 tD 3) (S1 (G1 tD 4) (C1 16 (S1 (G1 tD 5) .ret) K1)))) (G1 tD 6))))))) (S1 (G1 tD 7) .ret))):=kr
theorem agd:uU=(S1 (G1 uU 0) (S1 (G1 uU 1) (S1 (S1 (G1 uU 2) (B1 0 (.rangeFunc (.tmp 8) #[9] (G1 uU 3) (B1 1 (S1 (G1 uU 4) (C1 12 (G1 uU 5) K1)))))) (S1 (G1 uU 6) .ret)))):=kr
theorem af7:sk=(S1 (S1 (G1 sk 0) (C1 19 .ret K1)) (S1 (S1 (G1 sk 1) (C1 34 .ret K1)) (S1 (S1 (G1 sk 2) (B1 0 (.loop (S1 (G1 sk 3) (S1 (C1 39 K1 (X1 0)) (S1 (B1 1 (S1 (G1 sk 4) (S1 (G1 sk 5) (C1 46 .ret K1)))) (G1 sk 6))))))) (S1 (G1 sk 7) (C1 65 (G1 sk 8) K1))))):=kr
theorem af6:D4=(S1 (G1 D4 0) (S1 (G1 D4 1) .ret)):=kr
theorem afW:tA=(S1 (G1 tA 0) (S1 (S1 (G1 tA 1) (B1 0 (.loop (S1 (G1 tA 2) (S1 (C1 9 K1 (X1 0)) (S1 (B1 1 (S1 (G1 tA 3) (S1 (G1 tA 4) (C1 16 (S1 (G1 tA 5) .ret) K1)))) (G1 tA 6))))))) (S1 (G1 tA 7) .ret))):=kr
theorem afX:D8=(S1 (G1 D8 0) (S1 (G1 D8 1) .ret)):=kr
theorem afY:tE=(S1 (G1 tE 0) (S1 (S1 (G1 tE 1) (B1 0 (.loop (S1 (G1 tE 2) (S1 (C1 9 K1 (X1 0)) (S1 (B1 1 (S1 (G1 tE 3) (S1 (G1 tE 4) (C1 16 (S1 (G1 tE 5) .ret) K1)))) (G1 tE 6))))))) (S1 (G1 tE 7) .ret))):=kr
theorem afZ:Eo=(S1 (G1 Eo 0) (S1 (G1 Eo 1) .ret)):=kr
theorem af0:tw=(S1 (G1 tw 0) (S1 (S1 (G1 tw 1) (B1 0 (.loop (S1 (G1 tw 2) (S1 (C1 9 K1 (X1 0)) (S1 (B1 1 (S1 (G1 tw 3) (S1 (G1 tw 4) (C1 16 (S1 (G1 tw 5) .ret) K1)))) (G1 tw 6))))))) (S1 (G1 tw 7) .ret))):=kr
theorem af1:D1=(S1 (G1 D1 0) (S1 (G1 D1 1) .ret)):=kr
theorem agO:tu=(S1 (G1 tu 0) (S1 (S1 (G1 tu 1) (B1 0 (.loop (S1 (G1 tu 2) (S1 (C1 9 K1 (X1 0)) (S1 (B1 1 (S1 (G1 tu 3) (S1 (G1 tu 4) (C1 16 (S1 (G1 tu 5) .ret) K1)))) (G1 tu 6))))))) (S1 (G1 tu 7) .ret))):=kr
theorem akL:EG=(S1 (G1 EG 0) (S1 (G1 EG 1) .ret)):=kr
theorem agC:Eg=(S1 (G1 Eg 0) (S1 (G1 Eg 1) .ret)):=kr
theorem agE:D6=(S1 (G1 D6 0) (S1 (G1 D6 1) .ret)):=kr
theorem agG:D9=(S1 (G1 D9 0) (S1 (G1 D9 1) .ret)):=kr
theorem agH:Eh=(S1 (G1 Eh 0) (S1 (G1 Eh 1) .ret)):=kr
theorem agI:D7=(S1 (G1 D7 0) (S1 (G1 D7 1) .ret)):=kr
theorem ag8:BS=(S1 (G1 BS 0) (S1 (G1 BS 1) (S1 (G1 BS 2) .ret))):=kr
theorem ag7:Ai=(S1 (G1 Ai 0) (S1 (G1 Ai 1) (S1 (G1 Ai 2) (S1 (G1 Ai 3) .ret)))):=kr
theorem agR:Ej=(S1 (G1 Ej 0) (S1 (G1 Ej 1) .ret)):=kr
theorem agS:Al=(S1 (G1 Al 0) (S1 (S1 (G1 Al 1) (C1 12 (S1 (G1 Al 2) .ret) K1)) (S1 (G1 Al 3) .ret))):=kr
theorem agZ:pT=(S1 (G1 pT 0) (S1 (G1 pT 1) (S1 (S1 (G1 pT 2) (C1 20 (G1 pT 3) K1)) (S1 (G1 pT 4) (S1 (S1 (G1 pT 5) (B1 0 (S1 (G1 pT 6) (C1 31 (G1 pT 7) (S1 (G1 pT 8) (C1 43 (G1 pT 9) K1)))))) (S1 (G1 pT 10) .ret)))))):=kr
theorem ag6:tB=(S1 (G1 tB 0) (S1 (S1 (G1 tB 1) (B1 0 (.loop (S1 (G1 tB 2) (S1 (C1 11 K1 (X1 0)) (S1 (B1 1 (S1 (G1 tB 3) (S1 (G1 tB 4) (C1 33 (S1 (G1 tB 5) .ret) K1)))) (G1 tB 6))))))) (S1 (G1 tB 7) .ret))):=kr
theorem agU:Ek=(S1 (G1 Ek 0) (S1 (G1 Ek 1) .ret)):=kr
theorem Qm:drawInfo (Z BT 1)=some [(10,11),(10,12),(10,13),(10,15),(10,16)]:=kr
theorem agV:BT=(S1 (G1 BT 0) (S1 (G2 BT 1) .ret)):=kr
theorem abk:drawInfo (Z BU 1)=some [(2,3)]:=kr
theorem aho:BU=(S1 (G1 BU 0) (S1 (G2 BU 1) .ret)):=kr
theorem agY:oU=(S1 (G1 oU 0) (S1 (G1 oU 1) (S1 (S1 (G1 oU 2) (B1 0 (S1 (G1 oU 3) (C1 14 (S1 (G1 oU 4) .ret) (S1 (G1 oU 5) (C1 18 (S1 (G1 oU 6) .ret) (S1 (G1 oU 7) (C1 22 (S1 (G1 oU 8) .ret) (S1 (G1 oU 9) (C1 26 (S1 (G1 oU 10) .ret) K1)))))))))) (S1 (G1 oU 11) .ret)))):=kr
theorem ag5:Ep=(S1 (G1 Ep 0) (S1 (G1 Ep 1) .ret)):=kr
theorem agT:Er=(S1 (G1 Er 0) (S1 (G1 Er 1) .ret)):=kr
theorem ag4:El=(S1 (G1 El 0) (S1 (G1 El 1) .ret)):=kr
theorem ag3:Es=(S1 (G1 Es 0) (S1 (G1 Es 1) .ret)):=kr
theorem aaf:drawInfo (Z fA 11)=some [(3,4),(3,5),(3,6)]:=kr
theorem aag:drawInfo (Z fA 28)=some [(7,8),(7,9),(7,10)]:=kr
theorem ahW:fA=(S1 (G1 fA 0) (S1 (G1 fA 1) (S1 (G1 fA 2) (S1 (S1 (G1 fA 3) (B1 0 (S1 (G1 fA 4) (C1 13 (G1 fA 5) (S1 (G1 fA 6) (C1 20 (G1 fA 7) (S1 (G1 fA 8) (C1 42 (S1 (G1 fA 9) (S1 (G1 fA 10) (C1 57 (G2 fA 11) K1))) (S1 (G1 fA 12) (C1 66 (G1 fA 13) (S1 (G1 fA 14) (C1 72 (S1 (G1 fA 15) (S1 (G1 fA 16) (G1 fA 17))) (S1 (G1 fA 18) (C1 107 (S1 (G1 fA 19) (G1 fA 20)) (S1 (G1 fA 21) (C1 153 (S1 (G1 fA 22) (G1 fA 23)) (S1 (G1 fA 24) (C1 187 (S1 (G1 fA 25) (G1 fA 26)) (S1 (G1 fA 27) (C1 224 (G2 fA 28) K1)))))))))))))))))))) (S1 (G1 fA 29) .ret))))):=kr
theorem ahp:mQ=(S1 (G1 mQ 0) (S1 (S1 (G1 mQ 1) (B1 0 (S1 (G1 mQ 2) (C1 17 (S1 (G1 mQ 3) .ret) (S1 (G1 mQ 4) (C1 45 (S1 (G1 mQ 5) .ret) (S1 (G1 mQ 6) (C1 69 (S1 (G1 mQ 7) .ret) (S1 (G1 mQ 8) (C1 93 (S1 (G1 mQ 9) (S1 (G1 mQ 10) (S1 (G1 mQ 11) .ret))) K1)))))))))) (S1 (G1 mQ 12) (S1 (G1 mQ 13) .ret)))):=kr
theorem Z5:drawInfo (Z eA 10)=some []:=kr
theorem Z6:drawInfo (Z eA 32)=some []:=kr
theorem agL:eA=(S1 (G1 eA 0) (S1 (G1 eA 1) (S1 (G1 eA 2) (S1 (S1 (G1 eA 3) (C1 71 (S1 (G1 eA 4) .ret) K1)) (S1 (S1 (G1 eA 5) (C1 101 (S1 (G1 eA 6) .ret) K1)) (S1 (S1 (G1 eA 7) (B1 0 (.loop (S1 (S1 (G1 eA 8) (C1 106 K1 (X1 0))) (S1 (B1 1 (S1 (G2 eA 10) (C1 120 (S1 (G1 eA 11) .ret) K1))) (G1 eA 9)))))) (S1 (G1 eA 12) (S1 (S1 (G1 eA 13) (B1 2 (.loop (S1 (G1 eA 14) (S1 (C1 126 K1 (X1 2)) (S1 (B1 3 (S1 (G1 eA 15) (S1 (S1 (G1 eA 16) (C1 139 (S1 (G1 eA 17) .ret) K1)) (S1 (G1 eA 18) (C1 143 (S1 (S1 (G1 eA 19) (C1 148 (S1 (G1 eA 20) .ret) K1)) (G1 eA 21)) K1))))) (G1 eA 22))))))) (S1 (G1 eA 23) (S1 (S1 (G1 eA 24) (B1 4 (.loop (S1 (G1 eA 25) (S1 (C1 160 K1 (X1 4)) (S1 (B1 5 (S1 (G1 eA 26) (S1 (G1 eA 27) (S1 (G1 eA 28) (B1 6 (.loop (S1 (G1 eA 29) (S1 (C1 168 K1 (X1 6)) (S1 (B1 7 (S1 (G1 eA 30) (S1 (G1 eA 31) (S1 (G2 eA 32) (C1 187 (S1 (G1 eA 33) .ret) K1))))) (G1 eA 34)))))))))) (G1 eA 35))))))) (S1 (G1 eA 36) .ret))))))))))):=kr
theorem akz:oX=(S1 (G1 oX 0) (S1 (G1 oX 1) (S1 (S1 (G1 oX 2) (B1 0 (.loop (S1 (G1 oX 3) (S1 (C1 18 K1 (X1 0)) (S1 (B1 1 (S1 (G1 oX 4) (S1 (G1 oX 5) (B1 2 (.loop (S1 (G1 oX 6) (S1 (C1 28 K1 (X1 2)) (S1 (B1 3 (S1 (G1 oX 7) (G1 oX 8))) (G1 oX 9))))))))) (G1 oX 10))))))) (S1 (G1 oX 11) .ret)))):=kr
theorem agq:D3=(S1 (G1 D3 0) (S1 (G1 D3 1) .ret)):=kr
theorem aa3:drawInfo (Z yG 2)=some [(0,2)]:=kr
theorem ags:yG=(S1 (G1 yG 0) (S1 (S1 (G1 yG 1) (C1 9 (S1 (G2 yG 2) .ret) K1)) (S1 (G1 yG 3) .ret))):=kr
theorem JM:drawInfo (Z jA 10)=some [(6,9)]:=kr
theorem agt:jA=(S1 (G1 jA 0) (S1 (G1 jA 1) (S1 (S1 (G1 jA 2) (B1 0 (.loop (S1 (G1 jA 3) (S1 (C1 17 K1 (X1 0)) (S1 (B1 1 (S1 (G1 jA 4) (S1 (S1 (G1 jA 5) (B1 2 (.loop (S1 (G1 jA 6) (S1 (C1 24 K1 (X1 2)) (S1 (B1 3 (S1 (G1 jA 7) (G1 jA 8))) (G1 jA 9))))))) (S1 (G2 jA 10) (G1 jA 11))))) (G1 jA 12))))))) (S1 (S1 (G1 jA 13) (B1 4 (.loop (S1 (G1 jA 14) (S1 (C1 56 K1 (X1 4)) (S1 (B1 5 (S1 (G1 jA 15) (G1 jA 16))) (G1 jA 17))))))) (S1 (G1 jA 18) .ret))))):=kr
theorem aaH:drawInfo (Z wF 2)=some [(0,3)]:=kr
theorem aaG:drawInfo (Z wF 3)=some [(0,2)]:=kr
theorem af5:wF=(S1 (G1 wF 0) (S1 (S1 (G1 wF 1) (C1 7 (S1 (G2 wF 2) .ret) K1)) (S1 (G2 wF 3) .ret))):=kr
theorem aaE:drawInfo (Z yH 2)=some []:=kr
theorem af3:yH=(S1 (G1 yH 0) (S1 (S1 (G1 yH 1) (C1 6 (G2 yH 2) K1)) (S1 (G1 yH 3) .ret))):=kr
theorem aaF:drawInfo (Z tC 4)=some []:=kr
theorem af4:tC=(S1 (G1 tC 0) (S1 (S1 (G1 tC 1) (B1 0 (.loop (S1 (G1 tC 2) (S1 (C1 7 K1 (X1 0)) (S1 (B1 1 (S1 (G1 tC 3) (G2 tC 4))) (G1 tC 5))))))) (S1 (G1 tC 6) .ret))):=kr
theorem af2:Ea=(S1 (G1 Ea 0) (S1 (G1 Ea 1) .ret)):=kr
theorem ah8:Em=(S1 (G1 Em 0) (S1 (G1 Em 1) .ret)):=kr
theorem aa5:drawInfo (Z fj 1)=some [(4,5),(4,6),(4,7),(4,8)]:=kr
theorem ZY:drawInfo (Z fj 20)=some []:=kr
theorem ZZ:drawInfo (Z fj 24)=some [(2,8),(3,8)]:=kr
theorem Z0:drawInfo (Z fj 25)=some []:=kr
theorem agA:fj=(S1 (G1 fj 0) (S1 (G2 fj 1) (S1 (S1 (G1 fj 2) (B1 0 (.loop (S1 (G1 fj 3) (S1 (C1 29 K1 (X1 0)) (S1 (B1 1 (S1 (G1 fj 4) (G1 fj 5))) (G1 fj 6))))))) (S1 (G1 fj 7) (S1 (S1 (G1 fj 8) (B1 2 (.loop (S1 (G1 fj 9) (S1 (C1 45 K1 (X1 2)) (S1 (B1 3 (S1 (G1 fj 10) (G1 fj 11))) (G1 fj 12))))))) (S1 (S1 (G1 fj 13) (B1 4 (.loop (S1 (S1 (G1 fj 14) (C1 55 K1 (X1 4))) (B1 5 (S1 (G1 fj 15) (S1 (G1 fj 16) (B1 6 (.loop (S1 (G1 fj 17) (S1 (C1 61 K1 (X1 6)) (S1 (B1 7 (S1 (G1 fj 18) (S1 (S1 (G1 fj 19) (C1 69 (X1 7) K1)) (S1 (G2 fj 20) (S1 (G1 fj 21) (B1 8 (.loop (S1 (G1 fj 22) (S1 (C1 85 K1 (X1 8)) (S1 (B1 9 (S1 (G1 fj 23) (S1 (G2 fj 24) (S1 (G2 fj 25) (C1 110 (G1 fj 26) K1))))) (G1 fj 27))))))))))) (G1 fj 28))))))))))))) (S1 (G1 fj 29) .ret))))))):=kr
theorem aa7:drawInfo (Z gI 7)=some []:=kr
theorem Z3:drawInfo (Z gI 17)=some []:=kr
theorem Z4:drawInfo (Z gI 18)=some [(14,15),(14,16),(14,18),(14,19)]:=kr
theorem agJ:gI=(S1 (G1 gI 0) (.scope (S1 (G1 gI 1) (S1 (G1 gI 2) (S1 (.label 0) (S1 (S1 (G1 gI 3) (B1 0 (.loop (S1 (G1 gI 4) (S1 (C1 28 K1 (X1 0)) (S1 (B1 1 (S1 (G1 gI 5) (S1 (S1 (G1 gI 6) (C1 36 (X1 1) K1)) (S1 (S1 (G2 gI 7) (S1 (G1 gI 8) (C1 47 (S1 (G1 gI 9) .ret) K1))) (S1 (G1 gI 10) (B1 2 (.loop (S1 (G1 gI 11) (S1 (C1 52 K1 (X1 2)) (S1 (B1 3 (S1 (G1 gI 12) (S1 (S1 (G1 gI 13) (C1 57 (X1 1) K1)) (S1 (G1 gI 14) (B1 4 (.loop (S1 (G1 gI 15) (S1 (C1 64 K1 (X1 4)) (S1 (B1 5 (S1 (G1 gI 16) (S1 (G2 gI 17) (S1 (G2 gI 18) (C1 104 (S1 (G1 gI 19) .ret) K1))))) (G1 gI 20)))))))))) (G1 gI 21))))))))))) (G1 gI 22))))))) (S1 (G1 gI 23) .ret))))))):=kr
theorem akI:wM=(S1 (G1 wM 0) (S1 (B1 0 (S1 (G1 wM 1) (C1 3 (S1 (G1 wM 2) .ret) (S1 (G1 wM 3) (C1 7 (S1 (G1 wM 4) .ret) K1))))) (S1 (G1 wM 5) .ret))):=kr
theorem ah9:gH=(S1 (G1 gH 0) (S1 (S1 (G1 gH 1) (B1 0 (S1 (S1 (G1 gH 2) (C1 5 K1 (S1 (G1 gH 3) (C1 5 K1 (S1 (G1 gH 4) (C1 5 K1 (S1 (G1 gH 5) (C1 5 K1 (S1 (G1 gH 6) (C1 5 K1 (S1 (G1 gH 7) (C1 5 K1 (S1 (G1 gH 8) (C1 5 K1 (S1 (G1 gH 9) (C1 5 K1 (S1 (G1 gH 10) (C1 5 K1 (S1 (G1 gH 11) (C1 5 K1 (S1 (G1 gH 12) (C1 5 K1 (S1 (G1 gH 13) (C1 5 K1 (S1 (G1 gH 14) (C1 5 K1 (S1 (G1 gH 15) (C1 5 K1 (G1 gH 16))))))))))))))))))))))))))))) (C1 5 (S1 (G1 gH 17) .ret) (S1 (S1 (G1 gH 18) (C1 23 K1 (S1 (G1 gH 19) (C1 23 K1 (S1 (G1 gH 20) (C1 23 K1 (S1 (G1 gH 21) (C1 23 K1 (S1 (G1 gH 22) (C1 23 K1 (S1 (G1 gH 23) (C1 23 K1 (G1 gH 24))))))))))))) (C1 23 (S1 (G1 gH 25) .ret) K1)))))) (S1 (G1 gH 26) .ret))):=kr
theorem aib:fK=(S1 (G1 fK 0) (S1 (S1 (G1 fK 1) (B1 0 (S1 (S1 (G1 fK 2) (C1 5 K1 (S1 (G1 fK 3) (C1 5 K1 (S1 (G1 fK 4) (C1 5 K1 (S1 (G1 fK 5) (C1 5 K1 (S1 (G1 fK 6) (C1 5 K1 (S1 (G1 fK 7) (C1 5 K1 (S1 (G1 fK 8) (C1 5 K1 (S1 (G1 fK 9) (C1 5 K1 (G1 fK 10))))))))))))))))) (C1 5 (S1 (G1 fK 11) .ret) (S1 (S1 (G1 fK 12) (C1 18 K1 (S1 (G1 fK 13) (C1 18 K1 (S1 (G1 fK 14) (C1 18 K1 (S1 (G1 fK 15) (C1 18 K1 (S1 (G1 fK 16) (C1 18 K1 (S1 (G1 fK 17) (C1 18 K1 (S1 (G1 fK 18) (C1 18 K1 (S1 (G1 fK 19) (C1 18 K1 (S1 (G1 fK 20) (C1 18 K1 (S1 (G1 fK 21) (C1 18 K1 (S1 (G1 fK 22) (C1 18 K1 (S1 (G1 fK 23) (C1 18 K1 (G1 fK 24))))))))))))))))))))))))) (C1 18 (S1 (G1 fK 25) .ret) (S1 (G1 fK 26) (C1 37 (S1 (G1 fK 27) .ret) (S1 (G1 fK 28) (C1 42 (S1 (G1 fK 29) .ret) K1)))))))))) (S1 (G1 fK 30) .ret))):=kr
theorem aic:lW=(S1 (G1 lW 0) (S1 (S1 (G1 lW 1) (B1 0 (S1 (S1 (G1 lW 2) (C1 5 K1 (S1 (G1 lW 3) (C1 5 K1 (G1 lW 4))))) (C1 5 (S1 (G1 lW 5) .ret) (S1 (G1 lW 6) (C1 12 (S1 (G1 lW 7) (C1 16 (S1 (G1 lW 8) .ret) K1)) (S1 (G1 lW 9) (C1 20 (S1 (G1 lW 10) .ret) (S1 (S1 (G1 lW 11) (C1 25 K1 (G1 lW 12))) (C1 25 (S1 (G1 lW 13) .ret) K1)))))))))) (S1 (G1 lW 14) .ret))):=kr
theorem ah':qO=(S1 (G1 qO 0) (S1 (S1 (G1 qO 1) (B1 0 (S1 (G1 qO 2) (C1 5 (S1 (G1 qO 3) .ret) (S1 (S1 (G1 qO 4) (C1 10 K1 (G1 qO 5))) (C1 10 (S1 (G1 qO 6) .ret) (S1 (G1 qO 7) (C1 15 (S1 (G1 qO 8) .ret) K1)))))))) (S1 (G1 qO 9) .ret))):=kr
theorem aia:yE=(S1 (G1 yE 0) (S1 (S1 (G1 yE 1) (C1 4 (S1 (G1 yE 2) .ret) K1)) (S1 (G1 yE 3) .ret))):=kr
theorem aku:EI=(S1 (G1 EI 0) (G1 EI 1)):=kr
theorem ago:fL=(S1 (G1 fL 0) (S1 (G1 fL 1) (B1 0 (.loop (B1 1 (S1 (G1 fL 2) (S1 (S1 (G1 fL 3) (C1 23 (S1 (G1 fL 4) .ret) K1)) (S1 (S1 (G1 fL 5) (C1 29 (S1 (G1 fL 6) .ret) K1)) (S1 (S1 (G1 fL 7) (C1 35 (S1 (G1 fL 8) (G1 fL 9)) K1)) (S1 (G1 fL 10) (S1 (S1 (G1 fL 11) (C1 50 (S1 (G1 fL 12) (S1 (G1 fL 13) (G1 fL 14))) K1)) (S1 (S1 (G1 fL 15) (C1 68 (S1 (G1 fL 16) (C1 72 .ret K1)) K1)) (S1 (S1 (G2 fL 17) (C1 87 (S1 (G1 fL 18) (S1 (G1 fL 19) (X1 1))) K1)) (S1 (G1 fL 20) (S1 (G1 fL 21) (S1 (G1 fL 22) (S1 (G1 fL 23) (S1 (G1 fL 24) (C1 113 (S1 (G1 fL 25) (S1 (G1 fL 26) (G1 fL 27))) (S1 (G1 fL 28) (S1 (G1 fL 29) (G1 fL 30)))))))))))))))))))))):=kr
theorem aaZ:drawInfo (Z sj 4)=some []:=kr
theorem aa0:drawInfo (Z sj 6)=some []:=kr
theorem agn:sj=(S1 (G1 sj 0) (B1 0 (.loop (S1 (S1 (G1 sj 1) (C1 12 K1 (X1 0))) (S1 (B1 1 (S1 (G1 sj 3) (B1 2 (.loop (S1 (S1 (G2 sj 4) (C1 30 K1 (X1 2))) (S1 (B1 3 (G2 sj 6)) (G1 sj 5))))))) (G1 sj 2)))))):=kr
theorem agm:D5=(S1 (G1 D5 0) (S1 (G1 D5 1) .ret)):=kr
theorem agl:Ed=(S1 (G1 Ed 0) (S1 (G1 Ed 1) .ret)):=kr
theorem acs:drawInfo (Z jR 6)=some []:=kr
theorem aa2:drawInfo (Z jR 11)=some []:=kr
theorem akv:jR=(S1 (G1 jR 0) (S1 (S1 (G1 jR 1) (C1 8 (S1 (G1 jR 2) .ret) K1)) (S1 (S1 (G1 jR 3) (B1 0 (.loop (S1 (S1 (G1 jR 4) (C1 13 K1 (X1 0))) (S1 (B1 1 (S1 (G2 jR 6) (C1 25 (S1 (G1 jR 7) (S1 (S1 (G1 jR 8) (B1 2 (.loop (S1 (S1 (G1 jR 9) (C1 32 K1 (X1 2))) (S1 (B1 3 (S1 (G2 jR 11) (C1 44 (S1 (G1 jR 12) (G1 jR 13)) K1))) (G1 jR 10)))))) (S1 (G1 jR 14) (S1 (G1 jR 15) .ret)))) K1))) (G1 jR 5)))))) (S1 (G1 jR 16) .ret)))):=kr
theorem agp:Ak=(S1 (G1 Ak 0) (S1 (G1 Ak 1) (S1 (G1 Ak 2) (S1 (G1 Ak 3) .ret)))):=kr
theorem agf:En=(S1 (G1 En 0) (S1 (G1 En 1) .ret)):=kr
theorem age:yI=(S1 (G1 yI 0) (S1 (S1 (G1 yI 1) (B1 0 (.rangeFunc (.tmp 6) #[7] (G1 yI 2) (B1 1 (G1 yI 3))))) (S1 (G1 yI 4) .ret))):=kr
theorem agN:mP=(S1 (G1 mP 0) (S1 (G1 mP 1) (S1 (S1 (G1 mP 2) (C1 13 (G1 mP 3) K1)) (S1 (S1 (G1 mP 4) (C1 26 (G1 mP 5) K1)) (S1 (S1 (G1 mP 6) (B1 0 (.loop (S1 (G1 mP 7) (S1 (C1 36 K1 (X1 0)) (S1 (B1 1 (S1 (G1 mP 8) (G1 mP 9))) (G1 mP 10))))))) (S1 (S1 (G1 mP 11) (C1 47 (G1 mP 12) K1)) (S1 (G1 mP 13) .ret))))))):=kr
theorem agW:tv=(S1 (G1 tv 0) (S1 (G1 tv 1) (S1 (S1 (G1 tv 2) (C1 15 (S1 (G1 tv 3) .ret) K1)) (S1 (G1 tv 4) (S1 (G1 tv 5) (S1 (G1 tv 6) (S1 (G1 tv 7) .ret))))))):=kr
theorem agQ:uT=(S1 (G1 uT 0) (S1 (G1 uT 1) (B1 0 (.loop (S1 (G1 uT 2) (S1 (C1 20 K1 (X1 0)) (S1 (B1 1 (S1 (G1 uT 3) (S1 (G1 uT 4) (C1 32 (G1 uT 5) K1)))) (G1 uT 6)))))))):=kr
theorem acG:drawInfo (Z iI 5)=some []:=kr
theorem aba:drawInfo (Z iI 11)=some [(1,6),(2,6),(3,6)]:=kr
theorem abb:drawInfo (Z iI 15)=some [(1,14),(2,14),(3,14)]:=kr
theorem Xb:iI=(S1 (G1 iI 0) (S1 (S1 (G1 iI 1) (S1 (G1 iI 2) (C1 15 (S1 (G1 iI 3) .ret) K1))) (S1 (G1 iI 4) (S1 (G2 iI 5) (S1 (S1 (G1 iI 6) (B1 0 (.loop (S1 (G1 iI 7) (S1 (C1 31 K1 (X1 0)) (S1 (B1 1 (S1 (G1 iI 8) (S1 (G1 iI 9) (S1 (G1 iI 10) (S1 (G2 iI 11) (S1 (G1 iI 12) (B1 2 (.loop (S1 (G1 iI 13) (S1 (C1 57 K1 (X1 2)) (S1 (B1 3 (S1 (G1 iI 14) (G2 iI 15))) (G1 iI 16)))))))))))) (G1 iI 17))))))) (S1 (G1 iI 18) (S1 (G1 iI 19) .ret))))))):=kr
theorem agX:tx=(S1 (G1 tx 0) (S1 (S1 (G1 tx 1) (B1 0 (.loop (S1 (G1 tx 2) (S1 (C1 20 K1 (X1 0)) (S1 (B1 1 (S1 (G1 tx 3) (S1 (G1 tx 4) (C1 27 (G1 tx 5) K1)))) (G1 tx 6))))))) (G1 tx 7))):=kr
theorem akR:tK=(S1 (G1 tK 0) (S1 (G1 tK 1) (S1 (G1 tK 2) (S1 (G1 tK 3) (S1 (G1 tK 4) (S1 (G1 tK 5) (S1 (G1 tK 6) (S1 (G1 tK 7) .ret)))))))):=kr
theorem acE:drawInfo (Z yR 3)=some []:=kr
theorem akQ:yR=(S1 (G1 yR 0) (B1 0 (.loop (S1 (S1 (G1 yR 1) (C1 9 K1 (X1 0))) (S1 (B1 1 (G2 yR 3)) (G1 yR 2)))))):=kr
theorem agP:Aj=(S1 (G1 Aj 0) (B1 0 (.loop (S1 (S1 (G1 Aj 1) (C1 8 K1 (X1 0))) (S1 (B1 1 (S1 (G1 Aj 3) (C1 18 .ret K1))) (G1 Aj 2)))))):=kr
theorem akM:EH=(S1 (G1 EH 0) (S1 (G1 EH 1) .ret)):=kr
theorem akX:jP=(S1 (G1 jP 0) (S1 (S1 (G1 jP 1) (C1 58 (S1 (G1 jP 2) .ret) K1)) (S1 (S1 (G1 jP 3) (B1 0 (.loop (S1 (S1 (G1 jP 4) (C1 63 K1 (X1 0))) (S1 (B1 1 (S1 (G1 jP 6) (C1 72 (S1 (G1 jP 7) .ret) K1))) (G1 jP 5)))))) (S1 (S1 (G1 jP 8) (B1 2 (.loop (S1 (S1 (G1 jP 9) (C1 77 K1 (X1 2))) (S1 (B1 3 (S1 (G1 jP 11) (S1 (S1 (G1 jP 12) (C1 117 (S1 (G1 jP 13) .ret) K1)) (S1 (G1 jP 14) (B1 4 (.loop (S1 (S1 (G1 jP 15) (C1 122 K1 (X1 4))) (S1 (B1 5 (S1 (G1 jP 17) (C1 132 (S1 (G1 jP 18) .ret) K1))) (G1 jP 16))))))))) (G1 jP 10)))))) (S1 (G1 jP 19) .ret))))):=kr
theorem af9:D0=(S1 (G1 D0 0) (S1 (G1 D0 1) .ret)):=kr
theorem af8:qM=(S1 (G1 qM 0) (S1 (S1 (G1 qM 1) (B1 0 (.loop (S1 (G1 qM 2) (S1 (C1 10 K1 (X1 0)) (S1 (B1 1 (S1 (S1 (G1 qM 3) (C1 13 (S1 (G1 qM 4) .ret) K1)) (S1 (S1 (G1 qM 5) (C1 31 (S1 (G1 qM 6) .ret) K1)) (G1 qM 7)))) (G1 qM 8))))))) (S1 (G1 qM 9) .ret))):=kr
theorem ak1:tL=(S1 (G1 tL 0) (S1 (G1 tL 1) (S1 (S1 (G1 tL 2) (B1 0 (.loop (S1 (G1 tL 3) (S1 (C1 12 K1 (X1 0)) (S1 (B1 1 (S1 (G1 tL 4) (G1 tL 5))) (G1 tL 6))))))) (S1 (G1 tL 7) .ret)))):=kr
theorem abg:drawInfo (Z fm 24)=some []:=kr
theorem ak2:fm=(S1 (G1 fm 0) (S1 (G1 fm 1) (S1 (G1 fm 2) (S1 (S1 (G1 fm 3) (B1 0 (.loop (S1 (G1 fm 4) (S1 (C1 26 K1 (X1 0)) (S1 (B1 1 (S1 (G1 fm 5) (G1 fm 6))) (G1 fm 7))))))) (S1 (G1 fm 8) (S1 (G1 fm 9) (S1 (S1 (G1 fm 10) (B1 2 (.loop (S1 (S1 (G1 fm 11) (C1 44 K1 (X1 2))) (B1 3 (S1 (G1 fm 12) (S1 (G1 fm 13) (B1 4 (.loop (S1 (G1 fm 14) (S1 (C1 49 K1 (X1 4)) (S1 (B1 5 (S1 (G1 fm 15) (S1 (G1 fm 16) (S1 (S1 (G1 fm 17) (B1 6 (.loop (S1 (G1 fm 18) (S1 (C1 61 K1 (X1 6)) (S1 (B1 7 (S1 (G1 fm 19) (S1 (S1 (G1 fm 20) (C1 68 (X1 7) K1)) (S1 (S1 (G1 fm 21) (C1 70 (S1 (G1 fm 22) (X1 7)) K1)) (B1 8 (.loop (S1 (S1 (G1 fm 23) (C1 74 K1 (X1 8))) (B1 9 (S1 (G2 fm 24) (C1 83 (G1 fm 25) (G1 fm 26))))))))))) (G1 fm 27))))))) (S1 (G1 fm 28) (C1 98 (G1 fm 29) K1)))))) (G1 fm 30))))))))))))) (S1 (G1 fm 31) (S1 (G1 fm 32) .ret))))))))):=kr
theorem akY:yQ=(S1 (G1 yQ 0) (B1 0 (.loop (S1 (G1 yQ 1) (S1 (C1 12 K1 (X1 0)) (S1 (B1 1 (S1 (G1 yQ 2) (S1 (G1 yQ 3) (C1 22 .ret K1)))) (G1 yQ 4))))))):=kr
theorem DG:drawInfo (Z dQ 20)=some [(0,6)]:=kr
theorem Xf:dQ=(S1 (G1 dQ 0) (S1 (G1 dQ 1) (S1 (S1 (G1 dQ 2) (C1 19 (S1 (G1 dQ 3) .ret) K1)) (S1 (G1 dQ 4) (S1 (G1 dQ 5) (S1 (S1 (G1 dQ 6) (B1 0 (.rangeFunc (.tmp 31) #[32] (G1 dQ 7) (B1 1 (S1 (G1 dQ 8) (B1 2 (.loop (S1 (G1 dQ 9) (S1 (C1 42 K1 (X1 2)) (S1 (B1 3 (S1 (G1 dQ 10) (S1 (G1 dQ 11) (B1 4 (.loop (S1 (S1 (G1 dQ 12) (C1 64 K1 (X1 4))) (S1 (B1 5 (G2 dQ 14)) (G1 dQ 13)))))))) (G1 dQ 15))))))))))) (S1 (S1 (G1 dQ 16) (B1 6 (.loop (S1 (G1 dQ 17) (S1 (C1 83 K1 (X1 6)) (S1 (B1 7 (S1 (G1 dQ 18) (S1 (G1 dQ 19) (G2 dQ 20)))) (G1 dQ 21))))))) (S1 (G1 dQ 22) .ret)))))))):=kr
noncomputable def E3:T (Func×Code):=
 (.node none (.node none (.node none (.node none (.node none (.node none (.node none (.node none (.node (some (Tryz.f255,Ep)) .leaf .leaf) .leaf) (.node (some (Tryz.f191,D7)) .leaf .leaf)) (.node (some (Tryz.f95,wM)) .leaf (.node (some (Tryz.f223,SF)) .leaf .leaf))) (.node none (.node none (.node (some (Tryz.f143,So)) .leaf .leaf) .leaf) (.node none (.node (some (Tryz.f175,qO)) .leaf .leaf) (.node (some (Tryz.f239,BT)) .leaf .leaf)))) (.node (some (Tryz.f23,TN)) (.node (some (Tryz.f39,dQ)) (.node (some (Tryz.f71,TY)) (.node (some (Tryz.f135,Si)) .leaf .leaf) (.node (some (Tryz.f199,yG)) .leaf .leaf)) (.node none .leaf (.node (some (Tryz.f231,tA)) .leaf .leaf))) (.node none (.node (some (Tryz.f87,T3)) (.node (some (Tryz.f151,fL)) .leaf .leaf) .leaf) (.node (some (Tryz.f119,D1)) (.node (some (Tryz.f183,Sz)) .leaf .leaf) (.node (some (Tryz.f247,En)) .leaf .leaf))))) (.node none (.node none (.node none (.node none (.node (some (Tryz.f131,D2)) .leaf .leaf) (.node (some (Tryz.f195,fA)) .leaf .leaf)) (.node none .leaf (.node (some (Tryz.f227,Ed)) .leaf .leaf))) (.node (some (Tryz.f51,iI)) (.node (some (Tryz.f83,T2)) .leaf .leaf) (.node (some (Tryz.f115,mP)) (.node (some (Tryz.f179,Sv)) .leaf .leaf) (.node (some (Tryz.f243,tC)) .leaf .leaf)))) (.node none (.node none (.node none (.node (some (Tryz.f139,gH)) .leaf .leaf) .leaf) (.node none .leaf (.node (some (Tryz.f235,pT)) .leaf .leaf))) (.node none (.node none (.node (some (Tryz.f155,D3)) .leaf .leaf) .leaf) (.node none (.node (some (Tryz.f187,SC)) .leaf .leaf) (.node (some (Tryz.f251,SL)) .leaf .leaf)))))) (.node none (.node none (.node (some (Tryz.f17,TM)) (.node (some (Tryz.f33,TQ)) (.node (some (Tryz.f65,TV)) (.node (some (Tryz.f129,yF)) (.node (some (Tryz.f257,Es)) .leaf .leaf) .leaf) (.node (some (Tryz.f193,D9)) .leaf .leaf)) (.node (some (Tryz.f97,oX)) .leaf (.node (some (Tryz.f225,SH)) .leaf .leaf))) (.node none .leaf (.node none (.node (some (Tryz.f177,Su)) .leaf .leaf) (.node (some (Tryz.f241,SK)) .leaf .leaf)))) (.node none (.node (some (Tryz.f41,TT)) (.node (some (Tryz.f73,T0)) (.node (some (Tryz.f137,lW)) .leaf .leaf) (.node (some (Tryz.f201,Ak)) .leaf .leaf)) (.node (some (Tryz.f105,yE)) .leaf (.node (some (Tryz.f233,Ej)) .leaf .leaf))) (.node none (.node (some (Tryz.f89,EI)) (.node (some (Tryz.f153,eA)) .leaf .leaf) .leaf) (.node none (.node (some (Tryz.f185,SA)) .leaf .leaf) .leaf)))) (.node none (.node none (.node none (.node (some (Tryz.f69,EH)) (.node (some (Tryz.f133,Sf)) .leaf .leaf) (.node (some (Tryz.f197,fj)) .leaf .leaf)) (.node none .leaf (.node (some (Tryz.f229,Eg)) .leaf .leaf))) (.node (some (Tryz.f53,pX)) (.node (some (Tryz.f85,tK)) (.node (some (Tryz.f149,tx)) .leaf .leaf) .leaf) (.node (some (Tryz.f117,D0)) (.node (some (Tryz.f181,Sx)) .leaf .leaf) (.node (some (Tryz.f245,wF)) .leaf .leaf)))) (.node none (.node none (.node none (.node (some (Tryz.f141,Sl)) .leaf .leaf) .leaf) (.node none .leaf (.node (some (Tryz.f237,Ek)) .leaf .leaf))) (.node (some (Tryz.f61,yQ)) (.node (some (Tryz.f93,T4)) .leaf .leaf) (.node none (.node (some (Tryz.f189,BS)) .leaf .leaf) (.node (some (Tryz.f253,oU)) .leaf .leaf))))))) (.node none (.node none (.node none (.node none (.node none (.node (some (Tryz.f64,qU)) (.node none (.node (some (Tryz.f256,Er)) .leaf .leaf) .leaf) (.node (some (Tryz.f192,D8)) .leaf .leaf)) (.node (some (Tryz.f96,EJ)) .leaf (.node (some (Tryz.f224,SG)) .leaf .leaf))) (.node none (.node none (.node (some (Tryz.f144,Sp)) .leaf .leaf) .leaf) (.node none (.node (some (Tryz.f176,Aj)) .leaf .leaf) (.node (some (Tryz.f240,BU)) .leaf .leaf)))) (.node none (.node none (.node (some (Tryz.f72,TZ)) (.node (some (Tryz.f136,Sj)) .leaf .leaf) (.node (some (Tryz.f200,Ea)) .leaf .leaf)) (.node none (.node (some (Tryz.f168,uT)) .leaf .leaf) (.node (some (Tryz.f232,Ei)) .leaf .leaf))) (.node none (.node none (.node (some (Tryz.f152,Sq)) .leaf .leaf) .leaf) (.node none (.node (some (Tryz.f184,D5)) .leaf .leaf) .leaf)))) (.node none (.node (some (Tryz.f20,nP)) (.node (some (Tryz.f36,TS)) (.node none (.node (some (Tryz.f132,Se)) (.node (some (Tryz.f260,tE)) .leaf .leaf) .leaf) (.node (some (Tryz.f196,mQ)) .leaf .leaf)) (.node (some (Tryz.f100,Sd)) .leaf (.node (some (Tryz.f228,Ee)) .leaf .leaf))) (.node (some (Tryz.f52,iz)) (.node (some (Tryz.f84,yR)) .leaf .leaf) (.node (some (Tryz.f116,tv)) (.node (some (Tryz.f180,Sw)) .leaf .leaf) (.node (some (Tryz.f244,Em)) .leaf .leaf)))) (.node (some (Tryz.f28,TP)) (.node none (.node none (.node (some (Tryz.f140,fK)) .leaf .leaf) .leaf) (.node none .leaf (.node (some (Tryz.f236,tB)) .leaf .leaf))) (.node (some (Tryz.f60,fm)) (.node none (.node (some (Tryz.f156,D4)) .leaf .leaf) .leaf) (.node none (.node (some (Tryz.f188,SD)) .leaf .leaf) (.node (some (Tryz.f252,tD)) .leaf .leaf)))))) (.node none (.node none (.node (some (Tryz.f18,iy)) (.node none (.node (some (Tryz.f66,TW)) (.node (some (Tryz.f130,tw)) (.node (some (Tryz.f258,yI)) .leaf .leaf) .leaf) (.node (some (Tryz.f194,D')) .leaf .leaf)) (.node none .leaf (.node (some (Tryz.f226,SJ)) .leaf .leaf))) (.node (some (Tryz.f50,TU)) (.node (some (Tryz.f82,T1)) .leaf .leaf) (.node none (.node (some (Tryz.f178,sj)) .leaf .leaf) (.node (some (Tryz.f242,yH)) .leaf .leaf)))) (.node (some (Tryz.f26,TO)) (.node none (.node none (.node (some (Tryz.f138,Sk)) .leaf .leaf) (.node (some (Tryz.f202,sk)) .leaf .leaf)) (.node none .leaf (.node (some (Tryz.f234,Al)) .leaf .leaf))) (.node none (.node (some (Tryz.f90,jR)) (.node (some (Tryz.f154,gI)) .leaf .leaf) .leaf) (.node none (.node (some (Tryz.f186,SB)) .leaf .leaf) .leaf)))) (.node none (.node (some (Tryz.f22,EF)) (.node none (.node (some (Tryz.f70,TX)) (.node (some (Tryz.f134,Sg)) .leaf .leaf) (.node (some (Tryz.f198,jA)) .leaf .leaf)) (.node none (.node (some (Tryz.f166,Ai)) .leaf .leaf) (.node (some (Tryz.f230,Eh)) .leaf .leaf))) (.node (some (Tryz.f54,EG)) .leaf (.node (some (Tryz.f118,qM)) (.node (some (Tryz.f182,Sy)) .leaf .leaf) (.node (some (Tryz.f246,uU)) .leaf .leaf)))) (.node none (.node none (.node none (.node (some (Tryz.f142,Sm)) .leaf .leaf) .leaf) (.node (some (Tryz.f110,tu)) (.node (some (Tryz.f174,Ss)) .leaf .leaf) (.node (some (Tryz.f238,El)) .leaf .leaf))) (.node (some (Tryz.f62,bJ)) (.node (some (Tryz.f94,tL)) (.node (some (Tryz.f158,Sr)) .leaf .leaf) (.node (some (Tryz.f222,SE)) .leaf .leaf)) (.node none (.node (some (Tryz.f190,D6)) .leaf .leaf) (.node (some (Tryz.f254,Eo)) .leaf .leaf))))))))
def IE(p:Nat->Func×Code->Prop):(Nat->Nat)->T (Func×Code)->Prop
 |_,.leaf=>True
 |g,.node v l r=>(∀ a,v=some a->p (g 0) a)/\IE p (fun i=>g (2*i+1)) l/\IE p (fun i=>g (2*i+2)) r
theorem KI{p:Nat->Func×Code->Prop}:∀ {t:T (Func×Code)} {g:Nat->Nat},IE p g t->∀ i a,t.get i=some a->p (g i) a
 | .leaf,_,_,i,a,h=>by cases h
 | .node v l r,g,⟨h1,h2,h3⟩,i,a,h=>by
  rw[T.wo] at h;by_cases h0:i=0
  .subst h0;exact h1 a (by simpa using h)
  .rw[if_neg h0] at h;by_cases C:i % 2=1
   .rw[if_pos C] at h;have:=KI h2 _ a h;have e:2*(i / 2)+1=i:=by omega
    simpa only[e] using this
   .rw[if_neg C] at h;have:=KI h3 _ a h;have e:2*(i / 2 - 1)+2=i:=by omega
    simpa only[e] using this
theorem e0{p:Func×Code->Prop}:∀ a,(none:Option (Func×Code))=some a->p a:=fun _ h=>by cases h
theorem e1{i:Nat}{fn:Func}{c:Code}(h:na prog i fn c):∀ a,some (fn,c)=some a->na prog i a.1 a.2:=fun _ e=>by cases e;exact h
theorem aex:IE (fun i a=>na prog i a.1 a.2) (fun i=>i) E3:=
 ⟨e0,⟨e0,⟨e0,⟨e0,⟨e0,⟨e0,⟨e0,⟨e0,⟨e1 Vs,trivial,trivial⟩,trivial⟩,⟨e1 U9,trivial,trivial⟩⟩,⟨e1 W4,trivial,⟨e1 aiE,trivial,trivial⟩⟩⟩,⟨e0,⟨e0,⟨e1 aio,trivial,trivial⟩,trivial⟩,⟨e0,⟨e1 VL,trivial,trivial⟩,⟨e1 Ml,trivial,trivial⟩⟩⟩⟩,⟨e1 alA,⟨e1 Xi,⟨e1 alK,⟨e1 aij,trivial,trivial⟩,⟨e1 UZ,trivial,trivial⟩⟩,⟨e0,trivial,⟨e1 L3,trivial,trivial⟩⟩⟩,⟨e0,⟨e1 alP,⟨e1 UW,trivial,trivial⟩,trivial⟩,⟨e1 Uy,⟨e1 aiy,trivial,trivial⟩,⟨e1 UO,trivial,trivial⟩⟩⟩⟩⟩,⟨e0,⟨e0,⟨e0,⟨e0,⟨e1 UQ,trivial,trivial⟩,⟨e1 VH,trivial,trivial⟩⟩,⟨e0,trivial,⟨e1 US,trivial,trivial⟩⟩⟩,⟨e1 M9,⟨e1 alO,trivial,trivial⟩,⟨e1 Vd,⟨e1 aiu,trivial,trivial⟩,⟨e1 UD,trivial,trivial⟩⟩⟩⟩,⟨e0,⟨e0,⟨e0,⟨e1 VK,trivial,trivial⟩,trivial⟩,⟨e0,trivial,⟨e1 Vl,trivial,trivial⟩⟩⟩,⟨e0,⟨e0,⟨e1 UY,trivial,trivial⟩,trivial⟩,⟨e0,⟨e1 aiB,trivial,trivial⟩,⟨e1 aiJ,trivial,trivial⟩⟩⟩⟩⟩⟩,⟨e0,⟨e0,⟨e1 alz,⟨e1 alD,⟨e1 alH,⟨e1 UL,⟨e1 Vq,trivial,trivial⟩,trivial⟩,⟨e1 U6,trivial,trivial⟩⟩,⟨e1 WU,trivial,⟨e1 aiG,trivial,trivial⟩⟩⟩,⟨e0,trivial,⟨e0,⟨e1 ait,trivial,trivial⟩,⟨e1 aiI,trivial,trivial⟩⟩⟩⟩,⟨e0,⟨e1 alF,⟨e1 alM,⟨e1 VO,trivial,trivial⟩,⟨e1 UX,trivial,trivial⟩⟩,⟨e1 VM,trivial,⟨e1 Mj,trivial,trivial⟩⟩⟩,⟨e0,⟨e1 WQ,⟨e1 Vb,trivial,trivial⟩,trivial⟩,⟨e0,⟨e1 aiz,trivial,trivial⟩,trivial⟩⟩⟩⟩,⟨e0,⟨e0,⟨e0,⟨e1 W7,⟨e1 aih,trivial,trivial⟩,⟨e1 U1,trivial,trivial⟩⟩,⟨e0,trivial,⟨e1 U2,trivial,trivial⟩⟩⟩,⟨e1 MK,⟨e1 Xa,⟨e1 Vj,trivial,trivial⟩,trivial⟩,⟨e1 UH,⟨e1 aiw,trivial,trivial⟩,⟨e1 UE,trivial,trivial⟩⟩⟩⟩,⟨e0,⟨e0,⟨e0,⟨e1 aim,trivial,trivial⟩,trivial⟩,⟨e0,trivial,⟨e1 Vh,trivial,trivial⟩⟩⟩,⟨e1 Xd,⟨e1 alQ,trivial,trivial⟩,⟨e0,⟨e1 Vu,trivial,trivial⟩,⟨e1 Vk,trivial,trivial⟩⟩⟩⟩⟩⟩⟩,⟨e0,⟨e0,⟨e0,⟨e0,⟨e0,⟨e1 Nh,⟨e0,⟨e1 Vg,trivial,trivial⟩,trivial⟩,⟨e1 Uw,trivial,trivial⟩⟩,⟨e1 WV,trivial,⟨e1 aiF,trivial,trivial⟩⟩⟩,⟨e0,⟨e0,⟨e1 aip,trivial,trivial⟩,trivial⟩,⟨e0,⟨e1 Ve,trivial,trivial⟩,⟨e1 Vx,trivial,trivial⟩⟩⟩⟩,⟨e0,⟨e0,⟨e1 alL,⟨e1 aik,trivial,trivial⟩,⟨e1 UB,trivial,trivial⟩⟩,⟨e0,⟨e1 Vf,trivial,trivial⟩,⟨e1 U3,trivial,trivial⟩⟩⟩,⟨e0,⟨e0,⟨e1 aiq,trivial,trivial⟩,trivial⟩,⟨e0,⟨e1 UT,trivial,trivial⟩,trivial⟩⟩⟩⟩,⟨e0,⟨e1 Im,⟨e1 alE,⟨e0,⟨e1 aif,⟨e1 L4,trivial,trivial⟩,trivial⟩,⟨e1 Vy,trivial,trivial⟩⟩,⟨e1 aie,trivial,⟨e1 Uv,trivial,trivial⟩⟩⟩,⟨e1 We,⟨e1 W8,trivial,trivial⟩,⟨e1 Vi,⟨e1 aiv,trivial,trivial⟩,⟨e1 VJ,trivial,trivial⟩⟩⟩⟩,⟨e1 alC,⟨e0,⟨e0,⟨e1 VN,trivial,trivial⟩,trivial⟩,⟨e0,trivial,⟨e1 Mm,trivial,trivial⟩⟩⟩,⟨e1 Xk,⟨e0,⟨e1 UF,trivial,trivial⟩,trivial⟩,⟨e0,⟨e1 aiC,trivial,trivial⟩,⟨e1 L2,trivial,trivial⟩⟩⟩⟩⟩⟩,⟨e0,⟨e0,⟨e1 ML,⟨e0,⟨e1 alI,⟨e1 L5,⟨e1 UN,trivial,trivial⟩,trivial⟩,⟨e1 U5,trivial,trivial⟩⟩,⟨e0,trivial,⟨e1 aiH,trivial,trivial⟩⟩⟩,⟨e1 alG,⟨e1 alN,trivial,trivial⟩,⟨e0,⟨e1 UU,trivial,trivial⟩,⟨e1 UC,trivial,trivial⟩⟩⟩⟩,⟨e1 alB,⟨e0,⟨e0,⟨e1 ail,trivial,trivial⟩,⟨e1 UG,trivial,trivial⟩⟩,⟨e0,trivial,⟨e1 Mk,trivial,trivial⟩⟩⟩,⟨e0,⟨e1 CC,⟨e1 Va,trivial,trivial⟩,trivial⟩,⟨e0,⟨e1 aiA,trivial,trivial⟩,trivial⟩⟩⟩⟩,⟨e0,⟨e1 Xz,⟨e0,⟨e1 alJ,⟨e1 aii,trivial,trivial⟩,⟨e1 U0,trivial,trivial⟩⟩,⟨e0,⟨e1 Vt,trivial,trivial⟩,⟨e1 U7,trivial,trivial⟩⟩⟩,⟨e1 W6,trivial,⟨e1 L6,⟨e1 aix,trivial,trivial⟩,⟨e1 UM,trivial,trivial⟩⟩⟩⟩,⟨e0,⟨e0,⟨e0,⟨e1 ain,trivial,trivial⟩,trivial⟩,⟨e1 Mi,⟨e1 ais,trivial,trivial⟩,⟨e1 Vr,trivial,trivial⟩⟩⟩,⟨e1 Wv,⟨e1 Xj,⟨e1 air,trivial,trivial⟩,⟨e1 aiD,trivial,trivial⟩⟩,⟨e0,⟨e1 U4,trivial,trivial⟩,⟨e1 Ux,trivial,trivial⟩⟩⟩⟩⟩⟩⟩⟩
theorem Ln(f:FuncId)(fn:Func)(c:Code)(h:E3.get f=some (fn,c)):na prog f fn c:=KI aex f (fn,c) h
end Go.Proofs.Tryz.K
namespace Go.Abs
open Go.ChangeShapes Go.WideShapes
inductive Sh
 |int (k:IntKind)
 |bool
 |str
 |sl (s:Sh)
 |unit
 |pair (a b:Sh)
def Sh.val:Sh->Type
 | .int _=>Int
 | .bool=>Bool
 | .str=>ByteArray
 | .sl s=>List s.val
 | .unit=>Unit
 | .pair a b=>a.val×b.val
def Sh.size:Sh->Nat
 | .unit=>0
 | .pair a b=>a.size+b.size
 |_=>1
def Sh.enc:(s:Sh)->s.val->List D
 | .int k,n=>[.s (.int k n)]
 | .bool,b=>[.s (.bool b)]
 | .str,b=>[.s (.string b)]
 | .sl s,l=>[.sl (List.flatMap s.enc l) (List.length l)]
 | .unit,_=>[]
 | .pair a b,x=>a.enc x.1++b.enc x.2
def Sh.arg:(s:Sh)->s.val->D
 | .int k,n=>.s (.int k n)
 | .bool,b=>.s (.bool b)
 | .str,b=>.s (.string b)
 | .sl s,l=>.sl (List.flatMap s.enc l) (List.length l)
 | .unit,_=>.agg []
 | .pair a b,x=>.agg (a.enc x.1++b.enc x.2)
def Sh.ok:(s:Sh)->s.val->Prop
 | .int k,n=>(Lit.int k n).wf=true
 | .bool,_=>True
 | .str,b=>ByteArray.size b<=maxLen
 | .sl s,l=>∀ x:s.val,List.Mem x l->s.ok x
 | .unit,_=>True
 | .pair a b,x=>a.ok x.1/\b.ok x.2
theorem Sh.enc_length:∀ (s:Sh) (x:s.val),(s.enc x).length=s.size
 | .int _,_ | .bool,_ | .str,_ | .sl _,_ | .unit,_=>rfl
 | .pair a b,x=>by simp[Sh.enc,Sh.size,Sh.enc_length a,Sh.enc_length b]
section
variable(P:Program)
def shFs(C:TypeId->Option Sh):Nat->List Field->Option Sh
 |_,[]=>some .unit
 |off,f::fs=>if f.offset=off then match C f.type,shFs C (off+P.cellsOf f.type) fs with
  |some a,some b=>some (.pair a b)
  |_,_=>none
  else none
def shT:Nat->TypeId->Option Sh
 |0,_=>none
 |n+1,t=>match P.underlying t with
  |some .bool=>if P.cellsOf t=1 then some .bool else none
  |some (.int k)=>if P.cellsOf t=1 then some (.int k) else none
  |some .string=>if P.cellsOf t=1 then some .str else none
  |some (.slice e)=>if P.cellsOf t=1/\0<P.cellsOf e then(shT n e).map .sl else none
  |some (.struct fs)=>match shFs P (shT n) 0 fs.toList with
   |some s=>if s.size=P.cellsOf t then some s else none
   |none=>none
  |_=>none
end
section
variable{P:Program}{H:Type}{ec:TypeId×Value->H}{w:World}{base:Nat}{spare:Nat->Bool}{held:Bool}
def Holds(w:World)(ds:List D)(cs:List Value):Prop:=ds.length=cs.length/\∀ (k:Nat) (d:D) (u:Value),ds[k]? =some d->cs[k]? =some u->R (fun _=>False) noRows w d u/\u.oneCell'=true
theorem Holds.app{ds J:List D}{cs cs':List Value}(h:Holds w ds cs)(h':Holds w J cs'):Holds w (ds++J) (cs++cs'):=by
 refine⟨by simp[h.1,h'.1],fun k d u hd C=>?_⟩;by_cases hk:k<ds.length
 .rw[List.getElem?_append_left hk] at hd;rw[List.getElem?_append_left (by have:=h.1;omega)] at C;exact h.2 k d u hd C
 .rw[List.getElem?_append_right oG] at hd;rw[List.getElem?_append_right (by have:=h.1;omega), <- h.1] at C;exact h'.2 (k - ds.length) d u hd C
theorem Holds.one{d:D}{u:Value}(h:R (fun _=>False) noRows w d u)(h':u.oneCell'=true):Holds w [d] [u]:=⟨rfl,fun k d' J hd C=>by
 cases k with
 |zero=>simp at hd C;subst hd C;exact⟨h,h'⟩
 |succ k=>simp at hd⟩
theorem Holds.nil:Holds w [] []:=⟨rfl,oS⟩
theorem shFs_nil{C:TypeId->Option Sh}{off:Nat}{s:Sh}(h:shFs P C off []=some s):s=.unit:=by
 simp only[shFs,aV] at h;exact h.symm
theorem shFs_cons{C:TypeId->Option Sh}{off:Nat}{f:Field}{fs:List Field}{s:Sh}(h:shFs P C off (f::fs)=some s):
 f.offset=off/\∃ a b,C f.type=some a/\shFs P C (off+P.cellsOf f.type) fs=some b/\s=.pair a b:=by
 simp only[shFs] at h;split at h
 .rename_i J;split at h
  .rename_i a b ha hb;simp only[aV] at h;exact⟨J,a,b,ha,hb,h.symm⟩
  .cases h
 .cases h
theorem shT_size:∀ (n:Nat) (t:TypeId) (s:Sh),shT P n t=some s->s.size=P.cellsOf t
 |0,_,_,h=>by cases h
 |n+1,t,s,h=>by
  unfold shT at h;split at h
  .split at h
   .rename_i h1;simp only[aV] at h;subst h;exact h1.symm
   .cases h
  .split at h
   .rename_i h1;simp only[aV] at h;subst h;exact h1.symm
   .cases h
  .split at h
   .rename_i h1;simp only[aV] at h;subst h;exact h1.symm
   .cases h
  .split at h
   .rename_i h1;simp only[dx] at h;obtain⟨a,_,rfl⟩:=h;exact h1.1.symm
   .cases h
  .split at h
   .split at h
    .rename_i h1;simp only[aV] at h;subst h;exact h1
    .cases h
   .cases h
  .cases h
def Reads(P:Program)(w:World)(C:TypeId->Option Sh)(rd:TypeId->List Value->Option (DataW H×List MemPlace)):Prop:=
 ∀ t s cs x,C t=some s->cs.length=P.cellsOf t->rd t cs=some x->∃ v:s.val,s.ok v/\Holds w (s.enc v) cs
theorem reads_fs{J:TypeId->Option Sh}{rd:TypeId->List Value->Option (DataW H×List MemPlace)}(M:∀ t s,J t=some s->s.size=P.cellsOf t)(h:Reads P w J rd){cs:List Value}:∀ (fs:List Field) (off:Nat) (s:Sh),shFs P J off fs=some s->off+s.size<=cs.length->
 (∀ f∈fs,∃ x,rd f.type ((cs.drop f.offset).take (P.cellsOf f.type))=some x)->∃ v:s.val,s.ok v/\Holds w (s.enc v) ((cs.drop off).take s.size)
 |[],off,s,hs,_,_=>by
  obtain rfl:=shFs_nil hs;exact⟨(),trivial,by simp[Sh.enc,Sh.size,Holds]⟩
 |f::fs,off,s,hs,hl,hr=>by
  obtain⟨o6,a,b,ha,hb,rfl⟩:=shFs_cons hs;obtain⟨x,hx⟩:=hr f oS;have jX:off+(a.size+b.size)<=cs.length:=hl;have cE:=M _ _ ha;rw[o6] at hx;obtain⟨v,Gn,hv⟩:=h f.type a _ x ha (by simp only[List.length_take,List.length_drop];omega) hx;rw[<- cE] at hb hv;obtain⟨X,C,Nt⟩:=reads_fs M h fs (off+a.size) b hb oG fun g hg=>hr g (by simp[hg]);refine⟨(v,X),⟨Gn,C⟩,?_⟩;have:=hv.app Nt;show Holds w (a.enc v++b.enc X) ((cs.drop off).take (a.size+b.size));rw[List.take_add,List.drop_drop];exact this
theorem cells_get{a:Addr}{n:Nat}{cs:List Value}(h:w.cells? base a n=some cs):cs.length=n/\∀ k,k<n->w.cell? (a.add k)=cs[k]? /\k<cs.length:=by
 unfold World.cells? at h;split at h
 .have hl:cs.length=n:=by simpa using mapM_some_length h
  exact⟨hl,fun k hk=>⟨mapM_some_get h k k (by simp[hk]),oG⟩⟩
 .cases h
theorem choose_list{α β:Type}{p:Nat->α->β->Prop}:∀ (n:Nat) (l:Nat->α),(∀ i,i<n->∃ y,p i (l i) y)->∃ ys:List β,ys.length=n/\∀ i (h:i<n) y,ys[i]? =some y->p i (l i) y
 |0,_,_=>⟨[],rfl,fun i h=>by omega⟩
 |n+1,l,h=>by
  obtain⟨ys,h1,h2⟩:=choose_list n l fun i hi=>h i oG;obtain⟨y,hy⟩:=h n oG;refine⟨ys++[y],by simp[h1],fun i hi z C=>?_⟩;by_cases J:i<n
  .rw[List.getElem?_append_left oG] at C;exact h2 i J z C
  .have:i=n:=by omega
   subst this;rw[List.getElem?_append_right oG] at C;simp[h1] at C;subst C;exact hy
theorem flat_get{α:Type}{f:α->List D}{sz:Nat}(hs:∀ x,(f x).length=sz):∀ (l:List α) (i j:Nat),j<sz->(l.flatMap f)[i*sz+j]? =(l[i]?).bind fun x=>(f x)[j]?
 |[],i,j,_=>by simp
 |x::l,0,j,h=>by simp[List.getElem?_append_left (show j<(f x).length by rw[hs];exact h)]
 |x::l,i+1,j,h=>by
  rw[List.flatMap_cons,List.getElem?_append_right (by rw[hs,Nat.add_mul];omega)];have:(i+1)*sz+j - (f x).length=i*sz+j:=by rw[hs,Nat.add_mul];omega
  rw[this,flat_get hs l i j h];simp
theorem reads_T:∀ (jE n:Nat),Reads P w (shT P n) (DataW.trod ec P w base spare held jE)
 |jE,0,t,s,cs,x,h,_,_=>by cases h
 |jE,n+1,t,s,cs,x,h,hl,hr=>by
  have cE:=shT_size _ _ _ h;unfold shT at h;split at h
  .rename_i ht;split at h
   .simp only[aV] at h;subst h;obtain⟨b,rfl,_⟩:=DataW.trod_bool ht hr;exact⟨b,trivial,.one (.s _ rfl) rfl⟩
   .cases h
  .rename_i k ht;split at h
   .simp only[aV] at h;subst h;obtain⟨b,rfl,_,hw⟩:=DataW.trod_int ht hr;exact⟨b,hw,.one (.s _ rfl) rfl⟩
   .cases h
  .rename_i ht;split at h
   .simp only[aV] at h;subst h;obtain⟨b,rfl,_,hw⟩:=DataW.trod_string ht hr;exact⟨b,hw,.one (.s _ rfl) rfl⟩
   .cases h
  .rename_i e ht;split at h
   .rename_i hc;simp only[dx] at h;obtain⟨a,ha,rfl⟩:=h;have haz:=shT_size _ _ _ ha;rcases DataW.trod_slice ht hr with⟨rfl,_⟩|⟨M,len,cap,VS,rest,X,rfl,rfl,_,hb,hlc,hm,hlen,F4,_,_⟩
    .exact⟨([]:List a.val),(fun x h=>nomatch h),.one (by exact .sln none 0) rfl⟩
    .have XH:∀ i,i<len->∃ C:List Value,w.cells? base (M.add (i*P.cellsOf e)) (P.cellsOf e)=some C/\∃ y,DataW.trod ec P w base spare held X e C=some y:=fun i hi=>by
      have:=F4 i hi;have hg:VS[i]? =some VS[i]:=by simp[hlen,hi]
      rw[hg,Option.bind_eq_some_iff] at this;obtain⟨C,h1,h2⟩:=this;exact⟨C,h1,_,h2⟩
     have Fm:∀ i,i<len->∃ v:a.val,a.ok v/\∃ C,w.cells? base (M.add (i*P.cellsOf e)) (P.cellsOf e)=some C/\Holds w (a.enc v) C:=fun i hi=>by
      obtain⟨C,h1,y,h2⟩:=XH i hi;obtain⟨v,Gn,hv⟩:=reads_T X n e a C y ha (cells_get h1).1 h2;exact⟨v,Gn,C,h1,hv⟩
     obtain⟨vs,vN,Y2⟩:=choose_list (p:=fun(i:Nat) (_:Nat) (v:a.val)=>a.ok v/\∃ C,w.cells? base (M.add (i*P.cellsOf e)) (P.cellsOf e)=some C/\Holds w (a.enc v) C) len (fun i=>i) Fm
     have alX:∀ x:a.val,x∈vs->a.ok x:=fun x hm=>by
      obtain⟨i,hx⟩:=cC hm;exact(Y2 i (by have:=(bw.1 hx).1;omega) x hx).1
     cases len with
     |zero=>
      have:vs=[]:=List.length_eq_zero_iff.1 vN;subst this;exact⟨([]:List a.val),(fun x h=>nomatch h),.one (by exact .sln _ cap) rfl⟩
     |succ l=>
      obtain⟨C,h0,_⟩:=XH 0 oG;have vU:=(cells_get h0).2 0 hc.2;simp only[Nat.zero_mul,Addr.add,if_true] at vU;obtain⟨b,o,sp⟩:=M;have HR:∃ u,w.cell? ⟨b,o,sp⟩=some u:=⟨C[0],by rw[vU.1];simp[vU.2]⟩
      obtain⟨u0,J⟩:=HR;unfold World.cell? at J
      have kX:b<w.heap.size:=by
       cases hh:w.heap[b]? with
       |none=>rw[hh] at J;cases J
       |some x=>exact(Array.getElem?_eq_some_iff.1 hh).1
      have rX:sp=none:=by
       cases sp with
       |none=>rfl
       |some q=>
        simp only at J;split at J
        .simp at J
        .cases J
      subst rX
      have alY:∀ i j,((⟨b,o,none⟩:Addr).add i).add j=⟨b,o+(i+j),none⟩:=fun i j=>by
       unfold Addr.add;split<;>split<;>simp_all;omega
      have hk:∀ k d,(vs.flatMap a.enc)[k]? =some d->∃ u,w.cell? ⟨b,o+k,none⟩=some u/\R (fun _=>False) noRows w d u/\u.oneCell'=true:=fun k d hd=>by
       have iM:0<a.size:=by omega
       have Fy:k / a.size*a.size+k % a.size=k:=by rw[Nat.mul_comm];exact Nat.div_add_mod k a.size
       have OU:=Nat.mod_lt k iM;rw[<- Fy,flat_get a.enc_length _ _ _ OU,Option.bind_eq_some_iff] at hd;obtain⟨x,hx,hd⟩:=hd
       have hi:k / a.size<l+1:=by
        have:=(bw.1 hx).1;omega
       obtain⟨_,C,lO,hho⟩:=Y2 _ hi x hx;obtain⟨h1,h2⟩:=(cells_get lO).2 (k % a.size) oG;rw[alY, <- haz,Fy] at h1;refine⟨C[k % a.size],by rw[h1];simp[h2],hho.2 _ d _ hd (by simp[h2])⟩
      refine⟨vs,fun x h=>alX x h,.one (by
       have rL:(List.length vs)=l+1:=vN;show R _ _ _ (.sl (List.flatMap a.enc vs) (List.length vs)) _;rw[rL];refine .sl _ _ b o cap (fun k=>(w.cell? ⟨b,o+k,none⟩).getD undef) oS (fun _ _ h=>by cases h) kX hlc hm (fun k rE=>?_) fun k d hd=>?_
       .obtain⟨u,h1,_,h3⟩:=hk k _ (aN rE);simp[h1,h3]
       .obtain⟨u,h1,h2,_⟩:=hk k d hd
        simpa[h1] using h2) rfl⟩
   .cases h
  .rename_i fs ht;obtain⟨xs,X,rfl,_,_,sV,vO⟩:=DataW.trod_struct ht hr;split at h
   .rename_i s' eZ;split at h
    .rename_i hs;simp only[aV] at h;subst h
     obtain⟨v,Gn,hv⟩:=reads_fs (P:=P) (w:=w) (fun t s=>shT_size n t s) (reads_T X n) (cs:=cs) fs.toList 0 s' eZ oG fun f hf=>by
      obtain⟨i,hi,rfl⟩:=Array.getElem_of_mem (Array.mem_toList_iff.1 hf);have:=vO i fs[i] (by simp[hi]);exact⟨xs[i],by rw[this];simp[sV,hi]⟩
     refine⟨v,Gn,?_⟩;rw[List.drop_zero,df oG] at hv;exact hv
    .cases h
   .cases h
  .cases h
theorem arg_R{r:Reach}{b0:Nat}{t:TypeId}{v:Value}{d:DataW H}{ps:List MemPlace}{n:Nat}{s:Sh}(hs:shT P n t=some s)(hv:Value.okWide P w r b0 t v)(hd:DataW.Trod ec P w base spare held t v d ps):
 ∃ x:s.val,s.ok x/\R (fun _=>False) noRows w (s.arg x) v:=by
 cases n with
 |zero=>cases hs
 |succ n=>
  obtain⟨jE,hf⟩:=hd;have hz:=shT_size _ _ _ hs;have key:v.cells.toList.length=P.cellsOf t->∃ x:s.val,s.ok x/\Holds w (s.enc x) v.cells.toList:=fun hl=>reads_T jE (n+1) t s _ _ hs hl hf;unfold shT at hs;split at hs
  .rename_i ht;obtain⟨b,rfl⟩:=okWide_bool ht hv;split at hs
   .simp only[aV] at hs;subst hs;exact⟨b,trivial,.s _ rfl⟩
   .cases hs
  .rename_i k ht;obtain⟨b,rfl⟩:=okWide_int ht hv;split at hs
   .simp only[aV] at hs;subst hs;obtain⟨c,hc,_,J⟩:=DataW.trod_int ht hf;simp[Value.cells] at hc;subst hc;exact⟨b,J,.s _ rfl⟩
   .cases hs
  .rename_i ht;obtain⟨b,rfl⟩:=okWide_string ht hv;split at hs
   .simp only[aV] at hs;subst hs;obtain⟨c,hc,_,J⟩:=DataW.trod_string ht hf;simp[Value.cells] at hc;subst hc;exact⟨b,J,.s _ rfl⟩
   .cases hs
  .rename_i e ht;obtain⟨a,len,cap,rfl⟩:=okWide_slice ht hv;split at hs
   .rename_i h1;simp only[dx] at hs;obtain⟨q,_,rfl⟩:=hs;obtain⟨x,M,hx⟩:=key h1.1.symm;exact⟨x,M,(hx.2 0 _ _ rfl rfl).1⟩
   .cases hs
  .rename_i fs ht;obtain⟨cs,rfl,cE⟩:=okWide_struct ht hv;obtain⟨x,M,hx⟩:=key (by simpa[Value.cells] using cE);refine⟨x,M,?_⟩
   have ha:s.arg x=.agg (s.enc x):=by
    split at hs
    .rename_i s' C;split at hs
     .simp only[aV] at hs;subst hs;cases X:fs.toList with
      |nil=>
       rw[X] at C;obtain rfl:=shFs_nil C;rfl
      |cons f Jh=>
       rw[X] at C;obtain⟨_,a,b,_,_,rfl⟩:=shFs_cons C;rfl
     .cases hs
    .cases hs
   rw[ha];have:=hx.1;simp only[Value.cells] at this hx;have e:cs=cs.toList.toArray:=by simp
   rw[e];exact .agg _ cs.toList this.symm fun k d v h1 h2=>(hx.2 k d v h1 h2).1
  .cases hs
theorem flat_one{α β:Type}(f:α->β):∀ l:List α,(l.flatMap fun x=>[f x])=l.map f
 |[]=>rfl
 |x::l=>by rw[List.flatMap_cons,flat_one f l];rfl
theorem flat_congr{α β γ:Type}{f:α->List γ}{g:β->List γ}{h:α->β}(he:∀ x,f x=g (h x)):∀ l:List α,l.flatMap f=(l.map h).flatMap g
 |[]=>rfl
 |x::l=>by rw[List.flatMap_cons,List.map_cons,List.flatMap_cons,he,flat_congr he l]
end
end Go.Abs
namespace Go.Argus
open Go.Abs
abbrev m8:Sh:=.int .i64
abbrev Fp:Sh:=.int .u8
abbrev EX:Sh:=.pair Fp (.pair m8 (.pair m8 (.pair m8 (.pair m8 (.pair (.sl m8) .unit)))))
abbrev HJ:Sh:=.pair .str (.pair m8 .unit)
abbrev H7:Sh:=.pair Fp (.pair m8 (.pair m8 (.pair m8 (.pair m8 (.pair .str (.pair EX (.pair (.sl m8) (.pair (.sl HJ) (.pair m8 .unit)))))))))
abbrev Hz:Sh:=.pair (.sl EX) (.pair H7 .unit)
abbrev Ar:Sh:=.pair .str (.pair .bool (.pair m8 (.pair Fp (.pair (.sl Fp) (.pair (.sl Fp) (.pair (.sl .str) (.pair (.sl Hz) .unit)))))))
def Mt(x:EX.val):bC:=⟨x.1,x.2.1,x.2.2.1,x.2.2.2.1,x.2.2.2.2.1,x.2.2.2.2.2.1⟩
def Ub(x:HJ.val):kS:=⟨x.1,x.2.1⟩
def VT(x:H7.val):End:=⟨x.1,x.2.1,x.2.2.1,x.2.2.2.1,x.2.2.2.2.1,x.2.2.2.2.2.1,Mt x.2.2.2.2.2.2.1,x.2.2.2.2.2.2.2.1,List.map Ub x.2.2.2.2.2.2.2.2.1,x.2.2.2.2.2.2.2.2.2.1⟩
def S5(x:Hz.val):b7:=⟨List.map Mt x.1,VT x.2.1⟩
def Uc(x:Ar.val):aG:=⟨x.1,x.2.1,x.2.2.1,x.2.2.2.1,x.2.2.2.2.1,x.2.2.2.2.2.1,x.2.2.2.2.2.2.1,List.map S5 x.2.2.2.2.2.2.2.1⟩
theorem B9{k:IntKind}(l:List Int):D.sl (List.flatMap (Sh.enc (.int k)) l) l.length=.sl (l.map fun n=>.s (.int k n)) l.length:=congrArg (D.sl · l.length) (flat_one (fun n=>D.s (.int k n)) l)
theorem aft(l:List ByteArray):D.sl (List.flatMap (Sh.enc .str) l) l.length=r9 l:=congrArg (D.sl · l.length) (flat_one S l)
theorem Mu{s:Sh}{β:Type}{g:β->List D}{h:s.val->β}(he:∀ x,s.enc x=g (h x))(l:List s.val):D.sl (List.flatMap s.enc l) l.length=.sl ((l.map h).flatMap g) (l.map h).length:=by
 rw[flat_congr he l,List.length_map]
theorem c1'{α β:Type}(f:α->β){a a':α}(h:a=a'):f a=f a':=by rw[h]
theorem c2'{α β γ:Type}(f:α->β->γ){a a':α}{b C:β}(h:a=a')(h2:b=C):f a b=f a' C:=by rw[h,h2]
theorem Y3{α β γ δ:Type}(f:α->β->γ->δ){a a':α}{b C:β}{c J:γ}(h:a=a')(h2:b=C)(h3:c=J):f a b c=f a' C J:=by rw[h,h2,h3]
theorem c4'{α β γ δ ε:Type}(f:α->β->γ->δ->ε){a a':α}{b C:β}{c J:γ}{d d':δ}(h:a=a')(h2:b=C)(h3:c=J)(h4:d=d'):f a b c d=f a' C J d':=by rw[h,h2,h3,h4]
theorem S6(x:EX.val):EX.enc x=bu (Mt x):=
 c1' (fun q=>[U8 x.1,I x.2.1,I x.2.2.1,I x.2.2.2.1,I x.2.2.2.2.1,q]) (B9 (k:=.i64) x.2.2.2.2.2.1)
theorem adn(x:HJ.val):HJ.enc x=mM (Ub x):=rfl
theorem aey(x:H7.val):H7.enc x=bh (VT x):=
 Y3 (fun a b c=>[U8 x.1,I x.2.1,I x.2.2.1,I x.2.2.2.1,I x.2.2.2.2.1,S x.2.2.2.2.2.1]++(a++[b,c,I x.2.2.2.2.2.2.2.2.2.1])) (S6 x.2.2.2.2.2.2.1) (B9 (k:=.i64) x.2.2.2.2.2.2.2.1) (Mu adn x.2.2.2.2.2.2.2.2.1)
theorem abO(x:Hz.val):Hz.enc x=fJ (S5 x):=by
 have:=c2' (fun a b=>a::(b++[])) (Mu S6 x.1) (aey x.2.1);refine Eq.trans this ?_;rw[List.append_nil];rfl
theorem ac3(x:Ar.val):Ar.arg x=.agg (aH (Uc x)):=
 c4' (fun a b c d=>D.agg [S x.1,B x.2.1,I x.2.2.1,U8 x.2.2.2.1,a,b,c,d]) (B9 (k:=.u8) x.2.2.2.2.1) (B9 (k:=.u8) x.2.2.2.2.2.1) (aft x.2.2.2.2.2.2.1) (Mu abO x.2.2.2.2.2.2.2.1)
end Go.Argus
