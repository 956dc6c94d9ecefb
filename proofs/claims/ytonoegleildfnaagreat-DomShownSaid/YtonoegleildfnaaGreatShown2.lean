/- Part 2 of the proof; the last part says what is proved. -/
import Derived.Test.YtonoegleildfnaaGreatShown1
import Derived.IntWalk
import Derived.ProofKit
import Derived.RangeFuncRecord
import Derived.Scope
import Derived.Test.YtonoegleildfnaaGreatChecked
import Derived.Test.YtonoegleildfnaaGreatProg
namespace Go.Abs
section
variable{P:Program}{F:Nat->Prop}
theorem TU{β β':Pla}{w:World}{m:Mem}(hm:MSim P F m β w){i:Nat}{cs:List D}{e:TypeId}(aj:m i=some (.cells cs e))(hβ:β'=up β i (some .dead)){d:D}{v:Value}(h:R F β w d v):
 R F β' w (fz0 i cs (P.cellsOf e) d) v:=by
 have hs:Step β w β' w:=by rw[hβ];exact step_dead β w i
 have cO:=h.step hs;obtain⟨p,hp,hr⟩:=hm.row i _ aj;unfold fz0;split
 .rename_i j off n;split
  .rename_i M;subst M;cases h with
   |rsd _ _ _ _ h1 _=>
    rw[h1] at hp;cases hp;cases hr
   |rsn _ a h1=>
    rw[h1] at hp;cases hp;cases hr;simp only[List.drop_nil,List.take_nil];exact .sln a 0
   |rsz _ _ a b o len room sz h1=>
    simp only[Nat.zero_mul,List.take_zero];exact .sln a 0
   |rs _ _ _ cap b o len room sz h1 hn dD h2 h3=>
    rw[h1] at hp;cases hp;have J:β j=some (.cells b o len room sz):=h1;obtain⟨X,hl,bt,_⟩:=hr.rd;have Zw:=(X.drop off).take (n*P.cellsOf e);obtain⟨us,u1,u2⟩:=Zw;refine .sl _ n b (o+off) cap us (hm.nf j _ b J rfl) ?_ (hm.lt j _ b J rfl) hn dD u1 fun k d hk=>(u2 k d hk).step hs;rw[hβ];intro k q hq;by_cases C:k=j
    .subst C;rw[up_same] at hq;cases hq;simp[Pl.blk]
    .rw[up_ne _ _ C] at hq;exact hm.free_other J rfl hq C
  .exact cO
 .rename_i j off;split
  .rename_i M;subst M;cases h with
   |rpd _ _ _ h1 _=>
    rw[h1] at hp;cases hp;cases hr
   |rp _ _ b o len room sz h1=>
    rw[h1] at hp;cases hp;obtain⟨X,hl,bt,_⟩:=hr.rd;obtain⟨us,u1,u2⟩:=X.drop off;refine .pt _ b (o+off) us (hm.nf j _ b h1 rfl) ?_ (hm.lt j _ b h1 rfl) u1 fun k d hk=>(u2 k d hk).step hs;rw[hβ];intro k q hq;by_cases C:k=j
    .subst C;rw[up_same] at hq;cases hq;simp[Pl.blk]
    .rw[up_ne _ _ C] at hq;exact hm.free_other h1 rfl hq C
  .exact cO
 .exact cO
theorem TV{β β':Pla}{w:World}{m:Mem}(hm:MSim P F m β w){i:Nat}{es:List (Value×D)}(aj:m i=some (.map es))(M:β'=up β i (some .dead)){d:D}{v:Value}(h:R F β w d v):R F β' w (fm0 i es d) v:=by
 have hs:Step β w β' w:=by rw[M];exact step_dead β w i
 unfold fm0;split
 .rename_i j;split
  .rename_i X;subst X;obtain⟨r,ms,clock,h1,rfl,h3,h4,h5,J⟩:=h.mp_inv hm aj;refine .im es r ms clock (hm.nf j _ r h1 rfl) ?_ h3 h4 h5 (fun k x m hx hm=>(J k x m hx hm).1) fun k x m hx hm=>(J k x m hx hm).2.step hs;rw[M];intro k q hq;by_cases C:k=j
   .subst C;rw[up_same] at hq;cases hq;simp[Pl.blk]
   .rw[up_ne _ _ C] at hq;exact hm.free_other h1 rfl hq C
  .exact h.step hs
 .exact h.step hs
section subst
variable{σ:D->D}{β β':Pla}{w:World}
theorem I2(C:∀ {d v},R F β w d v->R F β' w (σ d) v){d:D}{v:Value}(h:R F β w d v):R F β' w (sub1 σ d) v:=by
 unfold sub1;split
 .rename_i ds;obtain⟨vs,rfl,hl,J⟩:=h.agg_inv;refine .agg _ vs (by simpa using hl) fun k d v hd hv=>?_;simp only[List.getElem?_map,bY] at hd;obtain⟨d',M,rfl⟩:=hd;exact C (J k d' v M hv)
 .cases h with
  |opt c d _ h1 h2=>exact .opt _ _ v (fun hc=>C (h1 hc)) h2
 .exact C h
theorem DR(J:∀ {d v},R F β w d v->R F β' w (σ d) v){d:D}{v:Value}(h:R F β w d v):R F β' w (sub σ d) v:=by
 have map:∀ (ds:List D) (vs:List Value),(∀ (k:Nat) (d:D) (v:Value),ds[k]? =some d->vs[k]? =some v->R F β w d v)->
  ∀ (k:Nat) (d:D) (v:Value),(ds.map (sub1 σ))[k]? =some d->vs[k]? =some v->R F β' w d v:=fun ds vs C k d v hd hv=>by
  simp only[List.getElem?_map,bY] at hd;obtain⟨d',M,rfl⟩:=hd;exact I2 J (C k d' v M hv)
 unfold sub;split
 .rename_i ds;obtain⟨vs,rfl,hl,C⟩:=h.tup_inv;exact .tup _ vs (by simpa using hl) (map ds vs C)
 .rename_i f fs ds;cases h with
  |fn _ _ _ us vs hl jB h1 h2=>exact .fn f _ _ us vs (by simpa using hl) (by simpa using jB) (map fs us h1) (map ds vs h2)
 .exact I2 J h
theorem U2(X:∀ {d v},R F β w d v->R F β' w (σ d) v)(hs:Step β w β' w){r:Row}{p:Pl}(h:RowR P F β w r p):RowR P F β' w (r.sub σ) p:=by
 cases h with
 |nil C=>exact .nil C
 |cells ds C b o room sz c hc hr hlen bt J=>
  have:=RowR.cells (P:=P) (F:=F) (β:=β') (w:=w) (ds.map (Abs.sub σ)) C b o room sz c hc hr (by simpa using hlen) bt fun k d hk=>by
   simp only[List.getElem?_map,bY] at hk;obtain⟨d',kO,rfl⟩:=hk;obtain⟨v,h1,h2,h3⟩:=J k d' kO;exact⟨v,h1,DR X h2,h3⟩
  simpa[Row.sub] using this
 |map es r ms clock hc hl bG J=>
  refine .map _ r ms clock hc (by simpa using hl) (by simpa[List.map_map,Function.comp_def] using bG) fun k x mm hk M=>?_;simp only[List.getElem?_map,bY] at hk;obtain⟨x',kP,rfl⟩:=hk;obtain⟨h1,h2⟩:=J k x' mm kP M;exact⟨h1,DR X h2⟩
 |raw r o hc=>exact .raw r o hc
 |ren f r _ F₂ h1 h2 h=>exact(RowR.ren f r p F₂ h1 h2 h).step hs fun _ _=>rfl
end subst
theorem Iw{σ:D->D}{env:Env}{m:Mem}{nx i:Nat}{row:Row}(h:m i=some row){w:World}{a:Act}{β:Pla}(hs:dw P F ⟨env,m,nx⟩ β w a)(X:∀ {d v},R F β w d v->R F (up β i (some .dead)) w (σ d) v):
 ∃ β',dw P F ⟨fun t=>sub σ (env t),fun j=>if j=i then none else(m j).map (Row.sub σ),nx⟩ β' w a/\fy nx β w a ⟨fun t=>sub σ (env t),fun j=>if j=i then none else(m j).map (Row.sub σ),nx⟩ β' w a:=by
 have M:=step_dead β w i;have hm:=hs.m;simp only at hm
 have J:∀ j q b,up β i (some .dead) j=some q->q.blk=some b->j≠i/\β j=some q:=fun j q b hq e=>by
  by_cases hj:j=i
  .subst hj;rw[up_same] at hq;cases hq;simp[Pl.blk] at e
  .rw[up_ne _ _ hj] at hq;exact⟨hj,hq⟩
 have hi:∃ p,β i=some p:=by
  obtain⟨p,hp,_⟩:=hm.row i _ h;exact⟨p,hp⟩
 refine⟨up β i (some .dead),⟨fun t=>DR X (hs.e t),⟨fun j r hj=>?_,fun j k q q' b hq fF e1 e2=>hm.inj j k q q' b (J j q b hq e1).2 (J k q' b fF e2).2 e1 e2,
  fun j q b hq e1=>hm.lt j q b (J j q b hq e1).2 e1,fun j q b hq e1=>hm.nf j q b (J j q b hq e1).2 e1,hm.fb⟩,fun j hj=>?_⟩,⟨M,aU _,fun j hj hn=>?_,rfl,rfl⟩⟩
 .simp only at hj;by_cases C:j=i
  .rw[if_pos C] at hj;cases hj
  .rw[if_neg C] at hj;simp only[bY] at hj;obtain⟨r',gw,rfl⟩:=hj;obtain⟨q,hq,aj⟩:=hm.row j r' gw;exact⟨q,by rw[up_ne _ _ C];exact hq,U2 X M aj⟩
 .have C:j≠i:=fun e1=>by
   subst e1;obtain⟨p,hp⟩:=hi;rw[hs.n j hj] at hp;cases hp
  rw[up_ne _ _ C];exact hs.n j hj
 .have C:j≠i:=fun e1=>by
   subst e1;obtain⟨p,hp⟩:=hi;rw[hn] at hp;cases hp
  rw[up_ne _ _ C];exact hn
theorem TW{β:Pla}{w:World}{cs cs':List D}{e:TypeId}{p:Pl}(hl:cs'.length=cs.length)(M:∀ (k:Nat) (d d':D),cs[k]? =some d->cs'[k]? =some d'->Wk d d')(h:RowR P F β w (.cells cs e) p):RowR P F β w (.cells cs' e) p:=by
 cases h with
 |nil _=>
  have:cs'=[]:=List.length_eq_zero_iff.1 (by simpa using hl);subst this;exact .nil e
 |cells _ _ b o room sz c hc hr hlen bt J=>
  rw[<- hl];refine .cells cs' e b o room sz c hc hr oG bt fun k d' C=>?_;have hk:k<cs.length:=by rw[<- hl];exact(bj.1 C).1
  obtain⟨v,h1,h2,h3⟩:=J k cs[k] (by simp[hk]);exact⟨v,h1,M k cs[k] d' (by simp[hk]) C _ _ _ _ h2,h3⟩
theorem Ix{st st':St}(h:Ghost P st st'){w:World}{a:Act}:∀ {β:Pla},dw P F st β w a->∃ β',dw P F st' β' w a/\fy st.nx β w a st' β' w a:=by
 induction h with
 |refl st=>exact fun {β} hs=>⟨β,hs,fy.refl st β w a⟩
 |trans _ _ X ih₂=>
  intro β hs;obtain⟨β₁,h1,h2⟩:=X hs;obtain⟨β₂,h3,h4⟩:=ih₂ h1;exact⟨β₂,h3,h2.trans h4⟩
 |forget env env' m nx h=>
  intro β hs;refine⟨β,⟨fun t=>?_,hs.m,hs.n⟩,⟨Step.refl β w,aU _,fun _ _ h=>h,rfl,rfl⟩⟩;rcases h t with h1|h1
  .simp only[h1];exact hs.e t
  .simp only[h1];exact .u _
 |drop env m m' nx h=>
  intro β hs;refine⟨β,⟨hs.e,⟨fun i r hi=>?_,hs.m.inj,hs.m.lt,hs.m.nf,hs.m.fb⟩,hs.n⟩,⟨Step.refl β w,aU _,fun _ _ h=>h,rfl,rfl⟩⟩;rcases h i with h1|h1
  .exact hs.m.row i r (h1.symm.trans hi)
  .simp only at hi;rw[h1] at hi;cases hi
 |weak env env' m m' nx h dG=>
  intro β hs;refine⟨β,⟨fun t=>h t _ _ _ _ (hs.e t),⟨fun i r hi=>?_,hs.m.inj,hs.m.lt,hs.m.nf,hs.m.fb⟩,hs.n⟩,⟨Step.refl β w,aU _,fun _ _ h=>h,rfl,rfl⟩⟩;rcases dG i with h1|⟨cs,cs',e,h1,h2,h3,h4⟩
  .exact hs.m.row i r (h1.symm.trans hi)
  .simp only at hi;rw[h2] at hi;cases hi;obtain⟨p,hp,hr⟩:=hs.m.row i _ h1;exact⟨p,hp,TW h3 h4 hr⟩
 |freeze env m nx i cs e h=>
  intro β hs;exact Iw h hs fun hr=>TU hs.m h rfl hr
 |freezeM env m nx i es h=>
  intro β hs;exact Iw h hs fun hr=>TV hs.m h rfl hr
 |nilrow env m nx t e h=>
  intro β hs;have hm:=hs.m;have hn:β nx=none:=hs.n nx (aU _);simp only at hm
  have C:∀ j q b,up β nx (some .nil) j=some q->q.blk=some b->j≠nx/\β j=some q:=fun j q b hq e=>by
   by_cases hj:j=nx
   .subst hj;rw[up_same] at hq;cases hq;simp[Pl.blk] at e
   .rw[up_ne _ _ hj] at hq;exact⟨hj,hq⟩
  have M:Step β w (up β nx (some .nil)) w:=by
   refine⟨aU _,fun b _ hf=>⟨rfl,fun j q hq e1=>?_⟩,fun j q hq=>.inl ?_,rfl,rfl⟩
   .exact hf j q (C j q b hq e1).2 e1
   .rw[up_ne _ _ (fun e1=>by rw[e1,hn] at hq;cases hq)];exact hq
  refine⟨up β nx (some .nil),⟨fun u=>?_,⟨fun j r hj=>?_,fun j k q q' b hq fF e1 e2=>hm.inj j k q q' b (C j q b hq e1).2 (C k q' b fF e2).2 e1 e2,
   fun j q b hq e1=>hm.lt j q b (C j q b hq e1).2 e1,fun j q b hq e1=>hm.nf j q b (C j q b hq e1).2 e1,hm.fb⟩,fun j hj=>?_⟩,⟨M,Nat.le_succ _,fun j hj hb=>?_,rfl,rfl⟩⟩
  .by_cases hu:u=t
   .subst hu;have h1:=hs.e u;simp only at h1;rw[h] at h1;obtain⟨x,hx⟩:=h1.z_inv;simp only[up_same,hx];exact .rsn nx x (up_same _ _ _)
   .simp only[up_ne _ _ hu];exact(hs.e u).step M
  .simp only at hj;by_cases J:j=nx
   .subst J;rw[up_same] at hj;cases hj;exact⟨.nil,up_same _ _ _,.nil e⟩
   .rw[up_ne _ _ J] at hj;obtain⟨q,hq,aj⟩:=hm.row j r hj;exact⟨q,by rw[up_ne _ _ J];exact hq,aj.step M fun _ _=>rfl⟩
  .simp only at hj;rw[up_ne _ _ (show j≠nx by omega)];exact hs.n j (by simp only;omega)
  .simp only at hj;rw[up_ne _ _ (show j≠nx by omega)];exact hb
def ir(N:Nat):Code->Bool
 | .region _ ops _=>ui N ops
 | .seq a b=>ir N a&&ir N b
 | .cond _ a b=>ir N a&&ir N b
 | .block _ b=>ir N b
 | .loop b=>ir N b
 | .scope b=>ir N b
 | .rangeFunc _ ps a b=>(ps.toList.all fun t=>Nat.blt t N)&&(ir N a&&ir N b)
 |_=>true
theorem RK{Fc:Fence}{n:Nat}{Q:Exit->Act->World->Prop}{c:Code}(J:Nat->Act->World->Prop){j₀:Nat}{a:Act}{w:World}(h₀:J j₀ a w)
 (round:∀ j a w,J j a w->c.wpIn Fc n P (Exit.then (fun a' w'=>∃ j',j'<j/\J j' a' w') Q) a w):(Code.loop c).wpIn Fc n P Q a w:=by
 intro b k cs GJ hb hr
 have key:∀ j a w,J j a w->
  ∃ e a' w',Q e a' w'/\ArrivesIn (Machine.fenced P Fc) P (lone (b.atR a (.code c::.inLoop c::k)) cs w) b k cs e a' w':=by
  intro j
  induction j using Nat.strongRecOn with
  |_ j ih=>
   intro a w hI;obtain⟨e,M,X,hq,C⟩:=round j a w hI b (.inLoop c::k) cs GJ hb hr;cases e with
   |normal=>
    obtain⟨j',af,hI₁⟩:=hq;obtain⟨e₂,a₂,w₂,hq₂,WZ⟩:=ih j' af M X hI₁;exact⟨e₂,a₂,w₂,hq₂,.of_steps (StepsIn.trans C (.one (fenced_calm hb hr rfl) stepR_inLoop)) WZ⟩
   |exit id=>exact⟨_,M,X,hq,.pass (x:=.inLoop c) rfl (fun _ _=>.inl oS) C⟩
   |goto l=>exact⟨_,M,X,hq,.pass (x:=.inLoop c) rfl (fun _ _=>.inl oS) C⟩
   |ret=>exact⟨_,M,X,hq,.pass (x:=.inLoop c) rfl (fun _ _=>.inl oS) C⟩
   |panic ch=>exact⟨_,M,X,hq,.pass (x:=.inLoop c) rfl (fun _ _=>.inl oS) C⟩
   |outgrown=>exact⟨_,M,X,hq,.pass (x:=.inLoop c) rfl (fun _ _=>.inl oS) C⟩
 obtain⟨e,a',w',hq,C⟩:=key _ a w h₀;exact⟨e,a',w',hq,.of_steps (.one (fenced_calm hb hr rfl) stepR_loop) C⟩
def mark(b:Nat):Deferred:={ target:=.collected b,args:= #[] }
def Marks(β:Pla)(w:World)(lo:Nat):List Deferred->Nat->Prop
 |[],_=>True
 |d::ds,hi=>∃ b,d=mark b/\lo<=b/\b<hi/\w.heap[b]? =some (.deferred (some []))/\β.free b/\Marks β w lo ds b
theorem Marks.step{β β':Pla}{w w':World}(hs:Step β w β' w'){lo:Nat}:∀ {ds:List Deferred} {hi:Nat},hi<=w.heap.size->Marks β w lo ds hi->Marks β' w' lo ds hi
 |[],_,_,_=>trivial
 |d::ds,hi,hle,⟨b,h1,h2,h3,h4,h5,h6⟩=>by
  obtain⟨C,J⟩:=hs.imm b oG h5;exact⟨b,h1,h2,h3,C.trans h4,J,Marks.step hs oG h6⟩
theorem Marks.mono{β:Pla}{w:World}{lo hi C:Nat}(h:hi<=C):∀ {ds:List Deferred},Marks β w lo ds hi->Marks β w lo ds C
 |[],_=>trivial
 |_::_,⟨b,h1,h2,h3,h4⟩=>⟨b,h1,h2,oG,h4⟩
theorem Marks.append{β:Pla}{w:World}{lo mid:Nat}(J:lo<=mid){C:List Deferred}:∀ {ds:List Deferred} {hi:Nat},mid<=hi->Marks β w mid ds hi->Marks β w lo C mid->Marks β w lo (ds++C) hi
 |[],_,hle,_,h'=>Marks.mono hle h'
 |_::_,_,_,⟨b,h1,h2,h3,h4,h5,h6⟩,h'=>⟨b,h1,oG,h3,h4,h5,Marks.append J h2 h6 h'⟩
structure m9(N:Nat)(β:Pla)(w:World)(a:Act)(st':St)(β':Pla)(w':World)(a':Act):Prop where
 step:Step β w β' w'
 le:N<=st'.nx
 grow:∀ i,i<N->β i=none->β' i=none
 size:a'.tmps.size=a.tmps.size
 defers:∃ ds,a'.defers=ds++a.defers/\Marks β' w' w.heap.size ds w'.heap.size
theorem fy.Cp{N:Nat}{β β':Pla}{w w':World}{a a':Act}{st':St}(h:fy N β w a st' β' w' a'):m9 N β w a st' β' w' a':=
 ⟨h.step,h.le,h.grow,h.size,[],h.defers,trivial⟩
theorem m9.trans{N:Nat}{β β₁ β₂:Pla}{w w₁ w₂:World}{a C J:Act}{M X:St}(h:m9 N β w a M β₁ w₁ C)(k:m9 M.nx β₁ w₁ C X β₂ w₂ J):m9 N β w a X β₂ w₂ J:=by
 obtain⟨ds,e1,h1⟩:=h.defers;obtain⟨sT,e2,h2⟩:=k.defers
 exact⟨h.step.trans k.step,Nat.le_trans h.le k.le,fun i hi hn=>k.grow i (Nat.lt_of_lt_of_le hi h.le) (h.grow i hi hn),k.size.trans h.size,sT++ds,by rw[e2,e1,List.append_assoc],
  Marks.append h.step.size k.step.size h2 (h1.step k.step (aU _))⟩
theorem m9.since{N:Nat}{β β₁ β₂:Pla}{w w₁ w₂:World}{a C J:Act}{M X:St}(h:m9 N β w a M β₁ w₁ C)(k:fy M.nx β₁ w₁ C X β₂ w₂ J):m9 N β w a X β₂ w₂ J:=h.trans k.Cp
def W0(P:Program)(F:Nat->Prop)(N:Nat)(β:Pla)(w:World)(a:Act)(Q:Exit->St->Prop)(e:Exit)(a':Act)(w':World):Prop:=
 ∃ st' β',Q e st'/\dw P F st' β' w' a'/\m9 N β w a st' β' w' a'
theorem YCall.base{J:Pla}{C:World}{β:Pla}{w:World}(hs:Step J C β w){l:Nat}{args:List D}{m:Mem}{nx:Nat}{K:D->Mem->Nat->Prop}(h:YCall P F J C l args m nx K):YCall P F β w l args m nx K:=
 fun β' w' us M=>h β' w' us (hs.trans M)
theorem free_other{β:Pla}{i:Nat}{p:Option Pl}{b:Nat}(h:β.free b)(hp:∀ q,p=some q->q.blk≠some b):Pla.free (up β i p) b:=fun j q hq=>by
 by_cases hj:j=i
 .subst hj;rw[up_same] at hq;exact hp q hq
 .rw[up_ne _ _ hj] at hq;exact h j q hq
theorem R.pk{β:Pla}{w:World}{l:Nat}(hF:F l)(o:Obj){d:D}{v:Value}(h:R F β w d v):R F β (w.putObj l o) d v:=
 h.gen oS (fun b _ hb hf=>⟨same_of (World.putObj_heap_other fun e=>hb (e▸hF)),hf,hb⟩) fun _ _ _ h=>.inl h
theorem RowR.pk{β:Pla}{w:World}{l:Nat}(hF:F l)(o:Obj){r:Row}{p:Pl}(hp:∀ b,p.blk=some b->b≠l)(h:RowR P F β w r p):RowR P F β (w.putObj l o) r p:=
 h.gen oS (fun b _ hb hf=>⟨same_of (World.putObj_heap_other fun e=>hb (e▸hF)),hf,hb⟩) (fun _ _ _ h=>.inl h) fun b hb=>World.putObj_heap_other (hp b hb)
theorem MSim.pk{m:Mem}{β:Pla}{w:World}{l:Nat}(hF:F l)(o:Obj)(h:MSim P F m β w):MSim P F m β (w.putObj l o):=
 ⟨fun i r hi=>by
  obtain⟨p,hp,hr⟩:=h.row i r hi
  exact⟨p,hp,hr.pk hF o fun b hb e=>h.nf i p b hp hb (e▸hF)⟩,h.inj,fun i p b hp hb=>by simpa using h.lt i p b hp hb,h.nf,fun b hb=>by simpa using h.fb b hb⟩
theorem dw.pk{st:St}{β:Pla}{w:World}{a:Act}{l:Nat}(hF:F l)(o:Obj)(h:dw P F st β w a):dw P F st β (w.putObj l o) a:=
 ⟨fun t=>(h.e t).pk hF o,h.m.pk hF o,h.n⟩
theorem R.weak{F':Nat->Prop}(hF:∀ b,F' b->F b){β:Pla}{w:World}{d:D}{v:Value}(h:R F β w d v):R F' β w d v:=
 h.gen (aU _) (fun b _ hb hf=>⟨SameB.refl w b,hf,fun e=>hb (hF b e)⟩) fun _ _ _ h=>.inl h
theorem MSim.weak{F':Nat->Prop}(hF:∀ b,F' b->F b){m:Mem}{β:Pla}{w:World}(h:MSim P F m β w):MSim P F' m β w:=
 ⟨fun i r hi=>by
  obtain⟨p,hp,hr⟩:=h.row i r hi
  exact⟨p,hp,hr.gen (aU _) (fun b _ hb hf=>⟨SameB.refl w b,hf,fun e=>hb (hF b e)⟩) (fun _ _ _ h=>.inl h) fun _ _=>rfl⟩,h.inj,h.lt,fun i p b hp hb e=>h.nf i p b hp hb (hF b e),fun b hb=>h.fb b (hF b hb)⟩
theorem JB{β:Pla}{b:Nat}(h:¬ β.free b):∃ i p,β i=some p/\p.blk=some b:=by
 unfold Pla.free at h;simp only[Classical.not_forall] at h;obtain⟨i,p,hp,hb⟩:=h;exact⟨i,p,hp,Decidable.not_not.1 hb⟩
structure View(il n₀:Nat)(f:Nat->Option Nat)(mc:Mem)(nc:Nat)(m:Mem)(nx:Nat):Prop where
 low:n₀<=nc
 lt:il<nx
 id:∀ i,i<n₀->f i=some i
 pJ:∀ i,i<nc->∃ j,f i=some j/\j<nx/\j≠il
 out:∀ i,nc<=i->f i=none
 inj:∀ i i' j,f i=some j->f i'=some j->i=i'
 rows:∀ i r,mc i=some r->∃ j,f i=some j/\m j=some (r.renB f)
theorem View.sD{il n₀:Nat}{f:Nat->Option Nat}{mc:Mem}{nc:Nat}{m:Mem}{nx:Nat}(h:View il n₀ f mc nc m nx){i j:Nat}(hf:f i=some j):i<nc/\j<nx/\j≠il:=by
 rcases Nat.lt_or_ge i nc with af|C
 .obtain⟨J,h1,h2,h3⟩:=h.pJ i af;rw[hf] at h1;cases h1;exact⟨af,h2,h3⟩
 .rw[h.out i C] at hf;cases hf
theorem View.ext{il n₀:Nat}{f:Nat->Option Nat}{mc:Mem}{nc:Nat}{m m':Mem}{nx nx':Nat}(h:View il n₀ f mc nc m nx)(C:nx<=nx')(he:∀ i,i<nx->m' i=m i):View il n₀ f mc nc m' nx':=
 ⟨h.low,Nat.lt_of_lt_of_le h.lt C,h.id,fun i hi=>by
  obtain⟨j,h1,h2,h3⟩:=h.pJ i hi;exact⟨j,h1,oG,h3⟩,h.out,h.inj,fun i r hi=>by
  obtain⟨j,h1,h2⟩:=h.rows i r hi
  exact⟨j,h1,(he j (h.sD h1).2.1).trans h2⟩⟩
theorem SY{f:Nat->Option Nat}{m:Mem}{β:Pla}{w:World}(hm:MSim P F m β w){b:Nat}(h:hidden F β f b):b<w.heap.size:=by
 rcases h with h|⟨h,_⟩
 .exact hm.fb b h
 .obtain⟨i,p,hp,hb⟩:=JB h;exact hm.lt i p b hp hb
theorem View.enter{il n₀:Nat}{f:Nat->Option Nat}{mc:Mem}{nc:Nat}{m:Mem}{nx:Nat}(h:View il n₀ f mc nc m nx){β:Pla}{w:World}(hm:MSim P F m β w):
 MSim P (hidden F β f) mc (β.via f) w/\∀ i,nc<=i->(β.via f) i=none:=by
 have look:∀ i p,(β.via f) i=some p->∃ j,f i=some j/\β j=some p:=fun i p hp=>Option.bind_eq_some_iff.1 hp;refine⟨⟨fun i r hi=>?_,fun i i' p q b hp hq e C=>?_,fun i p b hp e=>?_,fun i p b hp e hF=>?_,fun b hb=>SY hm hb⟩,fun i hi=>?_⟩
 .obtain⟨j,h1,h2⟩:=h.rows i r hi;obtain⟨p,hp,hr⟩:=hm.row j _ h2;exact⟨p,by simp[Pla.via,h1,hp],hr.seen⟩
 .obtain⟨j,h1,h2⟩:=look i p hp;obtain⟨J,h3,h4⟩:=look i' q hq;have:=hm.inj j J p q b h2 h4 e C;subst this;exact h.inj i i' j h1 h3
 .obtain⟨j,h1,h2⟩:=look i p hp;exact hm.lt j p b h2 e
 .obtain⟨j,h1,h2⟩:=look i p hp;rcases hF with hF|⟨_,hF⟩
  .exact hm.nf j p b h2 e hF
  .exact hF i p hp e
 .simp[Pla.via,h.out i hi]
theorem MSim.wo{m:Mem}{β:Pla}{w:World}{i l:Nat}{o:Obj}(h:MSim P F m β w)(hm:m i=some (.raw l o)):β i=some (.raw l)/\w.heap[l]? =some o/\¬ F l/\l<w.heap.size:=by
 obtain⟨p,hp,hr⟩:=h.row i _ hm;cases hr with
 |raw _ _ hc=>exact⟨hp,hc,h.nf i _ l hp rfl,h.lt i _ l hp rfl⟩
theorem View.Bd{il n₀:Nat}{f:Nat->Option Nat}{mc:Mem}{nc:Nat}{m:Mem}{nx:Nat}(h:View il n₀ f mc nc m nx){β:Pla}{w:World}(hm:MSim P F m β w){j:Nat}{p:Pl}{b:Nat}(hj:∀ i,f i≠some j)(hp:β j=some p)(hb:p.blk=some b):
 (β.via f).free b/\hidden F β f b:=by
 have C:(β.via f).free b:=fun i q hq e=>by
  obtain⟨J,h1,h2⟩:=Option.bind_eq_some_iff.1 hq;exact hj i (hm.inj J j q p b h2 hp e hb▸h1)
 exact⟨C,.inr ⟨fun e=>e j p hp hb,C⟩⟩
structure pc(l:Nat)(β:Pla)(w:World)(β':Pla)(w':World):Prop where
 size:w.heap.size<=w'.heap.size
 imm:∀ b,b<w.heap.size->b≠l->β.free b->w'.heap[b]? =w.heap[b]? /\β'.free b
 keep:∀ i p,β i=some p->β' i=some p\/β' i=some .dead
 out:Out w w'
theorem Step.x{β β':Pla}{w w':World}(h:Step β w β' w')(l:Nat):pc l β w β' w':=⟨h.size,fun b hb _=>h.imm b hb,h.keep,h.out⟩
theorem pc.trans{l:Nat}{β₁ β₂ β₃:Pla}{J M X:World}(h:pc l β₁ J β₂ M)(k:pc l β₂ M β₃ X):pc l β₁ J β₃ X:=by
 refine⟨Nat.le_trans h.size k.size,fun b hb C hf=>?_,fun i p hp=>?_,h.out.trans k.out⟩
 .obtain⟨h1,h2⟩:=h.imm b hb C hf;obtain⟨k1,k2⟩:=k.imm b (Nat.lt_of_lt_of_le hb h.size) C h2;exact⟨k1.trans h1,k2⟩
 .rcases h.keep i p hp with h1|h1
  .exact k.keep i p h1
  .right;rcases k.keep i _ h1 with h2|h2<;>exact h2
theorem pc.put(l:Nat)(β:Pla)(w:World)(o:Obj):pc l β w β (w.putObj l o):=⟨oS,fun b _ C hf=>⟨World.putObj_heap_other C,hf⟩,fun _ _ h=>.inl h,rfl,rfl⟩
theorem I3{n j:Nat}{f:Nat->Option Nat}(C:∀ i i' j,f i=some j->f i'=some j->i=i'):
 (∀ i,(List.range n).find? (fun i=>f i==some j)=some i->f i=some j/\i<n)/\(∀ i,i<n->f i=some j->(List.range n).find? (fun i=>f i==some j)=some i):=by
 refine⟨fun i hi=>⟨by simpa using List.find?_some hi,by simpa using List.mem_of_find?_eq_some hi⟩,fun i hi hf=>?_⟩;cases h:(List.range n).find? (fun i=>f i==some j) with
 |none=>
  have:=List.find?_eq_none.1 h i (by simpa using hi);simp[hf] at this
 |some k=>rw[C i k j hf (by simpa using List.find?_some h)]
theorem View.W3{il n₀:Nat}{f:Nat->Option Nat}{mc:Mem}{nc:Nat}{m:Mem}{nx:Nat}(h:View il n₀ f mc nc m nx){β:Pla}{w:World}(hm:MSim P F m β w)(hn:∀ i,nx<=i->β i=none){l:Nat}{o o':Obj}(hl:m il=some (.raw l o))
 {m':Mem} {M:Nat} {β':Pla} {w':World} (fE:MSim P (hidden F β f) m' β' w') (hs:pc l (β.via f) w β' w') (dp:∀ i,M<=i->β' i=none) (hle:nc<=M) (hg:∀ i,i<nc->(β.via f) i=none->β' i=none) (ho:w'.heap[l]? =some o'):
 ∃ C X mT J,View il n₀ C m' M X mT/\X il=some (.raw l o')/\MSim P F X J w'/\(∀ i,mT<=i->J i=none)/\Step β w J w'/\nx<=mT/\∀ i,i<nx->β i=none->J i=none:=by
 obtain⟨GK,qP,GL,af⟩:=hm.wo hl
 let C:Nat->Option Nat:=fun i=>if i<nc then f i else if i<M then some (nx+(i - nc)) else none
 have ze:∀ i,i<nc->C i=f i:=fun i hi=>by simp[C,hi]
 have E5:∀ i,nc<=i->i<M->C i=some (nx+(i - nc)):=fun i h1 h2=>by simp[C,h2,Nat.not_lt.2 h1]
 have Mx:∀ i,M<=i->C i=none:=fun i h1=>by simp[C,Nat.not_lt.2 h1,Nat.not_lt.2 (Nat.le_trans hle h1)]
 have tQ:∀ i j,C i=some j->(f i=some j/\i<nc/\j<nx)\/(nc<=i/\i<M/\j=nx+(i - nc)):=fun i j hf=>by
  rcases Nat.lt_or_ge i nc with h1|h1
  .rw[ze i h1] at hf;exact .inl ⟨hf,h.sD hf |>.1,(h.sD hf).2.1⟩
  .rcases Nat.lt_or_ge i M with h2|h2
   .rw[E5 i h1 h2] at hf;cases hf;exact .inr ⟨h1,h2,rfl⟩
   .rw[Mx i h2] at hf;cases hf
 have E6:∀ i i' j,C i=some j->C i'=some j->i=i':=fun i i' j h1 h2=>by
  rcases tQ i j h1 with⟨a1,a2,a3⟩|⟨a1,a2,a3⟩<;>rcases tQ i' j h2 with⟨b1,b2,b3⟩|⟨b1,b2,b3⟩
  .exact h.inj i i' j a1 b1
  .omega
  .omega
  .omega
 let inv:Nat->Option Nat:=fun j=>(List.range M).find? fun i=>C i==some j
 have uu:∀ i j,inv j=some i->C i=some j:=fun i j hi=>((I3 E6).1 i hi).1;have FU:∀ i j,C i=some j->inv j=some i:=fun i j hf=>(I3 E6).2 i (by rcases tQ i j hf with h1|h1<;>omega) hf
 have Zy:∀ j,inv j=none->∀ i,f i≠some j:=fun j hj i hf=>by
  have:=FU i j (by rw[ze i (h.sD hf).1];exact hf);rw[hj] at this;cases this
 let J:Pla:=fun j=>match inv j with|some i=>β' i|none=>β j
 let X:Mem:=fun j=>match inv j with|some i=>(m' i).map (Row.renB C)|none=>if j=il then some (.raw l o') else m j
 have βs:∀ i j,C i=some j->J j=β' i:=fun i j hf=>by simp[J,FU i j hf]
 have βn:∀ j,inv j=none->J j=β j:=fun j hj=>by simp[J,hj]
 have V0:inv il=none:=by
  cases hi:inv il with
  |none=>rfl
  |some i=>
   rcases tQ i il (uu i il hi) with⟨a1,a2,a3⟩|⟨a1,a2,a3⟩
   .exact absurd rfl (h.sD a1).2.2
   .have:=h.lt;omega
 have via:J.via C=β':=by
  funext i;simp only[Pla.via];cases hf:C i with
  |some j=>exact βs i j hf
  |none=>
   rcases Nat.lt_or_ge i M with h1|h1
   .rcases Nat.lt_or_ge i nc with h2|h2
    .obtain⟨j,h3,_⟩:=h.pJ i h2;rw[ze i h2,h3] at hf;cases hf
    .rw[E5 i h2 h1] at hf;cases hf
   .exact(dp i h1).symm
 have look:∀ j p,J j=some p->(∃ i,inv j=some i/\C i=some j/\β' i=some p)\/(inv j=none/\β j=some p):=fun j p hp=>by
  cases hi:inv j with
  |some i=>exact .inl ⟨i,rfl,uu i j hi,by rw[<- βs i j (uu i j hi)];exact hp⟩
  |none=>exact .inr ⟨rfl,by rw[<- βn j hi];exact hp⟩
 have Zz:∀ b,β.free b->b≠l:=fun b hb e=>hb il _ GK (e▸rfl)
 have imm:∀ b,b<w.heap.size->β.free b->w'.heap[b]? =w.heap[b]? /\J.free b:=fun b hb hf=>by
  obtain⟨h1,h2⟩:=hs.imm b hb (Zz b hf) (Pla.free_via hf f);refine⟨h1,fun j p hp=>?_⟩;rcases look j p hp with⟨i,_,_,h4⟩|⟨_,h4⟩
  .exact h2 i p h4
  .exact hf j p h4
 have keep:∀ j p,β j=some p->J j=some p\/J j=some .dead:=fun j p hp=>by
  cases hi:inv j with
  |none=>exact .inl ((βn j hi).trans hp)
  |some i=>
   have hf:=uu i j hi;rw[βs i j hf];rcases tQ i j hf with⟨a1,a2,a3⟩|⟨a1,a2,a3⟩
   .exact hs.keep i p (by simp[Pla.via,a1,hp])
   .rw[hn j oG] at hp;cases hp
 have own:∀ j p b,inv j=none->β j=some p->p.blk=some b->hidden F β f b/\(b≠l->b<w.heap.size/\w'.heap[b]? =w.heap[b]?):=fun j p b hj hp hb=>by
  obtain⟨h1,h2⟩:=h.Bd hm (Zy j hj) hp hb;exact⟨h2,fun ap=>⟨hm.lt j p b hp hb,(hs.imm b (hm.lt j p b hp hb) ap h1).1⟩⟩
 refine⟨C,X,nx+(M - nc),J,⟨Nat.le_trans h.low hle,by have:=h.lt;omega,fun i hi=>?_,fun i hi=>?_,Mx,E6,fun i r hi=>?_⟩,?_,⟨fun j r hj=>?_,fun i j p q b hp hq e e'=>?_,fun j p b hp e=>?_,fun j p b hp e hF=>?_,fun b hb=>?_⟩,fun i hi=>?_,⟨hs.size,imm,keep,hs.out⟩,oG,fun i hi hb=>?_⟩
 .rw[ze i (Nat.lt_of_lt_of_le hi h.low)];exact h.id i hi
 .rcases Nat.lt_or_ge i nc with h1|h1
  .obtain⟨j,h2,h3,h4⟩:=h.pJ i h1;exact⟨j,by rw[ze i h1];exact h2,oG,h4⟩
  .exact⟨_,E5 i h1 hi,oG,by have:=h.lt;omega⟩
 .obtain⟨p,hp,_⟩:=fE.row i r hi
  have:∃ j,C i=some j:=by
   rw[<- via] at hp;obtain⟨j,h1,_⟩:=Option.bind_eq_some_iff.1 hp;exact⟨j,h1⟩
  obtain⟨j,hj⟩:=this;exact⟨j,hj,by simp[X,FU i j hj,hi]⟩
 .simp[X,V0]
 .cases hi:inv j with
  |some i=>
   simp only[X,hi,bY] at hj;obtain⟨r0,Cq,rfl⟩:=hj;obtain⟨p,hp,hr⟩:=fE.row i r0 Cq;refine⟨p,(βs i j (uu i j hi)).trans hp,RowR.hide (F':=hidden F β f) (by rw[via];exact hr) (fun b hb=>.inl hb) fun b g1 g2=>?_⟩;obtain⟨k,q,hq,Qc⟩:=JB g1;rcases look k q hq with⟨i',_,_,h4⟩|⟨h3,h4⟩
   .exact absurd Qc (g2 i' q (by rw[via];exact h4))
   .exact(own k q b h3 h4 Qc).1
  |none=>
   simp only[X,hi] at hj;split at hj
   .rename_i e;subst e;cases hj;exact⟨.raw l,(βn j hi).trans GK,.raw l o' ho⟩
   .rename_i ap;obtain⟨p,hp,hr⟩:=hm.row j r hj;refine⟨p,(βn j hi).trans hp,hr.gen hs.size (fun b hb g1 g2=>⟨same_of (imm b hb g2).1,(imm b hb g2).2,g1⟩) (fun i p _=>keep i p) fun b hb=>?_⟩;exact((own j p b hi hp hb).2 fun e=>ap (hm.inj j il p _ b hp GK hb (e▸rfl))).2
 .rcases look i p hp with⟨i',a1,a2,a3⟩|⟨a1,a2⟩<;>rcases look j q hq with⟨j',b1,b2,b3⟩|⟨b1,b2⟩
  .have:=fE.inj i' j' p q b a3 b3 e e';subst this;rw[a2] at b2;cases b2;rfl
  .exact absurd (own j q b b1 b2 e').1 (fE.nf i' p b a3 e)
  .exact absurd (own i p b a1 a2 e).1 (fE.nf j' q b b3 e')
  .exact hm.inj i j p q b a2 b2 e e'
 .rcases look j p hp with⟨i',a1,a2,a3⟩|⟨a1,a2⟩
  .exact fE.lt i' p b a3 e
  .exact Nat.lt_of_lt_of_le (hm.lt j p b a2 e) hs.size
 .rcases look j p hp with⟨i',a1,a2,a3⟩|⟨a1,a2⟩
  .exact fE.nf i' p b a3 e (.inl hF)
  .exact hm.nf j p b a2 e hF
 .exact Nat.lt_of_lt_of_le (hm.fb b hb) hs.size
 .cases cT:inv i with
  |none=>exact(βn i cT).trans (hn i oG)
  |some i0=>
   rcases tQ i0 i (uu i0 i cT) with⟨a1,a2,a3⟩|⟨a1,a2,a3⟩<;>omega
 .cases cT:inv i with
  |none=>exact(βn i cT).trans hb
  |some i0=>
   have hf:=uu i0 i cT;rw[βs i0 i hf];rcases tQ i0 i hf with⟨a1,a2,a3⟩|⟨a1,a2,a3⟩
   .exact hg i0 a2 (by simp[Pla.via,a1,hb])
   .omega
theorem IG{β:Pla}{w:World}:∀ (ts:List Tmp) (ds:List D) (vs:List Value) (env:Env) (tmps:Array Value),vs.length=ds.length->(∀ (k:Nat) (d:D) (v:Value),ds[k]? =some d->vs[k]? =some v->R F β w d v)->
 (∀ t,t∈ts->t<tmps.size)->ESim F β w env { tmps:=tmps,defers:=[] }->
 ESim F β w (setAll env ts ds) { tmps:=(ts.zip vs).foldl (fun tmps (t,a)=>tmps.setIfInBounds t a) tmps,defers:=[] }/\((ts.zip vs).foldl (fun tmps (t,a)=>tmps.setIfInBounds t a) tmps).size=tmps.size
 |[],_,_,env,tmps,_,_,_,h=>by simpa[setAll] using h
 |_::_,[],[],env,tmps,_,_,_,h=>by simpa[setAll] using h
 |_::_,[],_::_,_,_,hl,_,_,_=>by simp at hl
 |_::_,_::_,[],_,_,hl,_,_,_=>by simp at hl
 |t::ts,d::ds,v::vs,env,tmps,hl,hR,af,h=>by
  have h1:ESim F β w (up env t d) { tmps:=tmps.setIfInBounds t v,defers:=[] }:=by
   have:=h.put (some t) d v (hR 0 d v rfl rfl) (fun u C=>by cases C;exact af t oS);simpa[Act.put,up] using this
  have:=IG ts ds vs (up env t d) (tmps.setIfInBounds t v) (by simpa using hl) (fun k d v hd hv=>hR (k+1) d v (by simpa using hd) (by simpa using hv)) (fun u C=>by simpa using af u (by simp[C])) h1;simp only[setAll,List.zip_cons_cons,List.foldl_cons];exact⟨this.1,by rw[this.2];simp⟩
theorem xO{c:Code}{b:Frame}{a:Act}{k:List Item}{cs:List Frame}{w:World}:step P (lone (b.atR a (.code (.scope c)::k)) cs w)=.next (lone (b.atR a (.code c::.inScope c::k)) cs w):=
 step_lone_go (by simp[stepG,stepG.exec,Frame.atR])
theorem RM{c:Code}{b:Frame}{a:Act}{k:List Item}{cs:List Frame}{w:World}:step P (lone (b.atR a (.inScope c::k)) cs w)=.next (lone (b.atR a k) cs w):=
 step_lone_go (by simp[stepG,stepG.exec,Frame.atR])
theorem AH{I:Machine->Prop}{m:Machine}{b:Frame}{c:Code}{k:List Item}{cs:List Frame}{e:Exit}{a:Act}{w:World}
 (hn:e≠ .normal) (hg:∀ l,e≠ .goto l) (h:ArrivesIn I P m b (.inScope c::k) cs e a w):ArrivesIn I P m b k cs e a w:=by
 cases e with
 |normal=>exact absurd rfl hn
 |exit id=>exact⟨fun C hk=>h.1 C (by simp[exitTo,hk]),fun hr hk=>h.2 hr (by simp[exitTo,hk])⟩
 |goto l=>exact absurd rfl (hg l)
 |ret=>exact h
 |panic chain=>exact h
 |outgrown=>exact h
theorem Sf{X:Fence}{n:Nat}{Q:Exit->Act->World->Prop}{a:Act}{w:World}{c:Code}(h:c.wpIn X n P (Exit.noGoto Q) a w):(Code.scope c).wpIn X n P Q a w:=by
 intro b k cs GJ hb hr;have h0:(lone (b.atR a (.code (.scope c)::k)) cs w).fenced P X:=fenced_calm hb hr rfl;obtain⟨e,C,M,hq,J⟩:=h b (.inScope c::k) cs GJ hb hr;cases e with
 |normal=>exact⟨.normal,C,M,hq,.head h0 xO (StepsIn.trans J (.one (fenced_calm hb hr rfl) RM))⟩
 |goto l=>exact hq.elim
 |exit id=>exact⟨.exit id,C,M,hq,.of_steps (.one h0 xO) (AH (c:=c) oS oS J)⟩
 |ret=>exact⟨.ret,C,M,hq,.of_steps (.one h0 xO) (AH (c:=c) oS oS J)⟩
 |panic ch=>exact⟨.panic ch,C,M,hq,.of_steps (.one h0 xO) (AH (c:=c) oS oS J)⟩
 |outgrown=>exact⟨.outgrown,C,M,hq,.of_steps (.one h0 xO) (AH (c:=c) oS oS J)⟩
def Jump(env:Env)(Q:Exit->St->Prop):Code->Mem->Nat->Prop
 | .ret,m,nx=>Q .ret ⟨env,m,nx⟩
 | .exit id,m,nx=>Q (.exit id) ⟨env,m,nx⟩
 |_,_,_=>False
def v9(il l:Nat)(n₀:Nat)(o:Obj)(I:Mem->Nat->Prop)(m:Mem)(nx:Nat):Prop:=∃ f mc nc,View il n₀ f mc nc m nx/\m il=some (.raw l o)/\I mc nc
theorem v9.closed{il l n₀:Nat}{o:Obj}{I:Mem->Nat->Prop}:Closed (v9 il l n₀ o I):=by
 rintro m nx m' nx' ⟨f,mc,nc,h1,h2,h3⟩ C he;exact⟨f,mc,nc,h1.ext C he,(he il h1.lt).trans h2,h3⟩
theorem SZ(ps:Array Tmp)(us:Array Value)(tmps:Array Value):
 (ps.zip us).foldl (fun tmps (t,a)=>tmps.setIfInBounds t a) tmps=(ps.toList.zip us.toList).foldl (fun tmps (t,a)=>tmps.setIfInBounds t a) tmps:=by
 rw[<- Array.foldl_toList];simp
theorem RN{β:Pla}{w:World}{a:Act}{g:Operand}{f:FuncId}{fs cs:List D}(hR:R F β w (.fn (.func f) fs cs) (a.eval g))(he:enterOk P f=true)(l:Nat)(w':World):
 ∃ (us vs:List Value) (d:Deferred),us.length=fs.length/\vs.length=cs.length/\(∀ (k:Nat) (d:D) (v:Value),fs[k]? =some d->us[k]? =some v->R F β w d v)/\(∀ (k:Nat) (d:D) (v:Value),cs[k]? =some d->vs[k]? =some v->R F β w d v)/\
  (resolve a.eval (rangeCall g l) 0).run P w'=.ok d w'/\(invoke d.target d.args).run P w'=.ok (.enter f (us.toArray++ #[.func (.yield l) #[] #[]]++vs.toArray)) w':=by
 generalize hv:a.eval g=v at hR;cases hR with
 |fn _ _ _ us vs hl jB J C=>
 refine⟨us,vs,{ target:=.fn (.func f) vs.toArray,args:=us.toArray++ #[.func (.yield l) #[] #[]] },hl,jB,J,C,?_,?_⟩
 .simp only[resolve,hv,Sem.run_bind,Deferred.ofValue];simp[go_sem]
 .simp only[invoke];unfold callFunc;unfold enterOk at he;simp only[Sem.run_bind,run_program,Result.andThen_ok];split at he
  .rename_i fn M;simp only[aG,Bool.not_eq_true'] at he
   have hb:fn.body.isNone=false:=by
    cases X:fn.body<;>simp_all
   rw[M];simp only[he.1,hb,Bool.false_eq_true,if_false,Sem.run_pure]
  .cases he
theorem Rs.append{β:Pla}{w:World}{aS bs:List D}{xs ys:Array Value}(h:Rs F β w aS xs)(k:Rs F β w bs ys):Rs F β w (aS++bs) (xs++ys):=by
 refine⟨by simp[h.1,k.1],fun j d v hd hv=>?_⟩;rcases Nat.lt_or_ge j aS.length with hj|hj
 .rw[List.getElem?_append_left hj] at hd;rw[Array.getElem?_append_left (by rw[h.1];exact hj)] at hv;exact h.2 j d v hd hv
 .rw[List.getElem?_append_right hj] at hd;rw[Array.getElem?_append_right (by rw[h.1];exact hj),h.1] at hv;exact k.2 _ d v hd hv
theorem TX(jx:P.follows .mixedOrders=true):∀ (c:Code) (F:Nat->Prop) (r:Option Nat) (n:Nat) (Y:YSpec) (rf:Bool) (N₀:Nat) (β₀:Pla) (w₀:World) (a₀:Act),(rf=true->r=none)->
 (∀ l args m nx K,Y l args m nx K->YCall P F β₀ w₀ l args m nx K)->ir a₀.tmps.size c=true->∀ (Q:Exit->St->Prop) (st:St) (β:Pla) (w:World) (a:Act),
 AW P Y rf c Q st->dw P F st β w a->m9 N₀ β₀ w₀ a₀ st β w a->c.wpIn (Fe r) n P (W0 P F N₀ β₀ w₀ a₀ Q) a w:=by
 intro c
 induction c with
 |skip=>exact fun F r n Y rf N₀ β₀ w₀ a₀ X hY _ Q st β w a h hs J=>wpIn_skip ⟨st,β,h,hs,J⟩
 |ret=>exact fun F r n Y rf N₀ β₀ w₀ a₀ X hY _ Q st β w a h hs J=>wpIn_ret ⟨st,β,h,hs,J⟩
 |exit id=>exact fun F r n Y rf N₀ β₀ w₀ a₀ X hY _ Q st β w a h hs J=>wpIn_exit ⟨st,β,h,hs,J⟩
 |label l=>exact fun F r n Y rf N₀ β₀ w₀ a₀ X hY _ Q st β w a h hs J=>wpIn_label ⟨st,β,h,hs,J⟩
 |region id ops draw=>
  intro F r n Y rf N₀ β₀ w₀ a₀ X hY af Q st β w a h hs J;have uv:ui a.tmps.size ops=true:=by rw[J.size];exact af
  cases draw with
  |false=>
   refine wpIn_mono (R3 (N:=st.nx) (β₀:=β) (w₀:=w) (a₀:=a) (fun l args m nx K hy=>(hY l args m nx K hy).base J.step) uv h hs (fy.refl st β w a)) fun e a' w' hp=>?_;obtain⟨st',β',hq,dc,eS⟩:=hp;exact⟨st',β',hq,dc,J.since eS⟩
  |true=>
   simp only[AW] at h;split at h
   .rename_i cf mg;refine wpIn_mono (R4 (N₀:=st.nx) (β₀:=β) (w₀:=w) (a₀:=a) jx mg uv h hs (fy.refl st β w a)) fun e a' w' hp=>?_;obtain⟨st',β',hq,dc,eS⟩:=hp;exact⟨st',β',hq,dc,J.since eS⟩
   .exact h.elim
 |seq x y Cr Cs=>
  intro F r n Y rf N₀ β₀ w₀ a₀ X hY af Q st β w a h hs J;simp only[ir,aG] at af;refine wpIn_seq (wpIn_mono (Cr F r n Y rf N₀ β₀ w₀ a₀ X hY af.1 _ st β w a h hs J) fun e a' w' hp=>?_);obtain⟨st',β',hq,dc,eS⟩:=hp;cases e with
  |normal=>
   obtain⟨gn,hg,hy⟩:=hq;obtain⟨gP,uw,E7⟩:=Ix hg dc;exact Cs F r n Y rf N₀ β₀ w₀ a₀ X hY af.2 Q gn gP w' a' hy uw (eS.since E7)
  |_=>exact⟨st',β',hq,dc,eS⟩
 |cond c x y Cr Cs=>
  intro F r n Y rf N₀ β₀ w₀ a₀ X hY af Q st β w a h hs J;simp only[ir,aG] at af;obtain⟨ha,h⟩:=h;have hR:=(hs.e.opd c).core_of _ ha;split at h
  .rename_i t ht;rw[ht] at hR;exact wpIn_cond_split hR.s_inv.1 (fun e=>Cr F r n Y rf N₀ β₀ w₀ a₀ X hY af.1 Q st β w a (h.1 e) hs J) fun e=>Cs F r n Y rf N₀ β₀ w₀ a₀ X hY af.2 Q st β w a (h.2 e) hs J
  .rename_i ht;rw[ht] at hR;obtain⟨b,hb⟩:=hR.ub_inv;exact wpIn_cond_split hb (fun _=>Cr F r n Y rf N₀ β₀ w₀ a₀ X hY af.1 Q st β w a h.1 hs J) fun _=>Cs F r n Y rf N₀ β₀ w₀ a₀ X hY af.2 Q st β w a h.2 hs J
  .exact h.elim
 |scope b ih=>
  intro F r n Y rf N₀ β₀ w₀ a₀ X hY af Q st β w a h hs J;refine Sf (wpIn_mono (ih F r n Y rf N₀ β₀ w₀ a₀ X hY af _ st β w a h hs J) fun e a' w' hp=>?_);obtain⟨st',β',hq,dc,eS⟩:=hp;cases e with
  |goto l=>exact hq.elim
  |_=>exact⟨st',β',hq,dc,eS⟩
 |block id b ih=>
  intro F r n Y rf N₀ β₀ w₀ a₀ X hY af Q st β w a h hs J;refine wpIn_block (wpIn_mono (ih F r n Y rf N₀ β₀ w₀ a₀ X hY af _ st β w a h hs J) fun e a' w' hp=>?_);obtain⟨st',β',hq,dc,eS⟩:=hp;cases e with
  |exit i=>
   simp only[blockQ] at hq;simp only[Exit.inBlock];split at hq
   .rename_i hi;rw[if_pos hi];exact⟨st',β',hq,dc,eS⟩
   .rename_i hi;rw[if_neg hi];exact⟨st',β',hq,dc,eS⟩
  |_=>exact⟨st',β',hq,dc,eS⟩
 |loop b ih=>
  intro F r n Y rf N₀ β₀ w₀ a₀ X hY af Q st β w a h hs J;obtain⟨I,μ,hI,wa⟩:=h;refine RK (fun j a w=>∃ st β,I st/\μ st=j/\dw P F st β w a/\m9 N₀ β₀ w₀ a₀ st β w a) ⟨st,β,hI,rfl,hs,J⟩ ?_;rintro j a w ⟨st,β,hI,hμ,hs,J⟩;refine wpIn_mono (ih F r n Y rf N₀ β₀ w₀ a₀ X hY af _ st β w a (wa st hI) hs J) fun e a' w' hp=>?_;obtain⟨st',β',hq,dc,eS⟩:=hp;cases e with
  |normal=>
   obtain⟨ia,hg,mh,ae0⟩:=hq;obtain⟨gP,uw,E7⟩:=Ix hg dc;exact⟨μ ia,oG,ia,gP,mh,rfl,uw,eS.since E7⟩
  |_=>exact⟨st',β',hq,dc,eS⟩
 |rangeFunc g ps assign body sW sX=>
  intro F r n Y rf N₀ β₀ w₀ a₀ X hY af Q st β w a h hs J;obtain⟨env,mem,nx⟩:=st;obtain⟨FV,lx,f,fs,cs,xs,I,wq,BY,BD,Ct,wa,jm⟩:=h;simp only at lx wq Ct wa jm;have hr:=X FV;subst hr;simp only[ir,aG,bh,Nat.blt_eq] at af;obtain⟨uH,ZA,ZB⟩:=af;have bt:a.tmps.size=a₀.tmps.size:=J.size;have hR:=(hs.e.opd g).core_of _ lx;simp only[wq] at hR;refine wpIn_rangeFunc fun fn kN=>?_;obtain⟨C,qy⟩:∃ C:LoopState->Option Code->Loop,C=fun st pe=>{ state:=st,pending:=pe,fn,tmps:=a.tmps,params:=ps,assign,body,defers:=w.heap.size }:=⟨_,rfl⟩
  obtain⟨W1,zP⟩:∃ W1,(w.alloc (.deferred (some []))).alloc (.loop (C .ready none))=W1:=⟨_,rfl⟩
  obtain⟨us,vs,d,GM,pK,hu,hv,eh,hinv⟩:=RN (P:=P) hR BY.1 (w.heap.size+1) W1;have hn:∀ i,nx<=i->β i=none:=hs.n;have GL:¬ F (w.heap.size+1):=fun e=>by have:=hs.m.fb _ e;omega
  let f₀:Nat->Option Nat:=fun i=>if i<nx then some i else none
  have Oj:β.via f₀=β:=by
   funext i;simp only[Pla.via,f₀];split
   .rfl
   .exact(hn i oG).symm
  have uI:MSim P F (fun i=>(mem i).map (Row.renB f₀)) β w:=⟨fun i r hi=>by
   simp only[bY] at hi;obtain⟨r0,h1,rfl⟩:=hi;obtain⟨p,hp,hr⟩:=hs.m.row i r0 h1
   exact⟨p,hp,RowR.hide (F':=F) (by rw[Oj];exact hr) (fun _ h=>h) fun b g1 g2=>absurd (Oj▸g2) g1⟩,hs.m.inj,hs.m.lt,hs.m.nf,hs.m.fb⟩
  have Cu:Step β w β (w.alloc (.deferred (some []))):=step_ext oS fun b hb=>heap_alloc_old w _ hb;have qQ:MSim P F (fun i=>(mem i).map (Row.renB f₀)) β (w.alloc (.deferred (some []))):=uI.ext oS fun b hb=>heap_alloc_old w _ hb
  have GN:MSim P F (up (fun i=>(mem i).map (Row.renB f₀)) nx (some (.raw (w.heap.size+1) (.loop (C .ready none))))) (up β nx (some (.raw (w.heap.size+1)))) W1:=by
   rw[<- zP];refine qQ.alloc (hn nx (aU _)) _ _ _ (fun b hb=>by simp only[Pl.blk,ay] at hb;simp;omega) (.raw _ _ ?_);have:=World.alloc_heap_new (w.alloc (.deferred (some []))) (.loop (C .ready none))
   rwa[World.size_alloc] at this
  have sY:Step β w (up β nx (some (.raw (w.heap.size+1)))) W1:=by
   rw[<- zP];exact Cu.trans (step_alloc qQ _ (hn nx (aU _)) _ (fun b hb=>by simp only[Pl.blk,ay] at hb;simp;omega))
  have hD1:W1.heap[w.heap.size]? =some (.deferred (some [])):=by
   rw[<- zP];rw[heap_alloc_old _ _ oS];exact World.alloc_heap_new w _
  have Lt:Pla.free (up β nx (some (.raw (w.heap.size+1)))) w.heap.size:=
   free_other (fun i p hp e=>by have:=hs.m.lt i p _ hp e;omega) (by rintro q hq;cases hq;simp[Pl.blk])
  have ae1:W1.heap.size=w.heap.size+2:=by rw[<- zP];simp
  have U3:∀ i,nx<=i->mem i=none:=fun i hi=>by
   cases hm:mem i with
   |none=>rfl
   |some row=>
    obtain⟨p,hp,_⟩:=hs.m.row i row hm;rw[hn i hi] at hp;cases hp
  have own:∀ {f:Nat->Option Nat} {mc:Mem} {nc:Nat} {m:Mem} {bx:Nat} {β2:Pla} {w2:World},View nx nx f mc nc m bx->Step (up β nx (some (.raw (w.heap.size+1)))) W1 β2 w2->
   ∀ {d:D} {v:Value},R F β w d v->R (hidden F β2 f) (β2.via f) w2 d v:=fun {_ _ _ _ _ _ _} M aA {d v} h=>by
   have FW:=sY.trans aA;refine h.gen FW.size (fun b hb hf jU=>?_) fun i p _ hp=>?_
   .obtain⟨g1,g2⟩:=FW.imm b hb jU;exact⟨same_of g1,Pla.free_via g2 _,fun e=>e.elim hf fun e=>e.1 g2⟩
   .have hi:i<nx:=by
     rcases Nat.lt_or_ge i nx with h1|h1
     .exact h1
     .rw[hn i h1] at hp;cases hp
    simp only[Pla.via,M.id i hi,Option.bind_some];exact FW.keep i p hp
  refine⟨w.heap.size+1,[mark w.heap.size],W1,d,W1,f,_,W1,?_,eh,fun f' _=>trivial,hinv,fun hd=>by simp at hd,JC ?_⟩
  .rw[<- zP,qy];exact run_enterLoop_outer _ _ _ _ _
  refine(BY.2 F (w.heap.size+1) (fun k=>v9 nx (w.heap.size+1) nx (.loop (C .ready none)) (I k)) (fun m k=>∃ c,v9 nx (w.heap.size+1) nx (.loop (C .done (some c))) (Jump env Q c) m k)
   (up (fun i=>(mem i).map (Row.renB f₀)) nx (some (.raw (w.heap.size+1) (.loop (C .ready none))))) (nx+1) (up β nx (some (.raw (w.heap.size+1)))) W1 _ (fun k=>v9.closed) ?_ GN ?_ ?_ ?_ ?_).mono ?_
  .rintro m k m' k' ⟨c,hc⟩ hle he;exact⟨c,v9.closed m k m' k' hc hle he⟩
  .intro i hi;rw[up_ne _ _ (show i≠nx by omega)];exact hn i oG
  .refine Rs.append (Rs.append ?_ ?_) ?_
   .exact⟨by simp[GM],fun k d v hd hv=>(hu k d v hd (by simpa using hv)).step sY⟩
   .refine⟨rfl,fun k d v hd hv=>?_⟩;cases k with
    |zero=>
     simp only[List.getElem?_cons_zero,ay] at hd;simp only[List.getElem?_toArray,List.getElem?_cons_zero,ay] at hv;subst hd;subst hv;exact .fn _ [] [] [] [] rfl rfl oS oS
    |succ k=>simp at hd
   .exact⟨by simp[pK],fun k d v hd GO=>(hv k d v hd (by simpa using GO)).step sY⟩
  .rintro k x m k' hx ⟨g,mc,nc,M,fg,hIk⟩ β2 w2 Cv ZC iS Qd zQ;obtain⟨Qe,wu,_,FX⟩:=iS.wo fg;have ZD:Cv.size=ps.size:=by rw[zQ.1];exact(BD x (bJ hx)).1
   have hy:=run_yield (P:=P) (args:=Cv) wu (by rw[qy];exact ZD);simp only[qy,SZ] at hy;refine⟨fn,_,assign,body,hy,fun n'=>?_⟩;obtain⟨GP,iT⟩:=M.enter iS;have zR:hidden F β2 g (w.heap.size+1):=(M.Bd iS (fun i e=>(M.sD e).2.2 rfl) Qe rfl).2;have Lu:(β2.via g).free (w.heap.size+1):=(M.Bd iS (fun i e=>(M.sD e).2.2 rfl) Qe rfl).1;have hE2:ESim (hidden F β2 g) (β2.via g) w2 env { tmps:=a.tmps,defers:=[] }:=fun t=>own M ZC (hs.e t)
   obtain⟨hE3,Ol⟩:=IG ps.toList x Cv.toList env a.tmps (by simp[zQ.1]) (fun j d v hd hv=>
    ((BD x (bJ hx)).2 d (bJ hd) F β2 w2 v (zQ.2 j d v hd (by simpa using hv))).gen (aU _)
     (fun b _ hb _=>⟨SameB.refl _ b,Pla.free_via (owned_free hb).2 _,fun e=>e.elim (owned_free hb).1 fun e=>e.1 (owned_free hb).2⟩) (fun i p _ hp=>by cases hp)) (fun t ht=>by rw[bt];exact uH t ht) hE2
   have ZE:=sW (hidden F β2 g) (some (w.heap.size+1)) n' noY false nc (β2.via g) w2
    { tmps:=(ps.toList.zip Cv.toList).foldl (fun tmps (t,a)=>tmps.setIfInBounds t a) a.tmps,defers:=[] } oS (fun _ _ _ _ _ h=>h.elim) (by show ir (Array.size _) assign=true;rw[Ol,bt];exact ZA) _ ⟨setAll env ps.toList x,mc,nc⟩ (β2.via g) w2 _
    (wa k mc nc x hx hIk) ⟨hE3,GP,iT⟩ (fy.refl ⟨setAll env ps.toList x,mc,nc⟩ _ _ _).Cp
   refine roundIn_of_wpIn trivial (wpIn_mono ZE fun e a3 w3 hp=>?_);obtain⟨ia,β3,Qf,Cw,sZ⟩:=hp;cases e with
   |normal=>
    have E8:w.heap.size+1<w3.heap.size:=Nat.lt_of_lt_of_le FX sZ.step.size;have W4:w3.heap[w.heap.size+1]? =some (.loop (C .ready none)):=(sZ.step.imm _ FX Lu).1.trans wu;refine⟨_,run_beginRound W4 (by rw[qy]),?_⟩;have ZF:=Cw.pk (l:=w.heap.size+1) zR (.loop { C .ready none with state:=.busy });have W5:=sX (hidden F β2 g) (some (w.heap.size+1)) n' noY false ia.nx β3 _ a3 oS (fun _ _ _ _ _ h=>h.elim) (by rw[sZ.size];show ir (Array.size _) body=true;rw[Ol,bt];exact ZB) _ ia β3 _ a3 Qf ZF (fy.refl ia _ _ _).Cp;refine wpIn_mono W5 fun e a4 w4 hp4=>?_;obtain⟨Qg,β4,Cx,Qh,zS⟩:=hp4;have W6:w.heap.size+1<w4.heap.size:=Nat.lt_of_lt_of_le (by simpa using E8) zS.step.size
    have W7:w4.heap[w.heap.size+1]? =some (.loop { C .ready none with state:=.busy }):=
     (zS.step.imm _ (by simpa using E8) (sZ.step.imm _ FX Lu).2).1.trans (World.putObj_heap_same E8)
    have fin:∀ (jump:Option Code) (K:D->Mem->Nat->Prop),(∀ f' iy mT,View nx nx f' Qg.mem Qg.nx iy mT->iy nx=some (.raw (w.heap.size+1) (.loop (C (if jump.isNone then .ready else .done) jump)))->K (.s (.bool jump.isNone)) iy mT)->
     ∃ v w',(Instr.endRound (w.heap.size+1) jump).run P w4=.ok v w'/\∃ v' d m' nx' β',Ending.returned v=.returned v'/\K d m' nx'/\MSim P F m' β' w'/\(∀ i,nx'<=i->β' i=none)/\R F β' w' d v'/\Step β2 w2 β' w'/\k'<=nx'/\∀ i,i<k'->β2 i=none->β' i=none:=fun jump K hK=>by
     have dU:=run_endRound (P:=P) jump W7;have e1:∀ s p,({ ({ C .ready none with state:=.busy }:Loop) with state:=s,pending:=p }:Loop)=C s p:=fun s p=>by rw[qy]
     rw[e1] at dU
     obtain⟨f',iy,mT,gP,v1,v2,v3,v4,v5,v6,v7⟩:=M.W3 iS Qd fg (o':=.loop (C (if jump.isNone then .ready else .done) jump)) (Qh.m.pk zR _)
      (((sZ.step.x _).trans (pc.put _ β3 w3 _)).trans ((zS.step.x _).trans (pc.put _ β4 w4 _))) Qh.n (Nat.le_trans sZ.le zS.le) (fun i hi hb=>zS.grow i (Nat.lt_of_lt_of_le hi sZ.le) (sZ.grow i hi hb)) (World.putObj_heap_same W6)
     exact⟨_,_,dU,.bool jump.isNone,_,iy,mT,gP,rfl,hK f' iy mT v1 v2,v3,v4,.s _ rfl,v5,v6,v7⟩
    cases e with
    |normal=>exact fin none _ fun f' iy mT v1 v2=>.inl ⟨rfl,f',_,_,v1,v2,Cx⟩
    |ret=>exact fin (some .ret) _ fun f' iy mT v1 v2=>.inr ⟨rfl,.ret,f',_,_,v1,v2,Cx⟩
    |exit id=>exact fin (some (.exit id)) _ fun f' iy mT v1 v2=>.inr ⟨rfl,.exit id,f',_,_,v1,v2,Cx⟩
    |_=>exact Cx.elim
   |_=>exact Qf.elim
  .refine⟨f₀,mem,nx,⟨aU _,oG,fun i hi=>by simp[f₀,hi],fun i hi=>⟨i,by simp[f₀,hi],oG,oG⟩,fun i hi=>by simp[f₀,Nat.not_lt.2 hi],fun i i' j h1 h2=>?_,fun i r hi=>?_⟩,up_same _ _ _,Ct⟩
   .simp only[f₀,Option.ite_none_right_eq_some,ay] at h1 h2;omega
   .have af:i<nx:=by
     rcases Nat.lt_or_ge i nx with h1|h1
     .exact h1
     .rw[U3 i h1] at hi;cases hi
    exact⟨i,by simp[f₀,af],by rw[up_ne _ _ (show i≠nx by omega),hi];rfl⟩
  .rintro e w6 ⟨v,d6,m6,GQ,β6,rfl,Om,qR,hn6,_,qz,ae2,ZG⟩
   have fin:∀ {g:Nat->Option Nat} {mc:Mem} {nc:Nat} (o':Obj),View nx nx g mc nc m6 GQ->
    dw P F ⟨env,mc,nc⟩ (β6.via g) (w6.putObj (w.heap.size+1) o') { a with defers:=[mark w.heap.size]++a.defers }/\
    m9 N₀ β₀ w₀ a₀ ⟨env,mc,nc⟩ (β6.via g) (w6.putObj (w.heap.size+1) o') { a with defers:=[mark w.heap.size]++a.defers }:=fun {g mc nc} o' M=>by
    obtain⟨GP,iT⟩:=M.enter qR
    have zR:hidden F β6 g (w.heap.size+1):=by
     have hβ:β6 nx=some (.raw (w.heap.size+1))\/β6 nx=some .dead:=qz.keep nx _ (up_same _ _ _);rcases hβ with hβ|hβ
     .exact(M.Bd qR (fun i e=>(M.sD e).2.2 rfl) hβ rfl).2
     .exfalso;rcases Om with⟨f',mc',mf,_,FY,_⟩|⟨c,f',mc',mf,_,FY,_⟩
      .rw[(qR.wo FY).1] at hβ;cases hβ
      .rw[(qR.wo FY).1] at hβ;cases hβ
    refine⟨⟨fun t=>((own M qz (hs.e t)).pk zR o').weak fun b hb=>.inl hb,(GP.pk zR o').weak fun b hb=>.inl hb,iT⟩,J.trans ⟨⟨?_,fun b hb hf=>?_,fun i p hp=>?_,(sY.out.trans qz.out).trans ⟨rfl,rfl⟩⟩,M.low,fun i hi hb=>?_,rfl,[mark w.heap.size],rfl,?_⟩⟩
    .have:=qz.size;simp;omega
    .obtain⟨g1,g2⟩:=sY.imm b hb hf;obtain⟨g3,g4⟩:=qz.imm b oG g2;exact⟨(World.putObj_heap_other oG).trans (g3.trans g1),Pla.free_via g4 _⟩
    .have hi:i<nx:=by
      rcases Nat.lt_or_ge i nx with h1|h1
      .exact h1
      .rw[hn i h1] at hp;cases hp
     simp only[Pla.via,M.id i hi,Option.bind_some];exact(sY.trans qz).keep i p hp
    .have hi:i<nx:=hi;simp only[Pla.via,M.id i hi,Option.bind_some];exact ZG i oG (by rw[up_ne _ _ oG];exact hb)
    .refine⟨w.heap.size,rfl,aU _,?_,?_,?_,trivial⟩
     .have:=qz.size;simp;omega
     .exact(World.putObj_heap_other oG).trans ((qz.imm _ oG Lt).1.trans hD1)
     .exact Pla.free_via (qz.imm _ oG Lt).2 _
   rcases Om with⟨g,mc,nc,M,fg,hI⟩|⟨c,g,mc,nc,M,fg,hj⟩
   .have dU:(Instr.endLoop (w.heap.size+1)).run P w6=.ok none (w6.putObj (w.heap.size+1) (.loop (C .exhausted none))):=by
     have:=run_endLoop (P:=P) (qR.wo fg).2.1 (by rw[qy];simp);rw[qy] at this ⊢;exact this
    obtain⟨g1,g2⟩:=fin (.loop (C .exhausted none)) M;exact⟨none,_,dU,⟨env,mc,nc⟩,_,jm mc nc hI,g1,g2⟩
   .have dU:(Instr.endLoop (w.heap.size+1)).run P w6=.ok (some c) (w6.putObj (w.heap.size+1) (.loop (C .exhausted (some c)))):=by
     have:=run_endLoop (P:=P) (qR.wo fg).2.1 (by rw[qy];simp);rw[qy] at this ⊢;exact this
    obtain⟨g1,g2⟩:=fin (.loop (C .exhausted (some c))) M;refine⟨some c,_,dU,?_⟩;cases c with
    |ret=>exact wpIn_ret ⟨⟨env,mc,nc⟩,_,hj,g1,g2⟩
    |exit id=>exact wpIn_exit ⟨⟨env,mc,nc⟩,_,hj,g1,g2⟩
    |_=>exact hj.elim
 |_=>intro F r n Y rf N₀ β₀ w₀ a₀ X hY af Q st β w a h;exact h.elim
end
section
variable{P:Program}{F:Nat->Prop}{fn:Func}
def wK(tmps:Array Value):ResultVar->Sem Value
 | .tmp t=>pure (tmps.getD t undef)
 | .cell x t=>do loadVar t (<- asAddr (tmps.getD x undef))
theorem Si(fn:Func)(tmps:Array Value):results fn tmps=(do
 let vs<- fn.results.mapM (wK tmps)
 pure (if h:vs.size=1 then vs[0] else .tuple vs)):=by
 unfold results;congr 1
theorem Vb{st:St}{β:Pla}{w:World}{a:Act}(hs:dw P F st β w a){r:ResultVar}{p:Prop}{d:D}(h:resD P st r=some (p,d))(hp:p):
 ∃ v,(wK a.tmps r).run P w=.ok v w/\R F β w d v:=by
 unfold resD at h;split at h
 .cases h;exact⟨_,by simp[wK],hs.e _⟩
 .rename_i x t;have hx:=hs.e x;split at h
  .rename_i i off J;rw[J] at hx;split at h
   .rename_i cs e hm;cases h;obtain⟨b,o,room,sz,X,hv,aj⟩:=hx.rp_inv hs.m hm;obtain⟨u,C,hr⟩:=run_load_rd (P:=P) hp.1 (aj.rd.1.drop off) oP;refine⟨u,?_,hr⟩;simp only[wK,hv,Sem.run_bind];simp[asAddr,C]
   .cases h
  .rename_i cs J;rw[J] at hx;cases h;obtain⟨b,o,hv,_,_,_,M⟩:=hx.pt_inv;obtain⟨u,C,hr⟩:=run_load_rd (P:=P) hp.1 M hp.2;refine⟨u,?_,hr⟩;simp only[wK,hv,Sem.run_bind];simp[asAddr,C]
  .cases h
theorem JG{st:St}{β:Pla}{w:World}{a:Act}(hs:dw P F st β w a){K:List D->Prop}:∀ (rs:List ResultVar) (C:List D),retL P st rs C K->
 ∃ vs ds,(rs.mapM (wK a.tmps)).run P w=.ok vs w/\vs.length=ds.length/\K (C++ds)/\
  ∀ (k:Nat) (d:D) (v:Value),ds[k]? =some d->vs[k]? =some v->R F β w d v
 |[],C,h=>⟨[],[],oS,rfl,by simpa[retL] using h,oS⟩
 |r::rs,C,h=>by
  simp only[retL] at h;split at h
  .rename_i p d hr;obtain⟨v,h1,h2⟩:=Vb hs hr h.1;obtain⟨vs,ds,h3,h4,h5,J⟩:=JG hs rs _ h.2;refine⟨v::vs,d::ds,?_,by simp[h4],by simpa using h5,fun k d' M hd hv=>?_⟩
   .rw[List.mapM_cons];simp only[Sem.run_bind];rw[h1];simp only[Result.andThen_ok,Sem.run_bind];rw[h3];simp
   .cases k with
    |zero=>simp at hd hv;subst hd;subst hv;exact h2
    |succ k=>exact J k d' M (by simpa using hd) (by simpa using hv)
  .exact h.elim
theorem R5{st:St}{β:Pla}{w:World}{a:Act}(hs:dw P F st β w a){K:D->Prop}(h:retL P st fn.results.toList [] fun ds=>K (one1 ds)):
 ∃ v d,(results fn a.tmps).run P w=.ok v w/\K d/\R F β w d v:=by
 obtain⟨vs,ds,h1,h2,h3,h4⟩:=JG hs _ _ h;simp only[List.nil_append] at h3;refine⟨if h:vs.toArray.size=1 then vs.toArray[0] else .tuple vs.toArray,one1 ds,?_,h3,?_⟩
 .rw[Si,Array.mapM_eq_mapM_toList];simp only[Sem.run_bind,map_eq_pure_bind,bind_assoc];rw[h1];simp
 .split
  .rename_i bt;simp only[List.size_toArray] at bt;obtain⟨v,rfl⟩:=List.length_eq_one_iff.1 bt;obtain⟨d,rfl⟩:=List.length_eq_one_iff.1 (show ds.length=1 by simpa using h2.symm);exact h4 0 d v rfl rfl
  .rename_i bt;simp only[List.size_toArray] at bt
   have:one1 ds=.tup ds:=by
    unfold one1;split
    .rename_i d;simp at h2;exact absurd h2 bt
    .rfl
   rw[this];exact .tup ds vs h2 h4
theorem RP{w:World}{b:Nat}{x:Option (List Deferred)}(h:w.heap[b]? =some (.deferred x))(o:Nat):w.cell? ⟨b,o,none⟩=none:=by
 simp[World.cell?,h]
theorem R.JH{w:World}{b:Nat}{x:Option (List Deferred)}(hb:w.heap[b]? =some (.deferred x))(o:Obj)(J:Nat):SameB w (w.putObj b o) J:=by
 refine⟨fun k u M=>?_,fun ms c hm=>?_⟩
 .have C:J≠b:=fun e=>by rw[e,RP hb] at M;cases M
  exact(cell_of_heap (World.putObj_heap_other C)).trans M
 .have C:J≠b:=fun e=>by rw[e,hb] at hm;cases hm
  exact(World.putObj_heap_other C).trans hm
theorem dw.putD{st:St}{β:Pla}{w:World}{a:Act}{b:Nat}{x:Option (List Deferred)}(hb:w.heap[b]? =some (.deferred x))(hf:β.free b)(o:Obj)(h:dw P F st β w a):dw P F st β (w.putObj b o) a:=
 ⟨fun t=>(h.e t).gen oS (fun C _ h1 h2=>⟨R.JH hb o C,h2,h1⟩) fun _ _ _ h=>.inl h,⟨fun i r hi=>by
  obtain⟨p,hp,hr⟩:=h.m.row i r hi;exact⟨p,hp,hr.gen oS (fun C _ h1 h2=>⟨R.JH hb o C,h2,h1⟩) (fun _ _ _ h=>.inl h) fun c hc=>World.putObj_heap_other fun e=>hf i p hp (e▸hc)⟩,
  h.m.inj,fun i p c hp hc=>by simpa using h.m.lt i p c hp hc,h.m.nf,fun c hc=>by simpa using h.m.fb c hc⟩,h.n⟩
theorem Marks.put{β:Pla}{w:World}{lo b:Nat}(o:Obj):∀ {ds:List Deferred} {hi:Nat},hi<=b->Marks β w lo ds hi->Marks β (w.putObj b o) lo ds hi
 |[],_,_,_=>trivial
 |_::_,_,hle,⟨c,h1,h2,h3,h4,h5,h6⟩=>⟨c,h1,h2,h3,(World.putObj_heap_other oG).trans h4,h5,Marks.put o oG h6⟩
theorem Is{n:Nat}{tmps:Array Value}{R:Ending->World->Prop}{st:St}{β₀ β:Pla}{w₀:World}{a:Act}:∀ (ds:List Deferred) (hi:Nat) (w:World),Marks β w w₀.heap.size ds hi->dw P F st β w a->Step β₀ w₀ β w->
 (∀ w',dw P F st β w' a->Step β₀ w₀ β w'->∃ v,(results fn tmps).run P w'=.ok v w'/\R (.returned v) w')->LeavesInM (Fe none) n P fn tmps R ds .returning w
 |[],_,w,_,hs,aA,K=>K w hs aA
 |d::ds,hi,w,⟨b,h1,h2,h3,h4,h5,h6⟩,hs,aA,K=>by
  subst h1;refine⟨oS,.inl ⟨b,_,rfl,run_takeDeferred h4,Is ds b _ (h6.put _ (aU _)) (hs.putD h4 h5 _) ?_ K⟩⟩;refine⟨by simpa using aA.size,fun c hc hf=>?_,aA.keep,aA.out.trans ⟨rfl,rfl⟩⟩;obtain⟨C,J⟩:=aA.imm c hc hf;exact⟨(World.putObj_heap_other oG).trans C,J⟩
theorem vD(jx:P.follows .mixedOrders=true){Y:YSpec}{f:FuncId}{c:Code}(hf:P.funcs[f]? =some fn)(hb:fn.body=some c)(af:ir fn.ntmps c=true){args:List D}(hn:Nat.ble args.length fn.ntmps=true){m:Mem}{nx:Nat}{K:D->St->Prop}
 (h:AW P Y true c (retQ P fn.results.toList K) ⟨envOf args,m,nx⟩) {β:Pla} {w:World} {vs:Array Value} (hY:∀ l args m nx K,Y l args m nx K->YCall P F β w l args m nx K) (hm:MSim P F m β w) (dx:∀ i,nx<=i->β i=none) (hR:Rs F β w args vs):
 Calls P f vs w fun e w'=>∃ v d st' β',e=.returned v/\K d st'/\R F β' w' d v/\MSim P F st'.mem β' w'/\(∀ i,st'.nx<=i->β' i=none)/\Step β w β' w'/\nx<=st'.nx/\∀ i,i<nx->β i=none->β' i=none:=by
 have hle:args.length<=fn.ntmps:=by simpa using hn
 refine(callsIn_wide (n:=0)).1 (callsIn_of_wp_marks hf hb trivial ?_)
 have bt:(vs++Array.replicate (fn.ntmps - vs.size) undef).size=fn.ntmps:=by
  simp only[Array.size_append,Array.size_replicate,hR.1];omega
 let a₀:Act:={ tmps:=vs++Array.replicate (fn.ntmps - vs.size) undef,defers:=[] }
 have hE:ESim F β w (envOf args) a₀:=fun t=>by
  unfold envOf;rcases Nat.lt_or_ge t args.length with af|ba
  .have h1:args.getD t .u=args[t]:=by simp[af]
   have h2:a₀.tmps.getD t undef=vs[t]'(by rw[hR.1];exact af):=by
    show(vs++Array.replicate (fn.ntmps - vs.size) undef).getD t undef=_;have h3:t<vs.size:=by rw[hR.1];exact af
    simp[Array.getD_eq_getD_getElem?,Array.getElem?_append_left h3,h3]
   rw[h1,h2];exact hR.2 t _ _ (by simp[af]) (by simp[hR.1,af])
  .have h1:args.getD t .u=.u:=by simp[ba]
   rw[h1];exact .u _
 have:=TX jx c F none 0 Y true nx β w a₀ (fun _=>rfl) hY (by show ir (vs++Array.replicate (fn.ntmps - vs.size) undef).size c=true;rw[bt];exact af) _ ⟨envOf args,m,nx⟩ β w a₀ h ⟨hE,hm,dx⟩ (fy.refl ⟨envOf args,m,nx⟩ β w a₀).Cp;refine wpIn_mono this fun e a' w' hp=>?_;obtain⟨st',β',hq,dc,C⟩:=hp
 have M:(retL P st' fn.results.toList [] fun ds=>K (one1 ds) st')->LeavesInM (Fe none) 0 P fn a'.tmps (fun e w'=>∃ v d st' β',e=.returned v/\K d st'/\R F β' w' d v/\MSim P F st'.mem β' w'/\(∀ i,st'.nx<=i->β' i=none)/\Step β w β' w'/\nx<=st'.nx/\∀ i,i<nx->β i=none->β' i=none) a'.defers .returning w':=fun hq=>by
  obtain⟨ds,h1,h2⟩:=C.defers;rw[h1,show a₀.defers=[] from rfl,List.append_nil];refine Is ds _ w' h2 dc C.step fun w'' J X=>?_;obtain⟨v,d,g1,g2,g3⟩:=R5 (K:=fun d=>K d st') J hq;exact⟨v,g1,v,d,st',β',rfl,g2,g3,J.m,J.n,X,C.le,C.grow⟩
 cases e with
 |normal=>exact M hq
 |ret=>exact M hq
 |_=>exact hq.elim
theorem AP{w:World}(hF:∀ b,F b->b<w.heap.size):MSim P F (fun _=>none) noRows w:=
 ⟨fun i r h=>oH,fun i j p q b h=>oH,fun i p b h=>oH,fun i p b h=>oH,hF⟩
theorem AI{β':Pla}{w w':World}(h:Step noRows w β' w'):Kept w w':=
 ⟨h.size,fun b hb=>(h.imm b hb fun i p hp=>by cases hp).1,h.out⟩
theorem Tr.zg{d:D}(h:Tr d){β:Pla}{w:World}{v:Value}(hv:R F β w d v):R F noRows w d v:=
 (h F β w v hv).lift fun b hb=>⟨fun e=>hb (.inl e),fun i p hp=>by cases hp⟩
structure jz(P:Program)(f:FuncId)(fn:Func)(c:Code):Prop where
 hf:P.funcs[f]? =some fn
 hb:fn.body=some c
 af:ir fn.ntmps c=true
 he:enterOk P f=true
theorem JI(X:P.follows .mixedOrders=true){f:FuncId}{c:Code}(hf:jz P f fn c){args:List D}(hn:Nat.ble args.length fn.ntmps=true){m:Mem}{nx:Nat}{bA:D->Mem->Nat->Prop}
 (h:AW P noY true c (retQ P fn.results.toList fun d st=>bA d st.mem st.nx) ⟨envOf args,m,nx⟩):ACalls P f args m nx bA:=
 ⟨hf.he,fun F β w vs hm C hR=>(vD X hf.hf hf.hb hf.af hn h (fun _ _ _ _ _ h=>h.elim) hm C hR).mono fun e w' ⟨v,d,st',β',h1,h2,h3,h4,h5,J,M,h8⟩=>⟨v,d,st'.mem,st'.nx,β',h1,h2,h4,h5,h3,J,M,h8⟩⟩
theorem T0(J:P.follows .mixedOrders=true){f:FuncId}{c:Code}(hf:jz P f fn c){args:List D}(hn:Nat.ble args.length fn.ntmps=true)(ht:∀ a∈args,Tr a){r:D}(hr:Tr r)
 (h:AW P noY true c (retQ P fn.results.toList fun d _=>d=r) ⟨envOf args,fun _=>none,0⟩):PCall P f args r:=
 ⟨hf.he,ht,fun F w vs hF hR=>(vD J hf.hf hf.hb hf.af hn h (fun _ _ _ _ _ h=>h.elim) (AP hF) (fun _ _=>rfl) hR).mono fun e w' hp=>by
  obtain⟨v,d,st',β',h1,rfl,h3,h4,h5,C,M,h8⟩:=hp
  exact⟨v,h1,hr.zg h3,AI C⟩⟩
theorem JJ (jx:P.follows .mixedOrders=true){f:FuncId}{c:Code}(hf:jz P f fn c){args:List D}(hn:Nat.ble args.length fn.ntmps=true)(ht:∀ a∈args,Tr a){es:List D}(jC:∀ a∈es,Tr a){k:Nat}{t:TypeId}
 (h:AW P noY true c (retQ P fn.results.toList fun d st=>∃ i,d=.rs i 0 k/\st.mem i=some (.cells es t)) ⟨envOf args,fun _=>none,0⟩):OCall P f args es k t:=
 ⟨hf.he,ht,fun F w vs hF hR=>(vD jx hf.hf hf.hb hf.af hn h (fun _ _ _ _ _ h=>h.elim) (AP hF) (fun _ _=>rfl) hR).mono fun e w' hp=>by
  obtain⟨v,d,st',β',h1,⟨i,rfl,hi⟩,h3,h4,h5,J,h7,h8⟩:=hp;obtain⟨p,hp,aj⟩:=h4.row i _ hi;refine⟨v,p,h1,?_,fun b hb=>⟨?_,h4.lt i p b hp hb⟩,?_,?_,AI J⟩
  .rintro rfl;cases aj
  .rcases Nat.lt_or_ge b w.heap.size with af|M
   .exact absurd hb ((J.imm b af fun i p hp=>by cases hp).2 i p hp)
   .exact M
  .have lift:∀ d∈es,∀ u,R F β' w' d u->R (fun x=>F x\/p.blk=some x) noRows w' d u:=fun d hd u hu=>
    (jC d hd F β' w' u hu).lift fun b hb=>⟨fun e=>hb (by
     rcases e with e|e
     .exact .inl e
     .exact .inr fun jU=>jU i p hp e),fun i p hp=>by cases hp⟩
   cases aj with
   |nil _=>exact .nil _
   |cells _ _ b o room sz c q1 q2 q3 q4 q5=>
    refine .cells es t b o room sz c q1 q2 q3 q4 fun j d hd=>?_;obtain⟨u,u1,u2,u3⟩:=q5 j d hd;exact⟨u,u1,lift d (bJ hd) u u2,u3⟩
  .cases h3 with
   |rsd _ _ _ _ C _=>rw[C] at hp;cases hp;cases aj
   |rsn _ a C=>rw[C] at hp;cases hp;exact .rsn 0 a (up_same _ _ _)
   |rsz _ _ a b o len room sz C=>rw[C] at hp;cases hp;exact .rsz 0 0 a b o len room sz (up_same _ _ _)
   |rs _ _ _ cap b o len room sz C X g2 g3 g4=>rw[C] at hp;cases hp;exact .rs 0 0 k cap b o len room sz (up_same _ _ _) X g2 g3 g4⟩
def Oq(C:Nat)(xs:List (List D))(I:Nat->Mem->Nat->Prop)(Stop:Mem->Nat->Prop):YSpec:=fun l args m nx bA=>
 l=C/\∃ k,xs[k]? =some args/\I k m nx/\∀ d m' nx',SeqPost I Stop k d m' nx'->bA d m' nx'
theorem YCall.mono{β:Pla}{w:World}{l:Nat}{args:List D}{m:Mem}{nx:Nat}{K K':D->Mem->Nat->Prop}(hk:∀ d m nx,K d m nx->K' d m nx)(h:YCall P F β w l args m nx K):YCall P F β w l args m nx K':=
 fun β' w' us h1 h2 h3 h4=>by
  obtain⟨f,tmps,assign,body,C,J⟩:=h β' w' us h1 h2 h3 h4;exact⟨f,tmps,assign,body,C,fun n=>RoundIn.mono (F:=Fence.wide) (J n) fun e w' ⟨v,d,m',nx',β',M,X,q3⟩=>⟨v,d,m',nx',β',M,hk _ _ _ X,q3⟩⟩
theorem EM(jx:P.follows .mixedOrders=true){f:FuncId}{c:Code}(hf:jz P f fn c){fs cs:List D}(hn:Nat.ble (fs.length+1+cs.length) fn.ntmps=true){xs:List (List D)}
 (h:∀ (l:Nat) (I:Nat->Mem->Nat->Prop) (Stop:Mem->Nat->Prop) (m:Mem) (nx:Nat),(∀ k,Closed (I k))->Closed Stop->I 0 m nx->
  AW P (Oq l xs I Stop) true c (retQ P fn.results.toList fun _ st=>I xs.length st.mem st.nx\/Stop st.mem st.nx) ⟨envOf (fs++[.fn (.yield l) [] []]++cs),m,nx⟩):SeqA P f fs cs xs:=
 ⟨hf.he,fun F l I Stop m nx β w vs hI C hm J hR hy h0=>
  (vD jx hf.hf hf.hb hf.af (by simpa[Nat.add_assoc,Nat.add_comm,Nat.add_left_comm] using hn) (h l I Stop m nx hI C h0) (fun l' args m' nx' K hK=>by
   obtain⟨rfl,k,h1,h2,h3⟩:=hK
   exact(hy k args m' nx' h1 h2).mono h3) hm J hR).mono fun e w' ⟨v,d,st',β',h1,h2,h3,h4,h5,M,X,h8⟩=>⟨v,d,st'.mem,st'.nx,β',h1,h2,h4,h5,h3,M,X,h8⟩⟩
end
section
variable{P:Program}{Y:YSpec}{rf:Bool}{Q:Exit->St->Prop}{st:St}
theorem Kr(c a b):AW P Y rf (.cond c a b) Q st=((opd st.env c).ask/\match (opd st.env c).core with
 | .s (.bool t)=>(t=true->AW P Y rf a Q st)/\(t=false->AW P Y rf b Q st)
 | .ub=>AW P Y rf a Q st/\AW P Y rf b Q st
 |_=>False):=rfl
theorem Ks{b:Code}(I:St->Prop)(μ:St->Nat)(h0:I st)(h:∀ st',I st'->AW P Y rf b (seqQ (fun J=>∃ C,Ghost P J C/\I C/\μ C<μ st') Q) st'):AW P Y rf (.loop b) Q st:=⟨I,μ,h0,h⟩
theorem ACalls.mono{f:FuncId}{args:List D}{m:Mem}{nx:Nat}{bA C:D->Mem->Nat->Prop}(h:ACalls P f args m nx bA)(hp:∀ d m' nx',bA d m' nx'->C d m' nx'):ACalls P f args m nx C:=
 ⟨h.1,fun F β w vs hm hn hR=>(h.2 F β w vs hm hn hR).mono fun e w' ⟨v,d,m',nx',β',h1,h2,h3⟩=>⟨v,d,m',nx',β',h1,hp _ _ _ h2,h3⟩⟩
theorem CallOp.mono{dr:Bool}{f:FuncId}{args:List D}{K K':D->Mem->Nat->List Nat->List Nat->Prop}(hk:∀ d m nx rd wr,K d m nx rd wr->K' d m nx rd wr)(h:CallOp P dr st f args K):CallOp P dr st f args K':=by
 rcases h with⟨r,h1,h2⟩|⟨args',rds,r,h1,h2,h3,h4⟩|⟨es,n,t,h1,h2⟩|⟨h1,h2⟩|⟨r,ups,rds,h1,h2,h3⟩|⟨es,n,t,ups,rds,h1,h2,h3,h4⟩
 .exact .inl ⟨r,h1,hk _ _ _ _ _ h2⟩
 .exact .inr (.inl ⟨args',rds,r,h1,h2,h3,hk _ _ _ _ _ h4⟩)
 .exact .inr (.inr (.inl ⟨es,n,t,h1,hk _ _ _ _ _ h2⟩))
 .exact .inr (.inr (.inr (.inl ⟨h1,h2.mono fun d m nx h=>hk _ _ _ _ _ h⟩)))
 .exact .inr (.inr (.inr (.inr (.inl ⟨r,ups,rds,h1,h2,hk _ _ _ _ _ h3⟩))))
 .exact .inr (.inr (.inr (.inr (.inr ⟨es,n,t,ups,rds,h1,h2,h3,hk _ _ _ _ _ h4⟩))))
class cR(Y:YSpec):Prop where
 mono:∀ l args m nx K K',(∀ d m nx,K d m nx->K' d m nx)->Y l args m nx K->Y l args m nx K'
instance:cR noY:=⟨fun _ _ _ _ _ _ _ h=>h⟩
instance{l:Nat}{xs:List (List D)}{I:Nat->Mem->Nat->Prop}{Stop:Mem->Nat->Prop}:cR (Oq l xs I Stop):=⟨fun _ _ _ _ _ _ hk ⟨h1,k,h2,h3,h4⟩=>⟨h1,k,h2,h3,fun d m nx h=>hk _ _ _ (h4 d m nx h)⟩⟩
theorem AOp.mono[cR Y]{ops:Array Oper}{dr:Bool}{o:Oper}{K K':St->List Nat->List Nat->Prop}(hk:∀ st rd wr,K st rd wr->K' st rd wr)(h:AOp P Y ops dr o st K):AOp P Y ops dr o st K':=by
 unfold AOp at h ⊢;split at h
 .refine⟨h.1,?_⟩;have h:=h.2;split at h
  .exact h.mono fun _ _ _ _ _ h=>hk _ _ _ h
  .split at h
   .exact⟨h.1,cR.mono _ _ _ _ _ _ (fun _ _ _ h=>hk _ _ _ h) h.2⟩
   .split at h
    .exact⟨h.1,hk _ _ _ h.2⟩
    .exact h
 .split at h
  .exact h
  .split at h
   .rcases h with⟨r,h1,h2⟩|⟨h1,h2⟩
    .exact .inl ⟨r,h1,hk _ _ _ h2⟩
    .exact .inr ⟨fun hc=>⟨(h1 hc).1,(h1 hc).2.mono fun _ _ _ _ _ h=>hk _ _ _ h⟩,fun hc=>hk _ _ _ (h2 hc)⟩
   .split at h
    .exact⟨fun hc=>⟨(h.1 hc).1,(h.1 hc).2.1,cR.mono _ _ _ _ _ _ (fun _ _ _ h=>hk _ _ _ h) (h.1 hc).2.2⟩,fun hc=>hk _ _ _ (h.2 hc)⟩
    split at h
    .split at h
     .rename_i hc;rw[if_pos hc];exact⟨h.1,hk _ _ _ h.2⟩
     .rename_i hc;rw[if_neg hc];exact⟨fun hc=>⟨(h.1 hc).1,(h.1 hc).2.1,hk _ _ _ (h.1 hc).2.2⟩,fun hc=>hk _ _ _ (h.2 hc)⟩
    .exact⟨h.1,hk _ _ _ h.2⟩
theorem AOps.mono[cR Y]{ops:Array Oper}{dr:Bool}{cf:List (Nat×Nat)}{Q C:Exit->St->Prop}(hq:∀ st,Q .normal st->C .normal st):∀ (l:List Oper) (st:St) (tr:Tra),AOps P Y ops dr cf Q l st tr->AOps P Y ops dr cf C l st tr
 |[],st,tr,h=>⟨h.1,hq _ h.2⟩
 |o::l,st,tr,h=>AOp.mono (fun st' rd wr h=>AOps.mono hq l st' _ h) h
theorem p7:∀ (c:Code) {Y:YSpec} [cR Y] {rf:Bool} {Q C:Exit->St->Prop} {st:St},(∀ e st,Q e st->C e st)->AW P Y rf c Q st->AW P Y rf c C st:=by
 intro c
 induction c with
 |skip=>intro Y _ rf;exact fun hq h=>hq _ _ h
 |ret=>intro Y _ rf;exact fun hq h=>hq _ _ h
 |exit id=>intro Y _ rf;exact fun hq h=>hq _ _ h
 |region id ops draw=>
  intro Y _ rf Q C st hq h;cases draw with
  |false=>exact AOps.mono (hq .normal) _ _ _ h
  |true=>
   simp only[AW] at h ⊢;split at h
   .exact AOps.mono (hq .normal) _ _ _ h
   .exact h
 |seq a b J M=>
  intro Y _ rf Q C st hq h;refine J (fun e st' h=>?_) h;cases e with
  |normal=>obtain⟨X,hg,hb⟩:=h;exact⟨X,hg,M hq hb⟩
  |_=>exact hq _ _ h
 |cond c a b J M=>
  intro Y _ rf Q C st hq h;refine⟨h.1,?_⟩;have h:=h.2;split at h
  .exact⟨fun ht=>J hq (h.1 ht),fun ht=>M hq (h.2 ht)⟩
  .exact⟨J hq h.1,M hq h.2⟩
  .exact h
 |block id b ih=>
  intro Y _ rf Q C st hq h;refine ih (fun e st' h=>?_) h;cases e with
  |exit i=>
   simp only[blockQ] at h ⊢;split at h
   .rename_i hi;rw[if_pos hi];exact hq _ _ h
   .rename_i hi;rw[if_neg hi];exact hq _ _ h
  |_=>exact hq _ _ h
 |scope b ih=>
  intro Y _ rf Q C st hq h;refine ih (fun e st' h=>?_) h;cases e with
  |goto l=>exact h
  |_=>exact hq _ _ h
 |loop b ih=>
  intro Y _ rf Q C st hq h;obtain⟨I,μ,h0,h1⟩:=h;refine⟨I,μ,h0,fun st' hi=>ih (fun e X h=>?_) (h1 st' hi)⟩;cases e with
  |normal=>exact h
  |_=>exact hq _ _ h
 |label l=>intro Y _ rf;exact fun hq h=>hq _ _ h
 |rangeFunc g ps assign body J M=>
  intro Y _ rf Q C st hq h;obtain⟨FV,lx,f,fs,cs,xs,I,wq,BY,BD,Ct,wa,jm⟩:=h;refine⟨FV,lx,f,fs,cs,xs,I,wq,BY,BD,Ct,fun k m nx x hx hI=>J (fun e s h=>?_) (wa k m nx x hx hI),fun m nx h=>hq _ _ (jm m nx h)⟩;cases e with
  |normal=>
   refine M (fun e s h=>?_) h;cases e with
   |normal=>exact h
   |ret=>exact hq _ _ h
   |exit id=>exact hq _ _ h
   |_=>exact h
  |_=>exact h
 |_=>intro Y _ rf;exact fun _ h=>h.elim
theorem least{p:Nat->Prop}:∀ j,p j->∃ i,p i/\∀ k,p k->i<=k:=by
 intro j
 induction j using Nat.strongRecOn with
 |_ j ih=>
  intro hj;by_cases h:∃ k,k<j/\p k
  .obtain⟨k,hk,hp⟩:=h;exact ih k hk hp
  .exact⟨j,hj,fun k hk=>Nat.le_of_not_lt fun af=>h ⟨k,af,hk⟩⟩
open Classical in
theorem JN[cR Y]{b:Code}(J:Nat->St->Prop){j₀:Nat}(h0:J j₀ st)(h:∀ j st',J j st'->AW P Y rf b (seqQ (fun gn=>∃ X,Ghost P gn X/\∃ M,M<j/\J M X) Q) st'):AW P Y rf (.loop b) Q st:=by
 have C:∀ st,(∃ j,J j st)->∃ i,J i st/\∀ k,J k st->i<=k:=fun st ⟨j,hj⟩=>least j hj
 let μ:St->Nat:=fun st=>if h:∃ j,J j st then Classical.choose (C st h) else 0
 have hμ:∀ st,(hj:∃ j,J j st)->J (μ st) st/\∀ k,J k st->μ st<=k:=fun st hj=>by
  have:μ st=Classical.choose (C st hj):=by simp only[μ];rw[dif_pos hj]
  rw[this];exact Classical.choose_spec (C st hj)
 refine Ks (fun st=>∃ j,J j st) μ ⟨j₀,h0⟩ fun st' hj=>p7 b (fun e gn hq=>?_) (h (μ st') st' (hμ st' hj).1);cases e with
 |normal=>
  obtain⟨X,hg,M,af,ov⟩:=hq;exact⟨X,hg,⟨M,ov⟩,Nat.lt_of_le_of_lt ((hμ X ⟨M,ov⟩).2 M ov) af⟩
 |_=>exact hq
end
section
variable{P:Program}{F:Nat->Prop}{β:Pla}{w:World}
theorem Tr.opt{c:Bool}{d:D}(h:Tr d):Tr (.opt c d):=fun F β w v hv=>by
 cases hv with
 |opt _ _ _ h1 h2=>exact .opt c d v (fun hc=>h F β w v (h1 hc)) h2
theorem Tr.agg{cs:List D}(h:∀ d∈cs,Tr d):Tr (.agg cs):=fun F β w v hv=>by
 obtain⟨vs,rfl,hl,C⟩:=hv.agg_inv;exact .agg cs vs hl fun k d u hd J=>h d (bJ hd) F β w u (C k d u hd J)
theorem Tr.tup{cs:List D}(h:∀ d∈cs,Tr d):Tr (.tup cs):=fun F β w v hv=>by
 obtain⟨vs,rfl,hl,C⟩:=hv.tup_inv;exact .tup cs vs hl fun k d u hd J=>h d (bJ hd) F β w u (C k d u hd J)
theorem Tr.sl{cs:List D}{n:Nat}(h:∀ d∈cs,Tr d):Tr (.sl cs n):=fun F β w v hv=>by
 cases hv with
 |sln a cap=>exact .sln a cap
 |sl _ _ b o cap us hf hb af mU dD hc C=>
  exact .sl cs n b o cap us (fun e=>e.elim hf fun e=>e hb) (fun i p hp=>by cases hp) af mU dD hc fun k d hd=>h d (bJ hd) F β w _ (C k d hd)
theorem Tr.pt{cs:List D}(h:∀ d∈cs,Tr d):Tr (.pt cs):=fun F β w v hv=>by
 cases hv with
 |pt _ b o us hf hb af hc C=>
  exact .pt cs b o us (fun e=>e.elim hf fun e=>e hb) (fun i p hp=>by cases hp) af hc fun k d hd=>h d (bJ hd) F β w _ (C k d hd)
theorem Tr.fn{f:Fn}{fs cs:List D}(h:∀ d∈fs,Tr d)(h':∀ d∈cs,Tr d):Tr (.fn f fs cs):=fun F β w v hv=>by
 cases hv with
 |fn _ _ _ us vs hl jB h1 h2=>
  exact .fn f fs cs us vs hl jB (fun k d u hd C=>h d (bJ hd) F β w u (h1 k d u hd C)) fun k d u hd C=>h' d (bJ hd) F β w u (h2 k d u hd C)
theorem Tr.im{es:List (Value×D)}(h:∀ x∈es,Tr x.2):Tr (.im es):=fun F β w v hv=>by
 cases hv with
 |im _ r ms clock hf hb hc hl bG hk C=>
  exact .im es r ms clock (fun e=>e.elim hf fun e=>e hb) (fun i p hp=>by cases hp) hc hl bG hk fun k x m hx hm=>h x (bJ hx) F β w _ (C k x m hx hm)
theorem Tr.s(x:Value):Tr (.s x):=fun F β w v hv=>by
 obtain⟨rfl,h⟩:=hv.s_inv;exact .s _ h
theorem Tr.ub:Tr .ub:=fun F β w v hv=>by
 obtain⟨b,rfl⟩:=hv.ub_inv;exact .ub b
theorem Tr.u:Tr .u:=fun F β w v _=>.u v
theorem Tr.z:Tr .z:=fun F β w v hv=>by
 obtain⟨a,rfl⟩:=hv.z_inv;exact .z a
theorem Tr.nil:∀ a∈([]:List D),Tr a:=fun _ h=>by cases h
theorem Tr.cons{d:D}{l:List D}(h:Tr d)(hl:∀ a∈l,Tr a):∀ a∈d::l,Tr a:=fun a ha=>by
 cases ha with
 |head=>exact h
 |tail _ ha=>exact hl a ha
theorem Tr.map{α:Type}{f:α->D}{l:List α}(h:∀ x,Tr (f x)):∀ a∈l.map f,Tr a:=fun a ha=>by
 obtain⟨x,_,rfl⟩:=List.mem_map.1 ha;exact h x
theorem Tr.flat{α:Type}{f:α->List D}{l:List α}(h:∀ x,∀ a∈f x,Tr a):∀ a∈l.flatMap f,Tr a:=fun a ha=>by
 obtain⟨x,_,hx⟩:=List.mem_flatMap.1 ha;exact h x a hx
end
instance(d:D):Decidable d.ask:=match d with
 | .opt c _=>inferInstanceAs (Decidable (c=true))
 | .u | .s _ | .ub | .agg _ | .tup _ | .z | .sl _ _ | .pt _ | .rs _ _ _ | .rp _ _ | .mp _ | .im _ | .fn _ _ _=>isTrue trivial
structure dE where
 pre:Prop
 [dec:Decidable pre]
 val:D
 ups:List (Nat×Option Row):=[]
 rd:List Nat:=[]
 new:Nat:=0
structure PD(α:Type) where
 p:Prop
 [dec:Decidable p]
 d:α
def dE.fG(e:dE):Eff:=⟨e.pre,e.val,e.ups,e.rd,e.new⟩
def BG(op:BinOp)(x y:Value):Option (PD Value):=
 match op,x,y with
 | .shl,.int k a,.int _ b=>some ⟨0<=b,.int k (k.wrap (a*2 ^ (min b.toNat k.bits)))⟩
 | .shr,.int k a,.int _ b=>some ⟨0<=b,.int k (a.fdiv (2 ^ (min b.toNat k.bits)))⟩
 | .add,.int k a,.int k' b=>some ⟨k=k',.int k (k.wrap (a+b))⟩
 | .sub,.int k a,.int k' b=>some ⟨k=k',.int k (k.wrap (a - b))⟩
 | .mul,.int k a,.int k' b=>some ⟨k=k',.int k (k.wrap (a*b))⟩
 | .quo,.int k a,.int k' b=>some ⟨k=k'/\b≠0,.int k (k.wrap (a.tdiv b))⟩
 | .rem,.int k a,.int k' b=>some ⟨k=k'/\b≠0,.int k (a.tmod b)⟩
 | .and,.int k a,.int k' b=>some ⟨k=k',.int k (intBitsV .and k a b)⟩
 | .or,.int k a,.int k' b=>some ⟨k=k',.int k (intBitsV .or k a b)⟩
 | .xor,.int k a,.int k' b=>some ⟨k=k',.int k (intBitsV .xor k a b)⟩
 | .andNot,.int k a,.int k' b=>some ⟨k=k',.int k (intBitsV .andNot k a b)⟩
 | .eql,.int k a,.int k' b=>some ⟨k=k',.bool (a==b)⟩
 | .neq,.int k a,.int k' b=>some ⟨k=k',.bool (a !=b)⟩
 | .lss,.int k a,.int k' b=>some ⟨k=k',.bool (decide (a<b))⟩
 | .leq,.int k a,.int k' b=>some ⟨k=k',.bool (decide (a<=b))⟩
 | .gtr,.int k a,.int k' b=>some ⟨k=k',.bool (decide (b<a))⟩
 | .geq,.int k a,.int k' b=>some ⟨k=k',.bool (decide (b<=a))⟩
 | .eql,.string a,.string b=>some ⟨True,.bool (a.toList==b.toList)⟩
 | .neq,.string a,.string b=>some ⟨True,.bool !(a.toList==b.toList)⟩
 | .lss,.string a,.string b=>some ⟨True,.bool (Op.bytesLess a.toList b.toList)⟩
 | .geq,.string a,.string b=>some ⟨True,.bool !(Op.bytesLess a.toList b.toList)⟩
 |_,_,_=>none
def Ek(P:Program)(op:BinOp)(t:TypeId)(xs ys:List D):Option (PD D):=
 match op,flatT P t,zipV xs ys with
 | .eql,some ks,some q=>some ⟨q.1.map kindV=ks/\P.eqGuardType P.depth t=false,.s (.bool (veqs q.1 q.2))⟩
 | .neq,some ks,some q=>some ⟨q.1.map kindV=ks/\P.eqGuardType P.depth t=false,.s (.bool !(veqs q.1 q.2))⟩
 |_,_,_=>none
def Fl(P:Program)(op:BinOp)(t:TypeId)(x y:D):Option (PD D):=
 match x,y with
 | .s (.bool a),.s (.bool b)=>match op with
  | .eql=>some ⟨boT P t=true,.s (.bool (a==b))⟩
  | .neq=>some ⟨boT P t=true,.s (.bool !(a==b))⟩
  |_=>none
 | .s a,.s b=>(BG op a b).map fun r=> @PD.mk _ r.p r.dec (.s r.d)
 | .agg xs,.agg ys=>Ek P op t xs ys
 |_,_=>none
def BH(P:Program)(m:Mem)(op:BinOp)(t:TypeId)(x:D)(y:Operand):Option dE:=
 match y,op,x with
 | .const (.slice none 0 0),.eql,.sl _ n=>some { pre:=slT P t=true,val:=if n=0 then .ub else .s (.bool false) }
 | .const (.pointer none),.eql,.rp i _=>match m i with
  |some _=>some { pre:=ptT P t=true,val:=.s (.bool false),rd:=[i] }
  |none=>none
 | .const (.pointer none),.neq,.rp i _=>match m i with
  |some _=>some { pre:=ptT P t=true,val:=.s (.bool true),rd:=[i] }
  |none=>none
 |_,_,_=>none
def Fm(P:Program)(m:Mem)(t:TypeId):D->Option dE
 | .sl _ n=>some { pre:=slT P t=true,val:=.s (.int .i64 n) }
 | .rs i _ n=>match m i with
  |some _=>some { pre:=slT P t=true,val:=.s (.int .i64 n),rd:=[i] }
  |none=>none
 | .z=>some { pre:=slT P t=true,val:=.s (.int .i64 0) }
 | .s (.string b)=>some { pre:=stT P t=true,val:=.s (.int .i64 b.size) }
 | .agg _=>some { pre:=arT P t=true,val:=.s (.int .i64 (lenP P t)) }
 |_=>none
def AM(m:Mem)(sz:Nat):D->Option (PD (List Nat×Nat×List D))
 | .sl es n=>some ⟨n*sz<=es.length,([],n,es.take (n*sz))⟩
 | .z=>some ⟨True,([],0,[])⟩
 | .rs i off n=>match m i with
  |some (.cells cs _)=>some ⟨off+n*sz<=cs.length,([i],n,(cs.drop off).take (n*sz))⟩
  |_=>none
 |_=>none
def DW(P:Program)(m:Mem)(nx:Nat)(t:TypeId)(s x:D):Option dE:=
 let e:=elemP P t
 let sz:=P.cellsOf e
 match AM m sz x with
 |none=>none
 |some (@PD.mk _ p _ (rd,k,news))=>
  match s with
  | .z=>some { pre:=slT P t=true/\p/\0<sz/\k<=maxLen/\k*P.bytesOf e<=140737488355328,val:=.rs nx 0 k,ups:=[(nx,some (.cells news e))],rd:=rd,new:=1 }
  | .rs i off n=>match m i with
   |some (.cells cs e')=>some { pre:=slT P t=true/\e'=e/\p/\0<sz/\off+n*sz=cs.length/\n+k<=maxLen/\(n+k)*P.bytesOf e<=140737488355328/\i∉rd,val:=.rs nx 0 (n+k),ups:=[(i,none),(nx,some (.cells (cs.drop off++news) e))],rd:=i::rd,new:=1 }
   |_=>none
  |_=>none
def DX(P:Program)(m:Mem)(t:TypeId)(x k:D)(ok:Bool):Option dE:=match keyV k,x with
 |some key,.mp i=>match m i with
  |some (.map es)=>some { pre:=mapT P t=true/\keyP P (mkeyP P t) key=true/\es.all (fun e=>keyP P (mkeyP P t) e.1)=true,val:=gotD P t ok (lookD key es),rd:=[i] }
  |_=>none
 |some key,.im es=>some { pre:=mapT P t=true/\keyP P (mkeyP P t) key=true/\es.all (fun e=>keyP P (mkeyP P t) e.1)=true,val:=gotD P t ok (lookD key es) }
 |some key,.s (.map none)=>some { pre:=mapT P t=true/\keyP P (mkeyP P t) key=true,val:=gotD P t ok none }
 |_,_=>none
def A5(P:Program)(m:Mem)(t:TypeId)(x k v:D):Option dE:=match keyV k,x with
 |some key,.mp i=>match m i with
  |some (.map es)=>some { pre:=mapT P t=true/\keyP P (mkeyP P t) key=true/\es.all (fun e=>keyP P (mkeyP P t) e.1)=true,val:=.tup [],ups:=[(i,some (.map (putD key v es)))],rd:=[i] }
  |_=>none
 |_,_=>none
def DY(P:Program)(m:Mem)(t:TypeId)(x k:D):Option dE:=match keyV k,x with
 |some key,.mp i=>match m i with
  |some (.map es)=>some { pre:=mapT P t=true/\keyP P (mkeyP P t) key=true/\es.all (fun e=>keyP P (mkeyP P t) e.1)=true,val:=.tup [],ups:=[(i,some (.map (delD key es)))],rd:=[i] }
  |_=>none
 |_,_=>none
def AQ(P:Program)(m:Mem)(nx:Nat)(b:Builtin)(ts:Array TypeId)(args:List D):Option dE:=
 match b,args with
 | .len,[x]=>Fm P m (ts.getD 0 0) x
 | .append,[s,x]=>if ts.getD 0 0=ts.getD 1 0 then DW P m nx (ts.getD 0 0) s x else none
 | .min,[.s (.int k a),.s (.int k' b)]=>some { pre:=k=k',val:=.s (.int k (if b<a then b else a)) }
 | .clear,[.rs i off n]=>match m i with
  |some (.cells cs e)=>some { pre:=slT P (ts.getD 0 0)=true/\off+n*P.cellsOf e<=cs.length/\e=elemP P (ts.getD 0 0),val:=.tup [],ups:=[(i,some (.cells (splice cs off (replD n (zeroP P e))) e))],rd:=[i] }
  |_=>none
 | .delete,[x,k]=>DY P m (ts.getD 0 0) x k
 |_,_=>none
def El(P:Program)(m:Mem)(t:TypeId)(x:D)(lo hi C:Option D):Option dE:=
 match x with
 | .sl es n=>match bndD lo 0,bndD hi n,C with
  |some l,some h,none=>some { pre:=slT P t=true/\0<=l/\l<=h/\h<=n,val:=.sl ((es.drop (l.toNat*P.cellsOf (elemP P t))).take ((h - l).toNat*P.cellsOf (elemP P t))) (h - l).toNat }
  |some l,some h,some d=>match d.int? with
   |some k=>some { pre:=slT P t=true/\hi.isSome=true/\0<=l/\l<=h/\h<=k/\k<=n,val:=.sl ((es.drop (l.toNat*P.cellsOf (elemP P t))).take ((h - l).toNat*P.cellsOf (elemP P t))) (h - l).toNat }
   |none=>none
  |_,_,_=>none
 | .rs i off n=>match m i with
  |some (.cells _ e)=>match bndD lo 0,bndD hi n,C with
   |some l,some h,none=>some { pre:=(slT P t=true/\P.cellsOf e=P.cellsOf (elemP P t))/\0<=l/\l<=h/\h<=n,val:=.rs i (off+l.toNat*P.cellsOf (elemP P t)) (h - l).toNat,rd:=[i] }
   |_,_,_=>none
  |_=>none
 | .s (.string b)=>match bndD lo 0,bndD hi b.size,C with
  |some l,some h,none=>some { pre:=stT P t=true/\0<=l/\l<=h/\h<=b.size,val:=.s (.string (b.extract l.toNat h.toNat)) }
  |_,_,_=>none
 |_=>none
def gK(P:Program)(o:Op)(ρ:Operand->D)(m:Mem)(nx:Nat):Option dE:=
 match o with
 | .move x=>some { pre:=True,val:=ρ x }
 | .assign x=>some { pre:=True,val:=ρ x }
 | .pick c a b=>match (ρ c).core.bool? with
  |some t=>some { pre:=(t=true->(ρ a).ask/\(ρ a).core.bool?.isSome=true)/\(t=false->(ρ b).ask/\(ρ b).core.bool?.isSome=true),val:=.s (.bool (if t then(ρ a).core.bool?.getD false else(ρ b).core.bool?.getD false)) }
  |none=>none
 | .alloc t=>some { pre:=tyOk P t=true,val:=.rp nx 0,ups:=[(nx,some (.cells (zeroP P t) t))],new:=1 }
 | .box t x=>some { pre:=(ρ x).cells.all D.one=true,val:=.rp nx 0,ups:=[(nx,some (.cells (ρ x).cells t))],new:=1 }
 | .build t ps=>match P.underlying t with
  |some (.struct fs)=>(fillD (fun i=>(fs[i]?).map fun f=>(f.offset,P.cellsOf f.type)) (zeroP P t) (ps.toList.map fun q=>(q.1,ρ q.2))).map fun cs=>{ pre:=tyOk P t=true/\fs.toList.all (fun f=>(P.info? f.type).isSome)=true,val:=.agg cs }
  |some (.array _ e)=>(fillD (fun i=>some (i*P.cellsOf e,P.cellsOf e)) (zeroP P t) (ps.toList.map fun q=>(q.1,ρ q.2))).map fun cs=>{ pre:=tyOk P t=true/\tyOk P e=true,val:=.agg cs }
  |_=>none
 | .buildSlice t n ps=>(fillD (fun i=>some (i*P.cellsOf (elemP P t),P.cellsOf (elemP P t))) (replD n (zeroP P (elemP P t))) (ps.toList.map fun q=>(q.1,ρ q.2))).map fun cs=>
   { pre:=cs.all D.one=true/\n*P.cellsOf (elemP P t)<=2 ^ 24/\slT P t=true/\n<=maxLen,val:=.rs nx 0 n,ups:=[(nx,some (.cells cs (elemP P t)))],new:=1 }
 | .load t a=>match ρ a with
  | .pt cs=>some { pre:=tyOk P t=true/\P.cellsOf t<=cs.length,val:=takeV P t cs }
  | .rp i off=>match m i with
   |some (.cells cs _)=>some { pre:=tyOk P t=true/\off+P.cellsOf t<=cs.length,val:=takeV P t (cs.drop off),rd:=[i] }
   |_=>none
  |_=>none
 | .store t a x=>match ρ a with
  | .rp i off=>match m i with
   |some (.cells cs e)=>some { pre:=tyOk P t=true/\(ρ x).cells.length=P.cellsOf t/\off+P.cellsOf t<=cs.length/\(ρ x).cells.all D.one=true,val:=.tup [],ups:=[(i,some (.cells (splice cs off (ρ x).cells) e))],rd:=[i] }
   |_=>none
  |_=>none
 | .nilCheck x=>match ρ x with
  | .pt cs=>some { pre:=True,val:=.pt cs }
  | .rp i off=>match m i with
   |some _=>some { pre:=True,val:=.rp i off,rd:=[i] }
   |none=>none
  |_=>none
 | .binOp op t x y _=>match BH P m op t (ρ x) y with
  |some e=>some e
  |none=>(Fl P op t (ρ x) (ρ y)).map fun r=> @dE.mk r.p r.dec r.d [] [] 0
 | .unOp op _ x=>match ρ x with
  | .s v=>(unV op v).map fun r=>{ pre:=True,val:=.s r }
  |_=>none
 | .convert src dst x=>match P.underlying dst,ρ x with
  |some (.int k),.s (.int _ n)=>some { pre:=tyOk P src=true,val:=.s (.int k (k.wrap n)) }
  |some (.slice e),.s (.string b)=>match P.underlying e with
   |some (.int .u8)=>some { pre:=stT P src=true/\b.size<=maxLen,val:=.sl (b.data.toList.map fun c=>.s (.int .u8 c.toNat)) b.size }
   |_=>none
  |_,_=>none
 | .makeFunc f fs cs=>some { pre:=True,val:=.fn f (fs.toList.map ρ) (cs.toList.map ρ) }
 | .makeMap _ r=>match r with
  |none=>some { pre:=True,val:=.mp nx,ups:=[(nx,some (.map []))],new:=1 }
  |some _=>none
 | .makeSlice t l c=>match ρ l,ρ c with
  | .s (.int .i64 n),.s (.int .i64 k)=>some { pre:=0<=n/\n=k/\n<=9223372036854775807/\P.bytesOf (elemP P t)*n<=281474976710656/\slT P t=true,val:=.rs nx 0 n.toNat,ups:=[(nx,some (.cells (replD n.toNat (zeroP P (elemP P t))) (elemP P t)))],new:=1 }
  |_,_=>none
 | .lookup t x k ok=>DX P m t (ρ x) (ρ k) ok
 | .mapUpdate t x k v=>A5 P m t (ρ x) (ρ k) (ρ v)
 | .insert t x k v=>A5 P m t (ρ x) (ρ k) (ρ v)
 | .slice t x lo hi C=>El P m t (ρ x) (lo.map ρ) (hi.map ρ) (C.map ρ)
 | .fieldAddr t x k=>match fieldP P t k,ρ x with
  |some (off,ft),.pt cs=>some { pre:=0<P.cellsOf ft,val:=.pt (cs.drop off) }
  |some (off,ft),.rp i o=>match m i with
   |some _=>some { pre:=0<P.cellsOf ft,val:=.rp i (o+off),rd:=[i] }
   |none=>none
  |_,_=>none
 | .field t x k=>match fieldP P t k,ρ x with
  |some (off,ft),.agg cs=>some { pre:=tyOk P ft=true/\off+P.cellsOf ft<=cs.length,val:=takeV P ft (cs.drop off) }
  |_,_=>none
 | .indexAddr t x i=>match ρ x,ρ i with
  | .sl es n,.s (.int _ k)=>some { pre:=slT P t=true/\0<=k/\k<n/\(k.toNat+1)*P.cellsOf (elemP P t)<=es.length,val:=.pt (es.drop (k.toNat*P.cellsOf (elemP P t))) }
  | .rs j off n,.s (.int _ k)=>match m j with
   |some _=>some { pre:=slT P t=true/\0<=k/\k<n,val:=.rp j (off+k.toNat*P.cellsOf (elemP P t)),rd:=[j] }
   |none=>none
  | .rp j off,.s (.int _ k)=>match m j with
   |some _=>some { pre:=arT P t=true/\0<=k/\k<lenP P t,val:=.rp j (off+k.toNat*P.cellsOf (elemP P t)),rd:=[j] }
   |none=>none
  |_,_=>none
 | .index t x i=>match ρ x,ρ i with
  | .s (.string b),.s (.int _ k)=>some { pre:=stT P t=true/\0<=k/\k<b.size,val:=.s (.int .u8 (b.data.toList.getD k.toNat 0).toNat) }
  | .agg cs,.s (.int _ k)=>some { pre:=arT P t=true/\0<=k/\k<lenP P t/\(k.toNat+1)*P.cellsOf (elemP P t)<=cs.length,val:=takeV P (elemP P t) (cs.drop (k.toNat*P.cellsOf (elemP P t))) }
  |_,_=>none
 | .extract x k=>match ρ x with
  | .tup cs=>some { pre:=k<cs.length,val:=cs.getD k .u }
  |_=>none
 | .call c=>match c.callee with
  | .builtin b=>if c.argTypes.size=c.args.size then AQ P m nx b c.argTypes (c.args.toList.map ρ) else none
  |_=>none
 |_=>none
theorem T1(op:BinOp)(x y:Value):binV op x y=(BG op x y).map fun r=>(r.p,r.d):=by
 cases op<;>cases x<;>first|rfl|(cases y<;>rfl)
theorem Sj(P:Program)(op:BinOp)(t:TypeId)(xs ys:List D):aggEqD P op t xs ys=(Ek P op t xs ys).map fun r=>(r.p,r.d):=by
 unfold aggEqD Ek;cases op<;>first|rfl|skip
 all_goals cases flatT P t<;>first|rfl|skip
 all_goals cases zipV xs ys<;>rfl
theorem T2(P:Program)(op:BinOp)(t:TypeId)(x y:D):binD P op t x y=(Fl P op t x y).map fun r=>(r.p,r.d):=by
 have hs:∀ a b,(binV op a b).map (fun r=>(r.1,D.s r.2))=((BG op a b).map fun r=> @PD.mk _ r.p r.dec (D.s r.d)).map fun r=>(r.p,r.d):=fun a b=>by
  rw[T1];cases BG op a b<;>rfl
 cases x with
 |s a=>
  cases y with
  |s b=>
   cases a with
   |bool a=>
    cases b with
    |bool b=>cases op<;>rfl
    |_=>exact hs _ _
   |_=>exact hs _ _
  |_=>cases a<;>rfl
 |agg xs=>
  cases y with
  |agg ys=>exact Sj P op t xs ys
  |_=>rfl
 |_=>rfl
theorem T3(P:Program)(m:Mem)(op:BinOp)(t:TypeId)(x:D)(y:Operand):nilD P m op t x y=(BH P m op t x y).map dE.fG:=by
 unfold nilD BH;split<;>split<;>simp_all[dE.fG]
 all_goals split<;>simp_all[dE.fG]
theorem T4(P:Program)(m:Mem)(t:TypeId)(x:D):lenD P m t x=(Fm P m t x).map dE.fG:=by
 unfold lenD Fm;split<;>first|rfl|skip
 all_goals split<;>simp_all[dE.fG]
theorem RG(m:Mem)(sz:Nat)(x:D):sliceCells m sz x=(AM m sz x).map fun r=>(r.p,r.d):=by
 unfold sliceCells AM;split<;>first|rfl|skip
 all_goals split<;>simp_all
theorem R6(P:Program)(m:Mem)(nx:Nat)(t:TypeId)(s x:D):appendD P m nx t s x=(DW P m nx t s x).map dE.fG:=by
 unfold appendD DW;simp only[RG];cases AM m (P.cellsOf (elemP P t)) x with
 |none=>rfl
 |some r=>
  obtain⟨p,rd,k,news⟩:=r;simp only[Option.map_some];split<;>first|rfl|skip
  all_goals split<;>simp_all[dE.fG]
theorem R7(P:Program)(m:Mem)(t:TypeId)(x k:D)(ok:Bool):lookupD P m t x k ok=(DX P m t x k ok).map dE.fG:=by
 unfold lookupD DX;split<;>first|rfl|skip
 all_goals split<;>simp_all[dE.fG]
theorem Iz(P:Program)(m:Mem)(t:TypeId)(x k v:D):mapPutD P m t x k v=(A5 P m t x k v).map dE.fG:=by
 unfold mapPutD A5;split<;>first|rfl|skip
 all_goals split<;>simp_all[dE.fG]
theorem R8(P:Program)(m:Mem)(t:TypeId)(x k:D):mapDelD P m t x k=(DY P m t x k).map dE.fG:=by
 unfold mapDelD DY;split<;>first|rfl|skip
 all_goals split<;>simp_all[dE.fG]
theorem RR(P:Program)(m:Mem)(nx:Nat)(b:Builtin)(ts:Array TypeId)(args:List D):builtinD P m nx b ts args=(AQ P m nx b ts args).map dE.fG:=by
 cases b with
 |len=>
  match args with
  |[]=>rfl
  |[x]=>exact T4 _ _ _ _
  |_::_::_=>rfl
 |append=>
  match args with
  |[]=>rfl
  |[x]=>rfl
  |[s,x]=>
   simp only[builtinD,AQ];split
   .exact R6 _ _ _ _ _ _
   .rfl
  |_::_::_::_=>rfl
 |min=>
  match args with
  |[]=>rfl
  |[x]=>
   cases x with
   |s a=>cases a<;>rfl
   |_=>rfl
  |[x,y]=>
   cases x with
   |s a=>
    cases a with
    |int k a=>
     cases y with
     |s b=>cases b<;>rfl
     |_=>rfl
    |_=>rfl
   |_=>rfl
  |x::y::_::_=>
   cases x with
   |s a=>
    cases a with
    |int k a=>
     cases y with
     |s b=>cases b<;>rfl
     |_=>rfl
    |_=>rfl
   |_=>rfl
 |clear=>
  match args with
  |[]=>rfl
  |[x]=>
   cases x with
   |rs i off n=>
    simp only[builtinD,AQ];cases m i with
    |none=>rfl
    |some r=>cases r<;>rfl
   |_=>rfl
  |x::_::_=>cases x<;>rfl
 |delete=>
  match args with
  |[]=>rfl
  |[x]=>rfl
  |[x,k]=>exact R8 _ _ _ _ _
  |_::_::_::_=>rfl
 |_=>rfl
theorem Sk(P:Program)(m:Mem)(t:TypeId)(x:D)(lo hi C:Option D):sliceD P m t x lo hi C=(El P m t x lo hi C).map dE.fG:=by
 unfold sliceD El;cases x with
 |sl es n=>
  simp only;cases bndD lo 0<;>first|rfl|skip
  cases bndD hi n<;>first|rfl|skip
  cases C with
  |none=>rfl
  |some d=>
   simp only;cases d.int? <;>rfl
 |rs i off n=>
  simp only;cases m i with
  |none=>rfl
  |some r=>
   cases r<;>first|rfl|skip
   simp only;cases bndD lo 0<;>first|rfl|skip
   cases bndD hi n<;>first|rfl|skip
   cases C<;>rfl
 |s v=>
  cases v<;>first|rfl|skip
  simp only;cases bndD lo 0<;>first|rfl|skip
  rename_i b _;cases bndD hi b.size<;>first|rfl|skip
  cases C<;>rfl
 |_=>rfl
theorem Ko(P:Program)(o:Op)(ρ:Operand->D)(m:Mem)(nx:Nat):aop P o ρ m nx=(gK P o ρ m nx).map dE.fG:=by
 cases o with
 |call c=>
  simp only[aop,gK];cases c.callee with
  |builtin b=>
   simp only;split
   .exact RR _ _ _ _ _ _
   .rfl
  |_=>rfl
 |binOp op t x y _=>
  simp only[aop,gK,T3,T2];cases BH P m op t (ρ x) y with
  |some e=>rfl
  |none=>
   cases Fl P op t (ρ x) (ρ y) with
   |some r=>rfl
   |none=>rfl
 |lookup t x k ok=>exact R7 _ _ _ _ _ _
 |mapUpdate t x k v=>exact Iz _ _ _ _ _ _
 |insert t x k v=>exact Iz _ _ _ _ _ _
 |slice t x lo hi J=>exact Sk _ _ _ _ _ _ _
 |build t ps=>
  simp only[aop,gK];cases P.underlying t with
  |none=>rfl
  |some u=>
   cases u with
   |struct fs=>simp only;cases fillD _ _ _<;>rfl
   |array n e=>simp only;cases fillD _ _ _<;>rfl
   |_=>rfl
 |buildSlice t n ps=>
  simp only[aop,gK];cases fillD _ _ _<;>rfl
 |unOp op t x=>
  simp only[aop,gK];cases ρ x with
  |s v=>simp only;cases unV op v<;>rfl
  |_=>rfl
 |load t a=>
  simp only[aop,gK];cases ρ a with
  |rp i off=>simp only;cases m i with
   |none=>rfl
   |some r=>cases r<;>rfl
  |_=>rfl
 |store t a x=>
  simp only[aop,gK];cases ρ a with
  |rp i off=>simp only;cases m i with
   |none=>rfl
   |some r=>cases r<;>rfl
  |_=>rfl
 |pick c a b=>
  simp only[aop,gK];cases (ρ c).core.bool? <;>rfl
 |nilCheck x=>
  simp only[aop,gK];cases ρ x with
  |rp i off=>simp only;cases m i<;>rfl
  |_=>rfl
 |makeMap t r=>cases r<;>rfl
 |makeSlice t l c=>
  simp only[aop,gK];cases ρ l with
  |s v=>
   cases v with
   |int k n=>
    cases k with
    |i64=>
     cases ρ c with
     |s v=>cases v with
      |int k n=>cases k<;>rfl
      |_=>rfl
     |_=>rfl
    |_=>rfl
   |_=>rfl
  |_=>rfl
 |convert src dst x=>
  simp only[aop,gK];cases P.underlying dst with
  |none=>rfl
  |some u=>
   cases u with
   |int k=>cases ρ x with
    |s v=>cases v<;>rfl
    |_=>rfl
   |slice e=>cases ρ x with
    |s v=>cases v with
     |string b=>
      simp only;cases P.underlying e with
      |none=>rfl
      |some u=>
       cases u with
       |int k=>cases k<;>rfl
       |_=>rfl
     |_=>rfl
    |_=>rfl
   |_=>rfl
 |fieldAddr t x k=>
  simp only[aop,gK];cases fieldP P t k with
  |none=>rfl
  |some q=>
   obtain⟨off,C⟩:=q;cases ρ x with
   |rp i o=>simp only;cases m i<;>rfl
   |_=>rfl
 |field t x k=>
  simp only[aop,gK];cases fieldP P t k with
  |none=>rfl
  |some q=>
   obtain⟨off,C⟩:=q;cases ρ x<;>rfl
 |indexAddr t x i=>
  simp only[aop,gK];cases ρ x with
  |sl es n=>cases ρ i with
   |s v=>cases v<;>rfl
   |_=>rfl
  |rs j off n=>cases ρ i with
   |s v=>cases v with
    |int k n=>simp only;cases m j<;>rfl
    |_=>rfl
   |_=>rfl
  |rp j off=>cases ρ i with
   |s v=>cases v with
    |int k n=>simp only;cases m j<;>rfl
    |_=>rfl
   |_=>rfl
  |_=>rfl
 |index t x i=>
  simp only[aop,gK];cases ρ x with
  |s v=>cases v with
   |string b=>cases ρ i with
    |s v=>cases v<;>rfl
    |_=>rfl
   |_=>rfl
  |agg cs=>cases ρ i with
   |s v=>cases v<;>rfl
   |_=>rfl
  |_=>rfl
 |extract x k=>
  simp only[aop,gK];cases ρ x<;>rfl
 |_=>rfl
inductive T(α:Type) where
 |leaf
 |node (v:Option α) (l r:T α)
def T.get{α:Type}:T α->Nat->Option α
 | .leaf,_=>none
 | .node v l r,i=>bif Nat.beq i 0 then v else bif Nat.beq (i % 2) 1 then l.get (i / 2) else r.get (i / 2 - 1)
def T.set{α:Type}:Nat->T α->Nat->Option α->T α
 |0,t,_,_=>t
 |f+1,.leaf,i,v=>bif Nat.beq i 0 then .node v .leaf .leaf else bif Nat.beq (i % 2) 1 then .node none (T.set f .leaf (i / 2) v) .leaf else .node none .leaf (T.set f .leaf (i / 2 - 1) v)
 |f+1,.node v0 l r,i,v=>bif Nat.beq i 0 then .node v l r else bif Nat.beq (i % 2) 1 then .node v0 (T.set f l (i / 2) v) r else .node v0 l (T.set f r (i / 2 - 1) v)
theorem T.pW{α:Type}(v:Option α)(l r:T α)(i:Nat):(T.node v l r).get i=if i=0 then v else if i % 2=1 then l.get (i / 2) else r.get (i / 2 - 1):=by
 simp only[T.get,Bool.cond_eq_ite,Nat.beq_eq]
theorem T.yi{α:Type}(v:Option α):∀ (f:Nat) (t:T α) (i j:Nat),i+1<2 ^ f->(T.set f t i v).get j=if j=i then v else t.get j
 |0,t,i,j,h=>by simp at h
 |f+1,t,i,j,h=>by
  have h2:2 ^ (f+1)=2*2 ^ f:=by rw[Nat.pow_succ];omega
  have X:i % 2=1->i / 2+1<2 ^ f:=fun _=>by omega
  have gQ:i≠0->i % 2≠1->i / 2 - 1+1<2 ^ f:=fun _ _=>by omega
  have M:∀ k,(T.leaf:T α).get k=none:=fun k=>rfl;cases t with
  |leaf=>
   simp only[T.set,Bool.cond_eq_ite,Nat.beq_eq];by_cases h0:i=0
   .subst h0;simp only[if_true,T.pW,M];by_cases hj:j=0<;>simp[hj]
   .rw[if_neg h0];by_cases h1:i % 2=1
    .rw[if_pos h1,T.pW,T.yi v f _ _ _ (X h1)];simp only[M];by_cases hj:j=i
     .subst hj;simp[h0,h1]
     .rw[if_neg hj];by_cases C:j=0
      .rw[if_pos C]
      .rw[if_neg C];by_cases J:j % 2=1
       .rw[if_pos J,if_neg oG]
       .rw[if_neg J]
    .rw[if_neg h1,T.pW,T.yi v f _ _ _ (gQ h0 h1)];simp only[M];by_cases hj:j=i
     .subst hj;simp[h0,h1]
     .rw[if_neg hj];by_cases C:j=0
      .rw[if_pos C]
      .rw[if_neg C];by_cases J:j % 2=1
       .rw[if_pos J]
       .rw[if_neg J,if_neg oG]
  |node v0 l r=>
   simp only[T.set,Bool.cond_eq_ite,Nat.beq_eq];by_cases h0:i=0
   .subst h0;simp only[if_true,T.pW];by_cases hj:j=0<;>simp[hj]
   .rw[if_neg h0];by_cases h1:i % 2=1
    .rw[if_pos h1,T.pW,T.pW,T.yi v f _ _ _ (X h1)];by_cases hj:j=i
     .subst hj;simp[h0,h1]
     .rw[if_neg hj];by_cases C:j=0
      .rw[if_pos C,if_pos C]
      .rw[if_neg C,if_neg C];by_cases J:j % 2=1
       .rw[if_pos J,if_pos J,if_neg oG]
       .rw[if_neg J,if_neg J]
    .rw[if_neg h1,T.pW,T.pW,T.yi v f _ _ _ (gQ h0 h1)];by_cases hj:j=i
     .subst hj;simp[h0,h1]
     .rw[if_neg hj];by_cases C:j=0
      .rw[if_pos C,if_pos C]
      .rw[if_neg C,if_neg C];by_cases J:j % 2=1
       .rw[if_pos J,if_pos J]
       .rw[if_neg J,if_neg J,if_neg oG]
def T.put{α:Type}(t:T α)(i:Nat)(v:Option α):Option (T α):=bif Nat.blt i 1000000 then some (T.set 20 t i v) else none
theorem T.Kp{α:Type}{t C:T α}{i:Nat}{v:Option α}(h:t.put i v=some C)(j:Nat):C.get j=if j=i then v else t.get j:=by
 unfold T.put at h;cases hb:Nat.blt i 1000000 with
 |false=>rw[hb] at h;cases h
 |true=>
  rw[hb] at h;simp only[cond_true,ay] at h;subst h;have:i<1000000:=by simpa using hb
  exact T.yi v 20 t i j oG
structure bp where
 env:T D
 mem:T Row
 nx:Nat
def cw(t:T D):Env:=fun i=>(t.get i).getD .u
def dn(t:T Row):Mem:=fun i=>t.get i
def bp.st(c:bp):St:=⟨cw c.env,dn c.mem,c.nx⟩
theorem DZ{t C:T D}{i:Nat}{d:D}(h:t.put i (some d)=some C):cw C=up (cw t) i d:=by
 funext j;simp only[cw,T.Kp h,up_apply];split<;>rfl
theorem JK{t C:T Row}{i:Nat}{r:Option Row}(h:t.put i r=some C):dn C=up (dn t) i r:=by
 funext j;simp only[dn,T.Kp h,up_apply]
def wL(t:T D):Option Nat->D->Option (T D)
 |none,_=>some t
 |some i,d=>t.put i (some d)
def zq(m:T Row):List (Nat×Option Row)->Option (T Row)
 |[]=>some m
 |(i,r)::us=>match m.put i r with
  |some m'=>zq m' us
  |none=>none
theorem Em{t C:T D}{dst:Option Nat}{d:D}(h:wL t dst d=some C)(m:Mem)(nx:Nat):(⟨cw C,m,nx⟩:St)=St.put ⟨cw t,m,nx⟩ dst d:=by
 cases dst with
 |none=>simp only[wL,ay] at h;subst h;rfl
 |some i=>simp only[wL] at h;simp only[St.put,DZ h]
theorem JL:∀ {us:List (Nat×Option Row)} {m m':T Row},zq m us=some m'->dn m'=upds (dn m) us
 |[],m,m',h=>by simp only[zq,ay] at h;subst h;rfl
 |(i,r)::us,m,m',h=>by
  simp only[zq] at h;cases hp:m.put i r with
  |none=>rw[hp] at h;cases h
  |some m1=>
   rw[hp] at h;simp only at h;rw[JL h,JK hp];rfl
def mi:Nat->D->Bool
 |0,_=>false
 |n+1,d=>match d with
  | .rs .. | .rp .. | .mp _=>false
  | .opt _ d=>mi n d
  | .agg cs | .tup cs | .pt cs | .sl cs _=>cs.all (mi n)
  | .fn _ fs cs=>fs.all (mi n)&&cs.all (mi n)
  | .im es=>es.all fun x=>mi n x.2
  |_=>true
section
variable{P:Program}{F:Nat->Prop}{β:Pla}{w:World}
theorem lR:∀ {n:Nat} {d:D},mi n d=true->Tr d
 |0,_,h=>by cases h
 |n+1,d,h=>by
  cases d with
  |rs=>cases h
  |rp=>cases h
  |mp=>cases h
  |opt c d=>exact .opt (lR h)
  |agg cs=>exact .agg fun d hd=>lR (bh.1 h d hd)
  |tup cs=>exact .tup fun d hd=>lR (bh.1 h d hd)
  |sl cs n=>exact .sl fun d hd=>lR (bh.1 h d hd)
  |pt cs=>exact .pt fun d hd=>lR (bh.1 h d hd)
  |fn f fs cs=>
   simp only[mi,aG] at h;exact .fn (fun d hd=>lR (bh.1 h.1 d hd)) fun d hd=>lR (bh.1 h.2 d hd)
  |im es=>exact .im fun x hx=>lR (bh.1 h x hx)
  |s v=>exact .s v
  |ub=>exact .ub
  |u=>exact .u
  |z=>exact .z
def fD{α β:Type}(f:α->Option (β×List Nat)):List α->Option (List β×List Nat)
 |[]=>some ([],[])
 |x::xs=>match f x with
  |none=>none
  |some y=>match fD f xs with
   |none=>none
   |some ys=>some (y.1::ys.1,y.2++ys.2)
theorem AR{α β:Type}{f:α->Option (β×List Nat)}:∀ {xs:List α} {ys:List β} {r:List Nat},fD f xs=some (ys,r)->
 ys.length=xs.length/\(∀ (k:Nat) (y:β),ys[k]? =some y->∃ x r',xs[k]? =some x/\f x=some (y,r')/\∀ i∈r',i∈r)
 |[],ys,r,h=>by simp only[fD,ay,a8] at h;obtain⟨rfl,rfl⟩:=h;simp
 |x::xs,ys,r,h=>by
  simp only[fD] at h;cases hx:f x with
  |none=>rw[hx] at h;cases h
  |some y=>
   rw[hx] at h;simp only at h;cases J:fD f xs with
   |none=>rw[J] at h;cases h
   |some M=>
    rw[J] at h;simp only[ay,a8] at h;obtain⟨rfl,rfl⟩:=h;obtain⟨h1,h2⟩:=AR (ys:=M.1) (r:=M.2) J;refine⟨by simp[h1],fun k z C=>?_⟩;cases k with
    |zero=>
     simp only[List.getElem?_cons_zero,ay] at C;subst C;exact⟨x,y.2,rfl,hx,fun i hi=>by simp[hi]⟩
    |succ k=>
     obtain⟨x',r',X,g2,g3⟩:=h2 k z (by simpa using C);exact⟨x',r',by simpa using X,g2,fun i hi=>by simp[g3 i hi]⟩
def bI(P:Program)(m:Mem):Nat->D->Option (D×List Nat)
 |0,_=>none
 |n+1,d=>match d with
  | .mp i=>match m i with
   |some (.map es)=>(fD (fun x=>(bI P m n x.2).map fun y=>((x.1,y.1),y.2)) es).map fun x=>(.im x.1,i::x.2)
   |_=>none
  | .im es=>(fD (fun x=>(bI P m n x.2).map fun y=>((x.1,y.1),y.2)) es).map fun x=>(.im x.1,x.2)
  | .rs i off k=>match m i with
   |some (.cells cs e)=>(fD (bI P m n) ((cs.drop off).take (k*P.cellsOf e))).map fun x=>(.sl x.1 k,i::x.2)
   |_=>none
  | .rp i off=>match m i with
   |some (.cells cs _)=>(fD (bI P m n) (cs.drop off)).map fun x=>(.pt x.1,i::x.2)
   |_=>none
  | .opt true d=>(bI P m n d).map fun x=>(.opt true x.1,x.2)
  | .opt false _=>some (.opt false .u,[])
  | .agg cs=>(fD (bI P m n) cs).map fun x=>(.agg x.1,x.2)
  | .tup cs=>(fD (bI P m n) cs).map fun x=>(.tup x.1,x.2)
  | .sl cs k=>(fD (bI P m n) cs).map fun x=>(.sl x.1 k,x.2)
  | .pt cs=>(fD (bI P m n) cs).map fun x=>(.pt x.1,x.2)
  | .fn f fs cs=>match fD (bI P m n) fs with
   |none=>none
   |some x=>(fD (bI P m n) cs).map fun y=>(.fn f x.1 y.1,x.2++y.2)
  | .s v=>some (.s v,[])
  | .ub=>some (.ub,[])
  | .u=>some (.u,[])
  | .z=>some (.z,[])
theorem nB{α β:Type}{f:α->Option (β×List Nat)}{xs:List α}{ys:List β}{r:List Nat}(h:fD f xs=some (ys,r)){p:β->Prop}(hp:∀ x y r',f x=some (y,r')->p y):∀ y∈ys,p y:=fun y hy=>by
 obtain⟨k,hk⟩:=cU hy;obtain⟨x,r',_,h2,_⟩:=(AR h).2 k y hk;exact hp x y r' h2
theorem Bh{m:Mem}:∀ {n:Nat} {d d':D} {r:List Nat},bI P m n d=some (d',r)->Tr d'
 |0,_,_,_,h=>by cases h
 |n+1,d,d',r,h=>by
  have ih:∀ x y r',bI P m n x=some (y,r')->Tr y:=fun x y r' h=>Bh h
  have C:∀ (x:Value×D) (y:Value×D) r',(bI P m n x.2).map (fun y=>((x.1,y.1),y.2))=some (y,r')->Tr y.2:=fun x y r' h=>by
   simp only[bY,a8] at h;obtain⟨z,J,rfl,_⟩:=h;exact Bh (r:=z.2) J
  cases d with
  |mp i=>
   simp only[bI] at h;split at h
   .simp only[bY,a8] at h;obtain⟨x,hx,rfl,_⟩:=h;exact .im (nB (ys:=x.1) (r:=x.2) hx C)
   .cases h
  |im es=>
   simp only[bI,bY,a8] at h;obtain⟨x,hx,rfl,_⟩:=h;exact .im (nB (ys:=x.1) (r:=x.2) hx C)
  |rs i off k=>
   simp only[bI] at h;split at h
   .simp only[bY,a8] at h;obtain⟨x,hx,rfl,_⟩:=h;exact .sl (nB (ys:=x.1) (r:=x.2) hx ih)
   .cases h
  |rp i off=>
   simp only[bI] at h;split at h
   .simp only[bY,a8] at h;obtain⟨x,hx,rfl,_⟩:=h;exact .pt (nB (ys:=x.1) (r:=x.2) hx ih)
   .cases h
  |opt c d=>
   cases c with
   |true=>
    simp only[bI,bY,a8] at h;obtain⟨x,hx,rfl,_⟩:=h;exact .opt (Bh (r:=x.2) hx)
   |false=>simp only[bI,ay,a8] at h;obtain⟨rfl,_⟩:=h;exact .opt .u
  |agg cs=>
   simp only[bI,bY,a8] at h;obtain⟨x,hx,rfl,_⟩:=h;exact .agg (nB (ys:=x.1) (r:=x.2) hx ih)
  |tup cs=>
   simp only[bI,bY,a8] at h;obtain⟨x,hx,rfl,_⟩:=h;exact .tup (nB (ys:=x.1) (r:=x.2) hx ih)
  |sl cs k=>
   simp only[bI,bY,a8] at h;obtain⟨x,hx,rfl,_⟩:=h;exact .sl (nB (ys:=x.1) (r:=x.2) hx ih)
  |pt cs=>
   simp only[bI,bY,a8] at h;obtain⟨x,hx,rfl,_⟩:=h;exact .pt (nB (ys:=x.1) (r:=x.2) hx ih)
  |fn f fs cs=>
   simp only[bI] at h;cases hx:fD (bI P m n) fs with
   |none=>rw[hx] at h;cases h
   |some x=>
    rw[hx] at h;simp only[bY,a8] at h;obtain⟨y,hy,rfl,_⟩:=h;exact .fn (nB (ys:=x.1) (r:=x.2) hx ih) (nB (ys:=y.1) (r:=y.2) hy ih)
  |s v=>simp only[bI,ay,a8] at h;obtain⟨rfl,_⟩:=h;exact .s v
  |ub=>simp only[bI,ay,a8] at h;obtain⟨rfl,_⟩:=h;exact .ub
  |u=>simp only[bI,ay,a8] at h;obtain⟨rfl,_⟩:=h;exact .u
  |z=>simp only[bI,ay,a8] at h;obtain⟨rfl,_⟩:=h;exact .z
def Xh(P:Program)(F:Nat->Prop)(β:Pla)(w:World)(m:Mem)(rds:List Nat):Prop:=∀ i∈rds,∀ r,m i=some r->∃ p,β i=some p/\RowR P F β w r p/\∀ b,p.blk=some b->¬ F b
theorem vn(b:Nat):noRows.free b:=fun i p hp=>by cases hp
theorem yT{m:Mem}:∀ {n:Nat} {d d':D} {r:List Nat},bI P m n d=some (d',r)->Xh P F β w m r->∀ {v:Value},R F β w d v->R F noRows w d' v
 |0,_,_,_,h,_,_,_=>by cases h
 |n+1,d,d',r,h,hl,v,hv=>by
  have many:∀ {xs ys:List D} {r':List Nat},fD (bI P m n) xs=some (ys,r')->(∀ i∈r',i∈r)->ys.length=xs.length/\∀ (k:Nat) (d:D) (u:Value),ys[k]? =some d->(∀ M,xs[k]? =some M->R F β w M u)->R F noRows w d u:=fun h hr=>by
   obtain⟨h1,h2⟩:=AR h;refine⟨h1,fun k d u hd hu=>?_⟩;obtain⟨x,r2,C,J,g3⟩:=h2 k d hd;exact yT J (fun i hi=>hl i (hr i (g3 i hi))) (hu x C)
  have look:∀ {i:Nat} {cs:List D} {e:TypeId},i∈r->m i=some (.cells cs e)->∃ p,β i=some p/\RowR P F β w (.cells cs e) p/\∀ b,p.blk=some b->¬ F b:=fun hi hm=>hl _ hi _ hm
  have Ou:∀ {es ys:List (Value×D)} {r':List Nat} {ms:Array MapEntry},fD (fun x=>(bI P m n x.2).map fun y=>((x.1,y.1),y.2)) es=some (ys,r')->(∀ i∈r',i∈r)->ms.size=es.length->(es.map (·.1)).Nodup->
   (∀ (k:Nat) (x:Value×D) (m:MapEntry),es[k]? =some x->ms[k]? =some m->m.key=x.1/\R F β w x.2 m.val)->
   ms.size=ys.length/\(ys.map (·.1)).Nodup/\(∀ (k:Nat) (x:Value×D) (m:MapEntry),ys[k]? =some x->ms[k]? =some m->m.key=x.1)/\∀ (k:Nat) (x:Value×D) (m:MapEntry),ys[k]? =some x->ms[k]? =some m->R F noRows w x.2 m.val:=fun {es ys r' ms} h hr bt bG hh=>by
   obtain⟨h1,h2⟩:=AR h
   have key:∀ (k:Nat) (y:Value×D),ys[k]? =some y->∃ x r2,es[k]? =some x/\y.1=x.1/\bI P m n x.2=some (y.2,r2)/\∀ i∈r2,i∈r':=fun k y hy=>by
    obtain⟨x,r2,C,J,g3⟩:=h2 k y hy;simp only[bY,a8] at J;obtain⟨z,hz,rfl,rfl⟩:=J;exact⟨x,z.2,C,rfl,hz,g3⟩
   have keys:ys.map (·.1)=es.map (·.1):=by
    refine List.ext_getElem? fun k=>?_;simp only[List.getElem?_map];cases hy:ys[k]? with
    |some y=>
     obtain⟨x,_,C,J,_⟩:=key k y hy;simp[C,J]
    |none=>
     have:es[k]? =none:=by
      rw[List.getElem?_eq_none_iff] at hy ⊢;omega
     simp[this]
   refine⟨by rw[h1];exact bt,by rw[keys];exact bG,fun k y mm hy dG=>?_,fun k y mm hy dG=>?_⟩
   .obtain⟨x,r2,C,J,_⟩:=key k y hy;rw[J];exact(hh k x mm C dG).1
   .obtain⟨x,r2,C,_,g3,g4⟩:=key k y hy;exact yT g3 (fun i hi=>hl i (hr i (g4 i hi))) (hh k x mm C dG).2
  cases d with
  |mp i=>
   simp only[bI] at h;split at h
   .rename_i es hm;simp only[bY,a8] at h;obtain⟨x,hx,rfl,rfl⟩:=h;obtain⟨p,hp,aj,qS⟩:=hl i (List.mem_cons_self ..) _ hm;cases hv with
    |mpd _ _ h1 _=>rw[h1] at hp;cases hp;exact absurd rfl aj.live
    |mp _ b h1=>
     rw[h1] at hp;cases hp;cases aj with
     |map _ _ ms clock C J g3 g4=>
      obtain⟨k1,k2,k3,k4⟩:=Ou (ys:=x.1) (r':=x.2) hx (fun i hi=>List.mem_cons_of_mem _ hi) J g3 g4;exact .im x.1 b ms clock (qS b rfl) (vn b) C k1 k2 k3 k4
   .cases h
  |im es=>
   simp only[bI,bY,a8] at h;obtain⟨x,hx,rfl,rfl⟩:=h;cases hv with
   |im _ b ms clock hf hb hc J g3 g4 g5=>
    obtain⟨k1,k2,k3,k4⟩:=Ou (ys:=x.1) (r':=x.2) hx (fun _ h=>h) J g3 (fun k x m hx hm=>⟨g4 k x m hx hm,g5 k x m hx hm⟩);exact .im x.1 b ms clock hf (vn b) hc k1 k2 k3 k4
  |rs i off k=>
   simp only[bI] at h;split at h
   .rename_i cs e hm;simp only[bY,a8] at h;obtain⟨x,hx,rfl,rfl⟩:=h;obtain⟨p,hp,aj,qS⟩:=look (List.mem_cons_self ..) hm;obtain⟨C,J⟩:=many (ys:=x.1) (r':=x.2) hx (fun i hi=>List.mem_cons_of_mem _ hi)
    have nil:(cs.drop off).take (k*P.cellsOf e)=[]->x.1=[]:=fun e=>by
     rw[e] at C;exact List.eq_nil_of_length_eq_zero (by simpa using C)
    cases hv with
    |rsd _ _ _ _ h1 _=>
     rw[h1] at hp;cases hp;exact absurd rfl aj.live
    |rsn _ a h1=>
     rw[h1] at hp;cases hp;cases aj;rw[nil oS];exact .sln a 0
    |rsz _ _ a b o len room sz h1=>
     rw[nil oS];exact .sln a 0
    |rs _ _ _ cap b o len room sz h1 hn dD h2 h3=>
     rw[h1] at hp;cases hp;obtain⟨cK,hl,bt,_⟩:=aj.rd;obtain⟨us,u1,u2⟩:=(cK.drop off).take (k*P.cellsOf e)
     have af:b<w.heap.size:=by
      cases aj with
      |cells _ _ _ _ _ _ c hb=>exact(Array.getElem?_eq_some_iff.1 hb).1
     exact .sl x.1 k b (o+off) cap us (qS b rfl) (vn b) af hn dD (fun j hj=>u1 j (by rw[<- C];exact hj)) fun j d hd=>J j d _ hd fun M X=>u2 j M X
   .cases h
  |rp i off=>
   simp only[bI] at h;split at h
   .rename_i cs e hm;simp only[bY,a8] at h;obtain⟨x,hx,rfl,rfl⟩:=h;obtain⟨p,hp,aj,qS⟩:=look (List.mem_cons_self ..) hm;obtain⟨C,J⟩:=many (ys:=x.1) (r':=x.2) hx (fun i hi=>List.mem_cons_of_mem _ hi);cases hv with
    |rpd _ _ _ h1 _=>
     rw[h1] at hp;cases hp;exact absurd rfl aj.live
    |rp _ _ b o len room sz h1=>
     rw[h1] at hp;cases hp;obtain⟨cK,hl,bt,_⟩:=aj.rd;obtain⟨us,u1,u2⟩:=cK.drop off
     have af:b<w.heap.size:=by
      cases aj with
      |cells _ _ _ _ _ _ c hb=>exact(Array.getElem?_eq_some_iff.1 hb).1
     exact .pt x.1 b (o+off) us (qS b rfl) (vn b) af (fun j hj=>u1 j (by rw[<- C];exact hj)) fun j d hd=>J j d _ hd fun M X=>u2 j M X
   .cases h
  |opt c d=>
   cases hv with
   |opt _ _ _ h1 h2=>
   cases c with
   |true=>
    simp only[bI,bY,a8] at h;obtain⟨x,hx,rfl,rfl⟩:=h;exact .opt true _ v (fun _=>yT (r:=x.2) hx hl (h1 rfl)) oS
   |false=>simp only[bI,ay,a8] at h;obtain⟨rfl,_⟩:=h;exact .opt false _ v oS h2
  |agg cs=>
   simp only[bI,bY,a8] at h;obtain⟨x,hx,rfl,rfl⟩:=h;obtain⟨vs,rfl,pK,hh⟩:=hv.agg_inv;obtain⟨C,J⟩:=many (ys:=x.1) (r':=x.2) hx (fun _ h=>h);exact .agg _ vs (by rw[C];exact pK) fun k d u hd hu=>J k d u hd fun M X=>hh k M u X hu
  |tup cs=>
   simp only[bI,bY,a8] at h;obtain⟨x,hx,rfl,rfl⟩:=h;obtain⟨vs,rfl,pK,hh⟩:=hv.tup_inv;obtain⟨C,J⟩:=many (ys:=x.1) (r':=x.2) hx (fun _ h=>h);exact .tup _ vs (by rw[C];exact pK) fun k d u hd hu=>J k d u hd fun M X=>hh k M u X hu
  |sl cs k=>
   simp only[bI,bY,a8] at h;obtain⟨x,hx,rfl,rfl⟩:=h;obtain⟨C,J⟩:=many (ys:=x.1) (r':=x.2) hx (fun _ h=>h);cases hv with
   |sln a cap=>
    have:x.1=[]:=List.eq_nil_of_length_eq_zero (by simpa using C);rw[this];exact .sln a cap
   |sl _ _ b o cap us hf hb af mU dD hc hh=>
    exact .sl _ k b o cap us hf (vn b) af mU dD (fun j hj=>hc j (by rw[<- C];exact hj)) fun j d hd=>J j d _ hd fun M X=>hh j M X
  |pt cs=>
   simp only[bI,bY,a8] at h;obtain⟨x,hx,rfl,rfl⟩:=h;obtain⟨C,J⟩:=many (ys:=x.1) (r':=x.2) hx (fun _ h=>h);cases hv with
   |pt _ b o us hf hb af hc hh=>
    exact .pt _ b o us hf (vn b) af (fun j hj=>hc j (by rw[<- C];exact hj)) fun j d hd=>J j d _ hd fun M X=>hh j M X
  |fn f fs cs=>
   simp only[bI] at h;cases hx:fD (bI P m n) fs with
   |none=>rw[hx] at h;cases h
   |some x=>
    rw[hx] at h;simp only[bY,a8] at h;obtain⟨y,hy,rfl,rfl⟩:=h;obtain⟨C,J⟩:=many (ys:=x.1) (r':=x.2) hx (fun _ h=>List.mem_append_left _ h);obtain⟨k1,k2⟩:=many (ys:=y.1) (r':=y.2) hy (fun _ h=>List.mem_append_right _ h);cases hv with
    |fn _ _ _ us vs GM pK h1 h2=>
     exact .fn f _ _ us vs (by rw[C];exact GM) (by rw[k1];exact pK) (fun k d u hd hu=>J k d u hd fun M X=>h1 k M u X hu) fun k d u hd hu=>k2 k d u hd fun M X=>h2 k M u X hu
  |s v=>simp only[bI,ay,a8] at h;obtain⟨rfl,_⟩:=h;obtain⟨rfl,h⟩:=hv.s_inv;exact .s _ h
  |ub=>simp only[bI,ay,a8] at h;obtain⟨rfl,_⟩:=h;obtain⟨b,rfl⟩:=hv.ub_inv;exact .ub b
  |u=>simp only[bI,ay,a8] at h;obtain⟨rfl,_⟩:=h;exact .u v
  |z=>simp only[bI,ay,a8] at h;obtain⟨rfl,_⟩:=h;obtain⟨a,rfl⟩:=hv.z_inv;exact .z a
end
section
variable(P:Program)
def si(env:Env)(o:Op):Bool:=match o with
 | .pick c _ _=>decide (opd env c).ask
 |o=>o.operands.toList.all fun x=>decide (opd env x).ask
theorem Dt{env:Env}{o:Op}(h:si env o=true):asks env o:=by
 unfold si at h;unfold asks;cases o<;>first|exact of_decide_eq_true h|exact fun x hx=>of_decide_eq_true (bh.1 h x hx)
abbrev pd:=FuncId->List D->Bool->T Row->Nat->Option (D×T Row×Nat×List Nat×List Nat)
def Bi(call:pd)(f:FuncId)(args:List D)(dr:Bool)(o:Oper)(c:bp):Option (bp×List Nat×List Nat):=
 bif si (cw c.env) o.op then match call f args dr c.mem c.nx with
  |some (r,m,nx,rd,wr)=>match wL c.env o.dst r with
   |some env=>some (⟨env,m,nx⟩,rd,wr)
   |none=>none
  |none=>none
 else none
def B2(e:dE)(o:Oper)(c:bp):Option (bp×List Nat×List Nat):=
 bif si (cw c.env) o.op then match e.dec with
  |isTrue _=>match zq c.mem e.ups with
   |some m=>match wL c.env o.dst e.val with
    |some env=>some (⟨env,m,c.nx+e.new⟩,e.rd,e.ups.map (·.1))
    |none=>none
   |none=>none
  |isFalse _=>none
 else none
def sj(o:Oper)(d:D)(rd:List Nat)(c:bp):Option (bp×List Nat×List Nat):=match wL c.env o.dst d with
 |some env=>some (⟨env,c.mem,c.nx⟩,rd,[])
 |none=>none
def GY(call:pd)(ops:Array Oper)(dr:Bool)(o:Oper)(c:bp):Option (bp×List Nat×List Nat):=
 match o.guard with
 |none=>match callD (rho (cw c.env) o.op) o.op with
  |some (f,args)=>Bi call f args dr o c
  |none=>match yieldD (rho (cw c.env) o.op) o.op with
   |some _=>none
   |none=>match gK P o.op (rho (cw c.env) o.op) (dn c.mem) c.nx with
    |some e=>B2 e o c
    |none=>none
 |some (j,b)=>match ((ops[j]?).bind (·.dst)).bind fun t=>guardC (cw c.env t) b with
  |none=>none
  |some g=>match callD (rho (cw c.env) o.op) o.op with
   |some (f,args)=>bif g then Bi call f args dr o c else sj o skipD [] c
   |none=>match yieldD (rho (cw c.env) o.op) o.op with
    |some _=>bif g then none else sj o skipD [] c
    |none=>match gK P o.op (rho (cw c.env) o.op) (dn c.mem) c.nx with
     |some e=>bif e.ups.isEmpty&&Nat.beq e.new 0 then
      bif g then bif si (cw c.env) o.op then match e.dec with
       |isTrue _=>sj o (.opt true e.val) e.rd c
       |isFalse _=>none
      else none
      else sj o (.opt false e.val) e.rd c
      else bif g then B2 e o c else sj o skipD [] c
     |none=>bif g then none else sj o skipD [] c
def wM(call:pd)(ops:Array Oper)(dr:Bool):List Oper->bp->Tra->Option (bp×Tra)
 |[],c,tr=>some (c,tr)
 |o::os,c,tr=>match GY P call ops dr o c with
  |some (c',rd,wr)=>wM call ops dr os c' (tr++[(rd,wr)])
  |none=>none
def By(tr:Tra)(i j:Nat):Bool:=
 let a:=tr.getD i ([],[])
 let b:=tr.getD j ([],[])
 (a.2.all fun x=> !(b.1.any (Nat.beq x))&& !(b.2.any (Nat.beq x)))&&b.2.all fun x=> !(a.1.any (Nat.beq x))
theorem T5{tr:Tra}{i j:Nat}(h:By tr i j=true):apartT tr i j:=by
 unfold By at h;simp only[aG,bh,Bool.not_eq_true',List.any_eq_false,Nat.beq_eq] at h;obtain⟨h1,h2⟩:=h;exact⟨fun x hx=>⟨fun hb=>(h1 x hx).1 x hb rfl,fun hb=>(h1 x hx).2 x hb rfl⟩,fun x hx ha=>h2 x hx x ha rfl⟩
def En(call:pd)(ops:Array Oper)(dr:Bool)(c:bp):Option bp:=
 bif dr then match drawInfo ops with
  |some cf=>match wM P call ops true ops.toList c [] with
   |some (c',tr)=>bif cf.all fun q=>By tr q.1 q.2 then some c' else none
   |none=>none
  |none=>none
 else match wM P call ops false ops.toList c [] with
  |some (c',_)=>some c'
  |none=>none
def yU(call:pd):Prop:=∀ f args dr m nx r m' nx' rd wr,call f args dr m nx=some (r,m',nx',rd,wr)->∀ env (K:D->Mem->Nat->List Nat->List Nat->Prop),K r (dn m') nx' rd wr->CallOp P dr ⟨env,dn m,nx⟩ f args K
end
section
variable{P:Program}
theorem IN{call:pd}(hc:yU P call){f:FuncId}{args:List D}{dr:Bool}{o:Oper}{c:bp}{C:bp}{rd wr:List Nat}(h:Bi call f args dr o c=some (C,rd,wr)){K:St->List Nat->List Nat->Prop}(J:K C.st rd wr):
 asks c.st.env o.op/\CallOp P dr c.st f args fun r m nx rd wr=>K (St.put ⟨c.st.env,m,nx⟩ o.dst r) rd wr:=by
 unfold Bi at h;cases ha:si (cw c.env) o.op with
 |false=>rw[ha] at h;cases h
 |true=>
  rw[ha] at h;simp only[cond_true] at h;refine⟨Dt ha,?_⟩;split at h
  .rename_i r m nx GZ wr' M;split at h
   .rename_i env X;simp only[ay,a8] at h;obtain⟨rfl,rfl,rfl⟩:=h;refine hc _ _ _ _ _ _ _ _ _ _ M _ _ ?_;have:=Em X (dn m) nx;simp only[bp.st] at J ⊢;rw[<- this];exact J
   .cases h
  .cases h
theorem vu{o:Oper}{d:D}{rd C wr:List Nat}{c J:bp}(h:sj o d rd c=some (J,C,wr)):J.st=St.put c.st o.dst d/\C=rd/\wr=[]:=by
 unfold sj at h;split at h
 .rename_i env M;simp only[ay,a8] at h;obtain⟨rfl,rfl,rfl⟩:=h;exact⟨Em M (dn c.mem) c.nx,rfl,rfl⟩
 .cases h
theorem JM{e:dE}{o:Oper}{c C:bp}{rd wr:List Nat}(h:B2 e o c=some (C,rd,wr)){K:St->List Nat->List Nat->Prop}(J:K C.st rd wr):
 asks c.st.env o.op/\e.pre/\K (St.put ⟨c.st.env,upds c.st.mem e.ups,c.st.nx+e.new⟩ o.dst e.val) e.rd (e.ups.map (·.1)):=by
 unfold B2 at h;cases ha:si (cw c.env) o.op with
 |false=>rw[ha] at h;cases h
 |true=>
  rw[ha] at h;simp only[cond_true] at h;refine⟨Dt ha,?_⟩;split at h
  .rename_i hp _;refine⟨hp,?_⟩;split at h
   .rename_i m hm;split at h
    .rename_i env M;simp only[ay,a8] at h;obtain⟨rfl,rfl,rfl⟩:=h;have:=Em M (dn m) (c.nx+e.new);simp only[bp.st] at J ⊢;rw[<- JL hm, <- this];exact J
    .cases h
   .cases h
  .cases h
theorem I5{o:Op}{ρ:Operand->D}{m:Mem}{nx:Nat}{e:dE}(h:gK P o ρ m nx=some e):aop P o ρ m nx=some e.fG:=by rw[Ko,h];rfl
theorem S3{o:Op}{ρ:Operand->D}{m:Mem}{nx:Nat}(h:gK P o ρ m nx=none):aop P o ρ m nx=none:=by rw[Ko,h];rfl
theorem Wa{call:pd}(lj:yU P call){ops:Array Oper}{dr:Bool}{o:Oper}{c c':bp}{rd wr:List Nat}(h:GY P call ops dr o c=some (c',rd,wr)){K:St->List Nat->List Nat->Prop}(C:K c'.st rd wr):
 AOp P noY ops dr o c.st K:=by
 unfold GY at h;unfold AOp;split at h
 .rename_i hg;simp only[hg];split at h
  .rename_i f args hc;obtain⟨h1,h2⟩:=IN lj h C;refine⟨h1,?_⟩;simp only[bp.st] at h2 ⊢;rw[hc];exact h2
  .rename_i hc;split at h
   .cases h
   .rename_i hy;split at h
    .rename_i e he;obtain⟨h1,h2,h3⟩:=JM h C;refine⟨h1,?_⟩;have:=I5 he;simp only[bp.st] at h2 h3 ⊢;rw[hc];simp only;rw[hy];simp only;rw[this];exact⟨h2,h3⟩
    .cases h
 .rename_i j b hg;simp only[hg];split at h
  .cases h
  .rename_i g X;have ZK:(((ops[j]?).bind (·.dst)).bind fun t=>guardC (c.st.env t) b)=some g:=X;rw[ZK];simp only;split at h
   .rename_i f args hc;have xh:callD (rho c.st.env o.op) o.op=some (f,args):=hc;rw[xh];simp only;cases g with
    |true=>
     simp only[cond_true] at h;exact .inr ⟨fun _=>IN lj h C,oS⟩
    |false=>
     simp only[cond_false] at h;obtain⟨h1,rfl,rfl⟩:=vu h;exact .inr ⟨oS,fun _=>h1▸C⟩
   .rename_i hc;have xh:callD (rho c.st.env o.op) o.op=none:=hc;rw[xh];simp only;split at h
    .rename_i y hy;have s7:yieldD (rho c.st.env o.op) o.op=some y:=hy;rw[s7];obtain⟨l,args⟩:=y;cases g with
     |true=>simp at h
     |false=>
      simp only[cond_false] at h;obtain⟨h1,rfl,rfl⟩:=vu h;exact⟨oS,fun _=>h1▸C⟩
    .rename_i hy;have s7:yieldD (rho c.st.env o.op) o.op=none:=hy;rw[s7];simp only;split at h
     .rename_i e he;have M:aop P o.op (rho c.st.env o.op) c.st.mem c.st.nx=some e.fG:=I5 he;rw[M];cases J:(e.ups.isEmpty&&Nat.beq e.new 0) with
      |true=>
       have hb:(e.fG.ups.isEmpty&&e.fG.new==0)=true:=by
        have:∀ a:Nat,(a==0)=Nat.beq a 0:=fun a=>by cases a<;>rfl
        simp only[dE.fG,this];exact J
       simp only[hb,if_true];rw[J] at h;simp only[cond_true] at h;cases g with
       |true=>
        simp only[cond_true] at h;cases ha:si (cw c.env) o.op with
        |false=>rw[ha] at h;cases h
        |true=>
         rw[ha] at h;simp only[cond_true] at h;split at h
         .rename_i hp _;obtain⟨h1,rfl,rfl⟩:=vu h;exact⟨fun _=>⟨Dt ha,hp⟩,h1▸C⟩
         .cases h
       |false=>
        simp only[cond_false] at h;obtain⟨h1,rfl,rfl⟩:=vu h;exact⟨oS,h1▸C⟩
      |false=>
       have hb:(e.fG.ups.isEmpty&&e.fG.new==0)=false:=by
        have:∀ a:Nat,(a==0)=Nat.beq a 0:=fun a=>by cases a<;>rfl
        simp only[dE.fG,this];exact J
       simp only[hb,Bool.false_eq_true,if_false];rw[J] at h;simp only[cond_false] at h;cases g with
       |true=>
        simp only[cond_true] at h;exact⟨fun _=>JM h C,oS⟩
       |false=>
        simp only[cond_false] at h;obtain⟨h1,rfl,rfl⟩:=vu h;exact⟨oS,fun _=>h1▸C⟩
     .rename_i he;have M:aop P o.op (rho c.st.env o.op) c.st.mem c.st.nx=none:=S3 he;rw[M];simp only;cases g with
      |true=>simp at h
      |false=>
       simp only[cond_false] at h;obtain⟨h1,rfl,rfl⟩:=vu h;exact⟨rfl,h1▸C⟩
theorem D0{call:pd}(X:yU P call){ops:Array Oper}{dr:Bool}{cf:List (Nat×Nat)}{Q:Exit->St->Prop}:∀ (M:List Oper) (c C:bp) (tr J:Tra),wM P call ops dr M c tr=some (C,J)->(∀ q∈cf,apartT J q.1 q.2)->Q .normal C.st->
 AOps P noY ops dr cf Q M c.st tr
 |[],c,C,tr,J,h,mg,hQ=>by
  simp only[wM,ay,a8] at h;obtain⟨rfl,rfl⟩:=h;exact⟨mg,hQ⟩
 |o::M,c,C,tr,J,h,mg,hQ=>by
  simp only[wM] at h;split at h
  .rename_i c1 rd wr h1;exact Wa X h1 (D0 X M c1 C _ J h mg hQ)
  .cases h
theorem Sl{call:pd}(X:yU P call){ops:Array Oper}{dr:Bool}{c J:bp}(h:En P call ops dr c=some J){id:Nat}{rf:Bool}{Q:Exit->St->Prop}(M:Q .normal J.st):AW P noY rf (.region id ops dr) Q c.st:=by
 unfold En at h;cases dr with
 |true=>
  simp only[cond_true] at h;split at h
  .rename_i cf mg;split at h
   .rename_i c1 tr h1;cases C:cf.all fun q=>By tr q.1 q.2 with
    |false=>rw[C] at h;cases h
    |true=>
     rw[C] at h;simp only[cond_true,ay] at h;subst h
     show match drawInfo ops with
      |some cf=>AOps P noY ops true cf Q ops.toList c.st []
      |none=>False
     rw[mg];exact D0 X _ _ _ _ _ h1 (fun q hq=>T5 (bh.1 C q hq)) M
   .cases h
  .cases h
 |false=>
  simp only[cond_false] at h;split at h
  .rename_i c1 tr h1;simp only[ay] at h;subst h;exact D0 (cf:=[]) X _ _ _ _ _ h1 oS M
  .cases h
end
structure Ctx where
 CA:FuncId->Option (Func×Code)
 iter:FuncId->List D->List D->Option (List (List D))
 known:FuncId->List D->Option D
structure Ctx.Ok(P:Program)(x:Ctx):Prop where
 mix:P.follows .mixedOrders=true
 CA:∀ f fn c,x.CA f=some (fn,c)->jz P f fn c
 iter:∀ f fs cs xs,x.iter f fs cs=some xs->SeqA P f fs cs xs/\∀ y∈xs,∀ d∈y,Tr d
 known:∀ f args r,x.known f args=some r->PCall P f args r
def r7:Nat->List D->T D->Option (T D)
 |_,[],t=>some t
 |k,d::ds,t=>match t.put k (some d) with
  |some C=>r7 (k+1) ds C
  |none=>none
theorem IP:∀ {ds:List D} {k:Nat} {t C:T D},r7 k ds t=some C->∀ j,cw C j=if k<=j/\j<k+ds.length then ds.getD (j - k) .u else cw t j
 |[],k,t,C,h,j=>by
  simp only[r7,ay] at h;subst h;rw[if_neg oS]
 |d::ds,k,t,C,h,j=>by
  simp only[r7] at h;split at h
  .rename_i J h1;rw[IP h j,DZ h1];by_cases hj:j=k
   .subst hj;rw[if_neg oG,up_same,if_pos oS];simp
   .rw[up_ne _ _ hj];by_cases af:k+1<=j/\j<k+1+ds.length
    .rw[if_pos af,if_pos oP];have:j - k=(j - (k+1))+1:=by omega
     rw[this];simp
    .rw[if_neg af,if_neg oP]
  .cases h
theorem IQ{args:List D}{t:T D}(h:r7 0 args .leaf=some t):cw t=envOf args:=by
 funext j;rw[IP h j];unfold envOf;split
 .simp
 .rename_i hj;have:args.length<=j:=by omega
  simp[cw,T.get,this]
def vK:T D->List Tmp->List D->Option (T D)
 |t,p::ps,d::ds=>match t.put p (some d) with
  |some C=>vK C ps ds
  |none=>none
 |t,_,_=>some t
theorem IA:∀ {ps:List Tmp} {ds:List D} {t C:T D},vK t ps ds=some C->cw C=setAll (cw t) ps ds
 |[],ds,t,C,h=>by simp only[vK,ay] at h;subst h;rfl
 |_::_,[],t,C,h=>by simp only[vK,ay] at h;subst h;rfl
 |p::ps,d::ds,t,C,h=>by
  simp only[vK] at h;split at h
  .rename_i J h1;rw[IA h,DZ h1];rfl
  .cases h
section
variable(P:Program)
def F0(c:bp):ResultVar->Option D
 | .tmp t=>some (cw c.env t)
 | .cell a t=>match cw c.env a with
  | .rp i off=>match c.mem.get i with
   |some (.cells cs _)=>bif tyOk P t&&Nat.ble (off+P.cellsOf t) cs.length then some (takeV P t (cs.drop off)) else none
   |_=>none
  | .pt cs=>bif tyOk P t&&Nat.ble (P.cellsOf t) cs.length then some (takeV P t cs) else none
  |_=>none
def wN(c:bp):List ResultVar->Option (List D)
 |[]=>some []
 |r::rs=>match F0 P c r with
  |some d=>match wN c rs with
   |some ds=>some (d::ds)
   |none=>none
  |none=>none
def zr(x:Ctx)(C:Bool->Code->bp->Option (Exit×bp))(f:FuncId)(args:List D)(m:T Row)(nx:Nat):Option (D×T Row×Nat):=
 match x.CA f with
 |none=>none
 |some (fn,c)=>bif Nat.ble args.length fn.ntmps then
  match r7 0 args .leaf with
  |none=>none
  |some t=>match C true c ⟨t,m,nx⟩ with
   |some (.normal,s)=>match wN P s fn.results.toList with
    |some ds=>some (one1 ds,s.mem,s.nx)
    |none=>none
   |some (.ret,s)=>match wN P s fn.results.toList with
    |some ds=>some (one1 ds,s.mem,s.nx)
    |none=>none
   |_=>none
  else none
def depth:Nat:=12
def wv(x:Ctx)(C:Bool->Code->bp->Option (Exit×bp))(f:FuncId)(args:List D):Option (D ⊕ (List D×Nat×TypeId)):=
 match zr P x C f args .leaf 0 with
 |none=>none
 |some (d,m,_)=>match d with
  | .rs i 0 k=>match m.get i with
   |some (.cells es t)=>bif es.all (mi depth) then some (.inr (es,k,t)) else match bI P (dn m) depth (.rs i 0 k) with
    |some (r,_)=>some (.inl r)
    |none=>none
   |_=>none
  |d=>match bI P (dn m) depth d with
   |some (r,_)=>some (.inl r)
   |none=>none
def Fo(x:Ctx)(C:Bool->Code->bp->Option (Exit×bp)):pd:=fun f args dr m nx=>
 match x.known f args with
 |some r=>some (r,m,nx,[],[])
 |none=>bif args.all (mi depth) then match wv P x C f args with
  |some (.inl r)=>some (r,m,nx,[],[])
  |some (.inr (es,k,t))=>match m.put nx (some (.cells es t)) with
   |some m'=>some (.rs nx 0 k,m',nx+1,[],[nx])
   |none=>none
  |none=>none
  else bif dr then match fD (bI P (dn m) depth) args with
   |none=>none
   |some (args',rds)=>match x.known f args' with
    |some r=>bif r.scal then some (r,m,nx,rds,[]) else none
    |none=>match wv P x C f args' with
     |some (.inl r)=>bif r.scal then some (r,m,nx,rds,[]) else none
     |_=>none
  else match zr P x C f args m nx with
   |some (d,m',nx')=>some (d,m',nx',[],[])
   |none=>none
def yj(C:Bool->Code->bp->Option (Exit×bp))(env:T D)(ps:List Tmp)(assign body:Code):List (List D)->T Row->Nat->Option (Exit×T Row×Nat)
 |[],m,nx=>some (.normal,m,nx)
 |y::ys,m,nx=>match vK env ps y with
  |none=>none
  |some t=>match C false assign ⟨t,m,nx⟩ with
   |some (.normal,s)=>match C false body s with
    |some (.normal,s')=>yj C env ps assign body ys s'.mem s'.nx
    |some (.ret,s')=>some (.ret,s'.mem,s'.nx)
    |some (.exit i,s')=>some (.exit i,s'.mem,s'.nx)
    |_=>none
   |_=>none
def mM(x:Ctx)(C:Bool->Code->bp->Option (Exit×bp))(rf:Bool)(c:Code)(s:bp):Option (Exit×bp):=match c with
 | .skip=>some (.normal,s)
 | .region _ ops dr=>match En P (Fo P x C) ops dr s with
  |some s'=>some (.normal,s')
  |none=>none
 | .seq a b=>match C rf a s with
  |some (.normal,s')=>C rf b s'
  |r=>r
 | .cond c a b=>bif decide (opd (cw s.env) c).ask then match (opd (cw s.env) c).core with
   | .s (.bool t)=>bif t then C rf a s else C rf b s
   |_=>none
  else none
 | .block id b=>match C rf b s with
  |some (.exit i,s')=>bif Nat.beq i id then some (.normal,s') else some (.exit i,s')
  |r=>r
 | .scope b=>match C rf b s with
  |some (.goto _,_)=>none
  |r=>r
 | .loop b=>match C rf b s with
  |some (.normal,s')=>C rf (.loop b) s'
  |r=>r
 | .rangeFunc g ps assign body=>bif rf&&decide (opd (cw s.env) g).ask then match (opd (cw s.env) g).core with
   | .fn (.func f) fs cs=>match x.iter f fs cs with
    |some ys=>bif ys.all fun y=>Nat.beq y.length ps.size then match yj C s.env ps.toList assign body ys s.mem s.nx with
     |some (e,m,nx)=>some (e,⟨s.env,m,nx⟩)
     |none=>none
     else none
    |none=>none
   |_=>none
  else none
 | .exit id=>some (.exit id,s)
 | .label _=>some (.normal,s)
 | .ret=>some (.ret,s)
 |_=>none
def uK(x:Ctx):Nat->Bool->Code->bp->Option (Exit×bp)
 |0=>fun _ _ _=>none
 |n+1=>mM P x (uK x n)
end
section
variable{P:Program}{x:Ctx}
theorem EN{c:bp}{K:List D->Prop}:∀ {rs:List ResultVar} {ds C:List D},wN P c rs=some ds->K (C++ds)->retL P c.st rs C K
 |[],ds,C,h,hK=>by
  simp only[wN,ay] at h;subst h;simpa[retL] using hK
 |r::rs,ds,C,h,hK=>by
  simp only[wN] at h;split at h
  .rename_i d hd;split at h
   .rename_i sT J;simp only[ay] at h;subst h
    have M:∃ p,resD P c.st r=some (p,d)/\p:=by
     cases r with
     |tmp t=>
      simp only[F0,ay] at hd;exact⟨True,by simp only[resD,bp.st,hd],trivial⟩
     |cell a t=>
      simp only[F0] at hd;simp only[resD,bp.st];split at hd
      .rename_i i off ha;rw[ha];simp only;split at hd
       .rename_i cs e hm;have X:dn c.mem i=some (.cells cs e):=hm;rw[X];simp only;cases hb:(tyOk P t&&Nat.ble (off+P.cellsOf t) cs.length) with
        |false=>rw[hb] at hd;cases hd
        |true=>
         rw[hb] at hd;simp only[cond_true,ay] at hd;simp only[aG,Nat.ble_eq] at hb;exact⟨_,by rw[hd],hb⟩
       .cases hd
      .rename_i cs ha;rw[ha];simp only;cases hb:(tyOk P t&&Nat.ble (P.cellsOf t) cs.length) with
       |false=>rw[hb] at hd;cases hd
       |true=>
        rw[hb] at hd;simp only[cond_true,ay] at hd;simp only[aG,Nat.ble_eq] at hb;exact⟨_,by rw[hd],hb⟩
      .cases hd
    obtain⟨p,h1,h2⟩:=M;simp only[retL,h1];exact⟨h2,EN J (by simpa using hK)⟩
   .cases h
  .cases h
def wO(P:Program)(C:Bool->Code->bp->Option (Exit×bp)):Prop:=∀ rf c s e s',C rf c s=some (e,s')->∀ Q:Exit->St->Prop,Q e s'.st->AW P noY rf c Q s.st
theorem Kq(hx:x.Ok P){J:Bool->Code->bp->Option (Exit×bp)}(M:wO P J){f:FuncId}{args:List D}{m m':T Row}{nx nx':Nat}{d:D}(h:zr P x J f args m nx=some (d,m',nx')):
 ∃ fn c,jz P f fn c/\Nat.ble args.length fn.ntmps=true/\∀ K:D->St->Prop,(∀ env,K d ⟨env,dn m',nx'⟩)->AW P noY true c (retQ P fn.results.toList K) ⟨envOf args,dn m,nx⟩:=by
 unfold zr at h;split at h
 .cases h
 .rename_i fn c ZL;cases hb:Nat.ble args.length fn.ntmps with
  |false=>rw[hb] at h;cases h
  |true=>
   rw[hb] at h;simp only[cond_true] at h;split at h
   .cases h
   .rename_i t ht;refine⟨fn,c,hx.CA f fn c ZL,hb,fun K X=>?_⟩;rw[<- IQ ht];split at h
    .rename_i s hs;split at h
     .rename_i ds C;simp only[ay,a8] at h;obtain⟨rfl,rfl,rfl⟩:=h;exact M _ _ _ _ _ hs _ (EN (K:=fun ds=>K (one1 ds) s.st) C (X _))
     .cases h
    .rename_i s hs;split at h
     .rename_i ds C;simp only[ay,a8] at h;obtain⟨rfl,rfl,rfl⟩:=h;exact M _ _ _ _ _ hs _ (EN (K:=fun ds=>K (one1 ds) s.st) C (X _))
     .cases h
    .cases h
theorem S4:dn .leaf=fun _=>none:=rfl
theorem Sm(J:P.follows .mixedOrders=true){fn:Func}{f:FuncId}{c:Code}(hf:jz P f fn c){args:List D}(hn:Nat.ble args.length fn.ntmps=true)(ht:∀ a∈args,Tr a){d r:D}{m:Mem}{n:Nat}{rds:List Nat}(hd:bI P m n d=some (r,rds))
 (h:AW P noY true c (retQ P fn.results.toList fun d' st=>d'=d/\st.mem=m) ⟨envOf args,fun _=>none,0⟩):PCall P f args r:=
 ⟨hf.he,ht,fun F w vs hF hR=>(vD J hf.hf hf.hb hf.af hn h (fun _ _ _ _ _ h=>h.elim) (AP hF) (fun _ _=>rfl) hR).mono fun e w' hp=>by
  obtain⟨v,d',st',β',h1,⟨rfl,rfl⟩,h3,h4,h5,C,M,h8⟩:=hp
  exact⟨v,h1,yT hd (fun i _ r hr=>by
   obtain⟨p,hp,aj⟩:=h4.row i r hr
   exact⟨p,hp,aj,fun b hb=>h4.nf i p b hp hb⟩) h3,AI C⟩⟩
theorem Du(hx:x.Ok P){J:Bool->Code->bp->Option (Exit×bp)}(gQ:wO P J){f:FuncId}{args:List D}(ht:∀ a∈args,Tr a):
 (∀ r,wv P x J f args=some (.inl r)->PCall P f args r)/\∀ es k t,wv P x J f args=some (.inr (es,k,t))->OCall P f args es k t:=by
 unfold wv;cases X:zr P x J f args .leaf 0 with
 |none=>exact⟨fun r h=>oH,fun es k t h=>oH⟩
 |some q=>
  obtain⟨d,m,nx⟩:=q;obtain⟨fn,c,hf,hn,C⟩:=Kq hx gQ X
  have deep:∀ d r rds,d=d->bI P (dn m) depth d=some (r,rds)->(∀ K:D->St->Prop,(∀ env,K d ⟨env,dn m,nx⟩)->AW P noY true c (retQ P fn.results.toList K) ⟨envOf args,dn .leaf,0⟩)->PCall P f args r:=fun d r rds _ hd C=>
   Sm hx.mix hf hn ht hd (C _ fun env=>⟨rfl,rfl⟩)
  simp only;split
  .rename_i i k;split
   .rename_i es t hm;cases M:es.all (mi depth) with
    |true=>
     simp only[cond_true];refine⟨fun r h=>(by simp at h),fun es' k' t' h=>?_⟩;simp only[ay,Sum.inr.injEq,a8] at h;obtain⟨rfl,rfl,rfl⟩:=h;exact JJ hx.mix hf hn ht (fun a ha=>lR (bh.1 M a ha)) (C _ fun env=>⟨i,rfl,hm⟩)
    |false=>
     simp only[cond_false];split
     .rename_i r rds hd;exact⟨fun r' h=>(by simp only[ay,Sum.inl.injEq] at h;subst h;exact deep _ _ _ rfl hd C),fun es k t h=>(by simp at h)⟩
     .exact⟨fun r h=>oH,fun es k t h=>oH⟩
   .exact⟨fun r h=>oH,fun es k t h=>oH⟩
  .split
   .rename_i r rds hd;exact⟨fun r' h=>(by simp only[ay,Sum.inl.injEq] at h;subst h;exact deep _ _ _ rfl hd C),fun es k t h=>(by simp at h)⟩
   .exact⟨fun r h=>oH,fun es k t h=>oH⟩
theorem IB{m:Mem}{n:Nat}{rds:List Nat}:∀ {aS bs:List D} {r:List Nat},fD (bI P m n) aS=some (bs,r)->(∀ i∈r,i∈rds)->Sns P rds m aS bs
 |[],bs,r,h,_=>by
  simp only[fD,ay,a8] at h;obtain⟨rfl,_⟩:=h;trivial
 |a::aS,bs,r,h,hr=>by
  simp only[fD] at h;split at h
  .cases h
  .rename_i y hy;split at h
   .cases h
   .rename_i ys C;simp only[ay,a8] at h;obtain⟨rfl,rfl⟩:=h;exact⟨fun F β w v hl hv=>yT (r:=y.2) hy (fun i hi=>hl i (hr i (List.mem_append_left _ hi))) hv,IB (r:=ys.2) C fun i hi=>hr i (List.mem_append_right _ hi)⟩
theorem T6(hx:x.Ok P){ev:Bool->Code->bp->Option (Exit×bp)}(M:wO P ev):yU P (Fo P x ev):=by
 intro f args dr m nx r m' nx' rd wr h env K C;unfold Fo at h;split at h
 .rename_i r' hk;simp only[ay,a8] at h;obtain⟨rfl,rfl,rfl,rfl,rfl⟩:=h;exact .inl ⟨_,hx.known _ _ _ hk,C⟩
 .cases J:args.all (mi depth) with
  |true=>
   rw[J] at h;simp only[cond_true] at h;obtain⟨h1,h2⟩:=Du hx M (f:=f) (args:=args) fun a ha=>lR (bh.1 J a ha);split at h
   .rename_i r' hp;simp only[ay,a8] at h;obtain⟨rfl,rfl,rfl,rfl,rfl⟩:=h;exact .inl ⟨_,h1 _ hp,C⟩
   .rename_i es k t hp;split at h
    .rename_i m1 hm;simp only[ay,a8] at h;obtain⟨rfl,rfl,rfl,rfl,rfl⟩:=h;rw[JK hm] at C;exact .inr (.inr (.inl ⟨es,k,t,h2 _ _ _ hp,C⟩))
    .cases h
   .cases h
  |false=>
   rw[J] at h;simp only[cond_false] at h;cases dr with
   |true=>
    simp only[cond_true] at h;split at h
    .cases h
    .rename_i args' rds X;have aH:∀ a∈args',Tr a:=nB X fun x y r' h=>Bh h;have kM:Sns P rds (dn m) args args':=IB X fun _ h=>h;split at h
     .rename_i r' hk;cases hs:r'.scal with
      |false=>rw[hs] at h;cases h
      |true=>
       rw[hs] at h;simp only[cond_true,ay,a8] at h;obtain⟨rfl,rfl,rfl,rfl,rfl⟩:=h;exact .inr (.inl ⟨args',_,_,kM,hx.known _ _ _ hk,hs,C⟩)
     .split at h
      .rename_i r' hp;cases hs:r'.scal with
       |false=>rw[hs] at h;cases h
       |true=>
        rw[hs] at h;simp only[cond_true,ay,a8] at h;obtain⟨rfl,rfl,rfl,rfl,rfl⟩:=h;exact .inr (.inl ⟨args',_,_,kM,(Du hx M aH).1 _ hp,hs,C⟩)
      .cases h
   |false=>
    simp only[cond_false] at h;split at h
    .rename_i d m1 Qo dU;simp only[ay,a8] at h;obtain⟨rfl,rfl,rfl,rfl,rfl⟩:=h;obtain⟨fn,c,hf,hn,uL⟩:=Kq hx M dU;exact .inr (.inr (.inr (.inl ⟨rfl,JI hx.mix hf hn (uL (fun d st=>K d st.mem st.nx [] []) fun env=>C)⟩)))
    .cases h
theorem IS{ev:Bool->Code->bp->Option (Exit×bp)}(J:wO P ev){env:T D}{ps:List Tmp}{assign body:Code}{Q:Exit->St->Prop}:∀ {ys:List (List D)} {m m':T Row} {nx nx':Nat} {e:Exit},yj ev env ps assign body ys m nx=some (e,m',nx')->
 Q e ⟨cw env,dn m',nx'⟩->∃ I:Nat->Mem->Nat->Prop,I 0 (dn m) nx/\
  (∀ k m nx y,ys[k]? =some y->I k m nx->AW P noY false assign (assignQ fun s=>AW P noY false body (roundQ (cw env) (I (k+1)) Q) s) ⟨setAll (cw env) ps y,m,nx⟩)/\
  ∀ m nx,I ys.length m nx->Q .normal ⟨cw env,m,nx⟩
 |[],m,m',nx,nx',e,h,hQ=>by
  simp only[yj,ay,a8] at h;obtain⟨rfl,rfl,rfl⟩:=h;exact⟨fun _ a b=>a=dn m/\b=nx,⟨rfl,rfl⟩,fun k _ _ y hy=>by simp at hy,fun a b h=>by obtain⟨rfl,rfl⟩:=h;exact hQ⟩
 |y::ys,m,m',nx,nx',e,h,hQ=>by
  simp only[yj] at h;split at h
  .cases h
  .rename_i t ht;have qB:=IA ht;split at h
   .rename_i s hs
    have done:∀ (I:Nat->Mem->Nat->Prop),AW P noY false body (roundQ (cw env) (I 0) Q) s.st->
     (∀ k m nx y,ys[k]? =some y->I k m nx->AW P noY false assign (assignQ fun s=>AW P noY false body (roundQ (cw env) (I (k+1)) Q) s) ⟨setAll (cw env) ps y,m,nx⟩)->
     (∀ m nx,I ys.length m nx->Q .normal ⟨cw env,m,nx⟩)->
     ∃ I:Nat->Mem->Nat->Prop,I 0 (dn m) nx/\
      (∀ k m nx z,(y::ys)[k]? =some z->I k m nx->AW P noY false assign (assignQ fun s=>AW P noY false body (roundQ (cw env) (I (k+1)) Q) s) ⟨setAll (cw env) ps z,m,nx⟩)/\
      ∀ m nx,I (y::ys).length m nx->Q .normal ⟨cw env,m,nx⟩:=fun I h1 h2 h3=>by
     refine⟨fun k a b=>match k with|0=>a=dn m/\b=nx|k+1=>I k a b,⟨rfl,rfl⟩,fun k a b z X M=>?_,fun a b M=>h3 a b M⟩;cases k with
     |zero=>
      obtain⟨rfl,rfl⟩:=M;simp only[List.getElem?_cons_zero,ay] at X;subst X;rw[<- qB];exact J _ _ _ _ _ hs _ h1
     |succ k=>exact h2 k a b z (by simpa using X) M
    split at h
    .rename_i s' C;obtain⟨I,g1,g2,g3⟩:=IS J h hQ;exact done I (J _ _ _ _ _ C _ g1) g2 g3
    .rename_i s' C;simp only[ay,a8] at h;obtain⟨rfl,rfl,rfl⟩:=h;exact done (fun _ _ _=>False) (J _ _ _ _ _ C _ hQ) (fun _ _ _ _ _ h=>h.elim) fun _ _ h=>h.elim
    .rename_i i s' C;simp only[ay,a8] at h;obtain⟨rfl,rfl,rfl⟩:=h;exact done (fun _ _ _=>False) (J _ _ _ _ _ C _ hQ) (fun _ _ _ _ _ h=>h.elim) fun _ _ h=>h.elim
    .cases h
   .cases h
theorem LH(hx:x.Ok P):∀ n,wO P (uK P x n):=by
 intro n
 induction n using Nat.strongRecOn with
 |_ n ih=>
  cases n with
  |zero=>intro rf c s e s' h;cases h
  |succ n=>
   have J:=ih n (Nat.lt_succ_self n);intro rf c s e s' h Q C;simp only[uK] at h;cases c with
   |skip=>
    simp only[mM,ay,a8] at h;obtain⟨rfl,rfl⟩:=h;exact C
   |ret=>
    simp only[mM,ay,a8] at h;obtain⟨rfl,rfl⟩:=h;exact C
   |label l=>
    simp only[mM,ay,a8] at h;obtain⟨rfl,rfl⟩:=h;exact C
   |exit id=>
    simp only[mM,ay,a8] at h;obtain⟨rfl,rfl⟩:=h;exact C
   |region id ops dr=>
    simp only[mM] at h;split at h
    .rename_i s1 h1;simp only[ay,a8] at h;obtain⟨rfl,rfl⟩:=h;exact Sl (T6 hx J) h1 C
    .cases h
   |seq a b=>
    simp only[mM] at h;split at h
    .rename_i s1 h1;exact J _ _ _ _ _ h1 _ ⟨_,.refl _,J _ _ _ _ _ h _ C⟩
    .rename_i X;refine J _ _ _ _ _ h _ ?_;cases e with
     |normal=>exact absurd h (X s')
     |_=>exact C
   |cond c a b=>
    simp only[mM] at h;cases M:decide (opd (cw s.env) c).ask with
    |false=>rw[M] at h;cases h
    |true=>
     rw[M] at h;simp only[cond_true] at h;refine⟨of_decide_eq_true M,?_⟩;split at h
     .rename_i t ht;have ht':(opd s.st.env c).core=.s (.bool t):=ht;rw[ht'];cases t with
      |true=>exact⟨fun _=>J _ _ _ _ _ h _ C,fun h=>by cases h⟩
      |false=>exact⟨fun h=>oH,fun _=>J _ _ _ _ _ h _ C⟩
     .cases h
   |block id b=>
    simp only[mM] at h;split at h
    .rename_i i s1 h1;refine J _ _ _ _ _ h1 (blockQ id Q) ?_;simp only[blockQ];cases hb:Nat.beq i id with
     |true=>
      rw[hb] at h;simp only[cond_true,ay,a8] at h;obtain⟨rfl,rfl⟩:=h;rw[if_pos (Nat.eq_of_beq_eq_true hb)];exact C
     |false=>
      rw[hb] at h;simp only[cond_false,ay,a8] at h;obtain⟨rfl,rfl⟩:=h;rw[if_neg (Nat.ne_of_beq_eq_false hb)];exact C
    .rename_i X;refine J _ _ _ _ _ h (blockQ id Q) ?_;cases e with
     |exit i=>exact absurd h (X i s')
     |_=>exact C
   |scope b=>
    simp only[mM] at h;split at h
    .cases h
    .rename_i X;refine J _ _ _ _ _ h (scopeQ Q) ?_;cases e with
     |goto l=>exact absurd h (X l s')
     |_=>exact C
   |loop b=>
    refine JN (fun j st=>j<=n+1/\∃ s,st=s.st/\uK P x j rf (.loop b) s=some (e,s')) (j₀:=n+1) ⟨aU _,s,rfl,h⟩ ?_;rintro j st ⟨hj,s,rfl,hs⟩;cases j with
    |zero=>cases hs
    |succ j=>
     have Qp:=ih j oG;simp only[uK,mM] at hs;split at hs
     .rename_i s1 h1;exact Qp _ _ _ _ _ h1 _ ⟨_,.refl _,j,Nat.lt_succ_self j,oG,s1,rfl,hs⟩
     .rename_i X;refine Qp _ _ _ _ _ hs _ ?_;cases e with
      |normal=>exact absurd hs (X s')
      |_=>exact C
   |rangeFunc g ps assign body=>
    simp only[mM] at h;cases M:(rf&&decide (opd (cw s.env) g).ask) with
    |false=>rw[M] at h;cases h
    |true=>
     rw[M] at h;simp only[cond_true] at h;simp only[aG] at M;split at h
     .rename_i f fs cs wq;split at h
      .rename_i ys xi;cases br:ys.all fun y=>Nat.beq y.length ps.size with
       |false=>rw[br] at h;cases h
       |true=>
        rw[br] at h;simp only[cond_true] at h;split at h
        .rename_i e1 m nx hr;simp only[ay,a8] at h;obtain⟨rfl,rfl⟩:=h;obtain⟨I,g1,g2,g3⟩:=IS J hr C;obtain⟨k1,k2⟩:=hx.iter _ _ _ _ xi;exact⟨M.1,of_decide_eq_true M.2,f,fs,cs,ys,I,wq,k1,fun y hy=>⟨Nat.eq_of_beq_eq_true (bh.1 br y hy),k2 y hy⟩,g1,g2,g3⟩
        .cases h
      .cases h
     .cases h
   |_=>cases h
theorem iF(hx:x.Ok P)(n:Nat){f:FuncId}{args:List D}{r:D}(ht:args.all (mi depth)=true)(h:wv P x (uK P x n) f args=some (.inl r)):PCall P f args r:=
 (Du hx (LH hx n) fun a ha=>lR (bh.1 ht a ha)).1 r h
end
def aw:List (Nat×D)->Env
 |[],_=>.u
 |(t,d)::l,j=>if j=t then d else aw l j
def gU:List (Nat×D)->Env->Prop
 |[],_=>True
 |(t,d)::l,env=>env t=d/\gU l env
theorem kY:∀ {l:List (Nat×D)} {env:Env},gU l env->∀ t,aw l t=env t\/aw l t=.u
 |[],_,_,_=>.inr rfl
 |(k,d)::l,env,h,t=>by
  simp only[aw];by_cases ht:t=k
  .subst ht;rw[if_pos rfl];exact .inl h.1.symm
  .rw[if_neg ht];exact kY h.2 t
def eZ(env:Env):List Operand->Prop
 |[]=>True
 |x::xs=>(opd env x).ask/\eZ env xs
theorem JQ{env:Env}:∀ {l:List Operand},eZ env l->∀ x∈l,(opd env x).ask
 |[],_,x,h=>by cases h
 |y::l,h,x,hx=>by
  cases hx with
  |head=>exact h.1
  |tail _ hx=>exact JQ h.2 x hx
theorem mB{env:Env}{o:Op}(h:eZ env o.operands.toList):asks env o:=by
 have:=JQ h;unfold asks;cases o<;>first|exact this|exact this _ dI
section
variable{P:Program}{Y:YSpec}{rf:Bool}
structure Ef(P:Program)(op:Op)(env:Env)(m:Mem)(nx:Nat)(e:Eff):Prop where
 ok:aop P op (rho env op) m nx=some e
 nc:callD (rho env op) op=none
 ny:yieldD (rho env op) op=none
variable{ops:Array Oper}{dr:Bool}{cf:List (Nat×Nat)}{Q:Exit->St->Prop}{rest:List Oper}{env:Env}{m:Mem}{nx:Nat}{tr:Tra}{t:Nat}{op:Op}{ty:TypeId}{pos:String}{after:Array Edge}
 {pre:Prop} {v:D} {rd:List Nat}
theorem uc{d:Option Nat}{e:Eff}(he:Ef P op env m nx e)(ha:asks env op)(hp:e.pre)(K:AOps P Y ops dr cf Q rest (St.put ⟨env,upds m e.ups,nx+e.new⟩ d e.val) (tr++[(e.rd,e.ups.map (·.1))])):
 AOps P Y ops dr cf Q (⟨d,op,ty,pos,after,none⟩::rest) ⟨env,m,nx⟩ tr:=by
 simp only[AOps,AOp];rw[he.nc,he.ny,he.ok];exact⟨ha,hp,K⟩
theorem au(he:Ef P op env m nx ⟨pre,v,[],rd,0⟩)(ha:eZ env op.operands.toList)(hp:pre)(K:AOps P Y ops dr cf Q rest ⟨up env t v,m,nx⟩ (tr++[(rd,[])])):
 AOps P Y ops dr cf Q (⟨some t,op,ty,pos,after,none⟩::rest) ⟨env,m,nx⟩ tr:=uc he (mB ha) hp K
theorem vM{c a b:Operand}{g:Bool}(hc:(opd env c).core=.s (.bool g)):Ef P (.pick c a b) env m nx ⟨(g=true->(opd env a).ask/\(opd env a).core.bool?.isSome=true)/\(g=false->(opd env b).ask/\(opd env b).core.bool?.isSome=true),
 .s (.bool (if g then(opd env a).core.bool?.getD false else(opd env b).core.bool?.getD false)),[],[],0⟩:=⟨by simp only[aop,rho,hc,D.bool?],rfl,rfl⟩
theorem Vj{c a b:Operand}{g x y:Bool}(hc:opd env c=.s (.bool g))(ha:(opd env a).core=.s (.bool x))(hb:(opd env b).core=.s (.bool y))(h1:g=true->(opd env a).ask)(h2:g=false->(opd env b).ask)
 (K:AOps P Y ops dr cf Q rest ⟨up env t (.s (.bool (if g then x else y))),m,nx⟩ (tr++[([],[])])):
 AOps P Y ops dr cf Q (⟨some t,.pick c a b,ty,pos,after,none⟩::rest) ⟨env,m,nx⟩ tr:=by
 refine uc (vM (g:=g) (by rw[hc];rfl)) (by simp only[asks,hc,D.ask]) ⟨fun h=>⟨h1 h,by rw[ha];rfl⟩,fun h=>⟨h2 h,by rw[hb];rfl⟩⟩ ?_;simp only[ha,hb,D.bool?,Option.getD_some];exact K
theorem Ub{c a b:Operand}{x:Bool}(hc:opd env c=.s (.bool true))(ha:(opd env a).core=.s (.bool x))(h1:(opd env a).ask)
 (K:AOps P Y ops dr cf Q rest ⟨up env t (.s (.bool x)),m,nx⟩ (tr++[([],[])])):
 AOps P Y ops dr cf Q (⟨some t,.pick c a b,ty,pos,after,none⟩::rest) ⟨env,m,nx⟩ tr:=by
 refine uc (vM (g:=true) (by rw[hc];rfl)) (by simp only[asks,hc,D.ask]) ⟨fun _=>⟨h1,by rw[ha];rfl⟩,fun h=>by cases h⟩ ?_;simp only[ha,D.bool?,Option.getD_some,if_true];exact K
theorem Uc{c a b:Operand}{y:Bool}(hc:opd env c=.s (.bool false))(hb:(opd env b).core=.s (.bool y))(h2:(opd env b).ask)
 (K:AOps P Y ops dr cf Q rest ⟨up env t (.s (.bool y)),m,nx⟩ (tr++[([],[])])):
 AOps P Y ops dr cf Q (⟨some t,.pick c a b,ty,pos,after,none⟩::rest) ⟨env,m,nx⟩ tr:=by
 refine uc (vM (g:=false) (by rw[hc];rfl)) (by simp only[asks,hc,D.ask]) ⟨fun h=>oH,fun _=>⟨h2,by rw[hb];rfl⟩⟩ ?_;simp only[hb,D.bool?,Option.getD_some,Bool.false_eq_true,if_false];exact K
theorem bB{i:Nat}{row:Option Row}(he:Ef P op env m nx ⟨pre,v,[(i,row)],rd,0⟩)(ha:eZ env op.operands.toList)(hp:pre)(K:AOps P Y ops dr cf Q rest ⟨env,up m i row,nx⟩ (tr++[(rd,[i])])):
 AOps P Y ops dr cf Q (⟨none,op,ty,pos,after,none⟩::rest) ⟨env,m,nx⟩ tr:=uc he (mB ha) hp K
theorem fa{row:Row}(he:Ef P op env m nx ⟨pre,v,[(nx,some row)],rd,1⟩)(ha:eZ env op.operands.toList)(hp:pre)(K:AOps P Y ops dr cf Q rest ⟨up env t v,up m nx (some row),nx+1⟩ (tr++[(rd,[nx])])):
 AOps P Y ops dr cf Q (⟨some t,op,ty,pos,after,none⟩::rest) ⟨env,m,nx⟩ tr:=uc he (mB ha) hp K
theorem sH{i:Nat}{row:Row}(he:Ef P op env m nx ⟨pre,v,[(i,none),(nx,some row)],rd,1⟩)(ha:eZ env op.operands.toList)(hp:pre)(K:AOps P Y ops dr cf Q rest ⟨up env t v,up (up m i none) nx (some row),nx+1⟩ (tr++[(rd,[i,nx])])):
 AOps P Y ops dr cf Q (⟨some t,op,ty,pos,after,none⟩::rest) ⟨env,m,nx⟩ tr:=uc he (mB ha) hp K
theorem aT{j:Nat}{b c:Bool}{u:Nat}(hj:(ops[j]?).bind (·.dst)=some u)(hg:guardC (env u) b=some c)(he:Ef P op env m nx ⟨pre,v,[],rd,0⟩)(ha:c=true->eZ env op.operands.toList/\pre)
 (K:AOps P Y ops dr cf Q rest ⟨up env t (.opt c v),m,nx⟩ (tr++[(rd,[])])):AOps P Y ops dr cf Q (⟨some t,op,ty,pos,after,some (j,b)⟩::rest) ⟨env,m,nx⟩ tr:=by
 simp only[AOps,AOp];rw[hj];simp only[Option.bind_some];rw[hg,he.nc,he.ny,he.ok];exact⟨fun hc=>⟨mB (ha hc).1,(ha hc).2⟩,K⟩
theorem Ud{j:Nat}{b0 C:Bool}{u:Nat}(hj:(ops[j]?).bind (·.dst)=some u)(hg:guardC (env u) b0=some C){c a b:Operand}{g x y:Bool}(hc:(opd env c).core=.s (.bool g))(ha:(opd env a).core=.s (.bool x))(hb:(opd env b).core=.s (.bool y))
 (h0:C=true->(opd env c).ask) (h1:C=true->g=true->(opd env a).ask) (h2:C=true->g=false->(opd env b).ask)
 (K:AOps P Y ops dr cf Q rest ⟨up env t (.opt C (.s (.bool (if g then x else y)))),m,nx⟩ (tr++[([],[])])):
 AOps P Y ops dr cf Q (⟨some t,.pick c a b,ty,pos,after,some (j,b0)⟩::rest) ⟨env,m,nx⟩ tr:=by
 have he:=vM (P:=P) (env:=env) (m:=m) (nx:=nx) (a:=a) (b:=b) hc;simp only[ha,hb,D.bool?,Option.getD_some,Option.isSome_some,and_true] at he;simp only[AOps,AOp];rw[hj];simp only[Option.bind_some];rw[hg,he.nc,he.ny,he.ok];exact⟨fun hc=>⟨by simp only[asks];exact h0 hc,h1 hc,h2 hc⟩,K⟩
theorem Xm{j:Nat}{b:Bool}{u:Nat}{d:Option Nat}{e:Eff}(hj:(ops[j]?).bind (·.dst)=some u)(hg:guardC (env u) b=some true)(he:Ef P op env m nx e)(ha:eZ env op.operands.toList)(hp:e.pre)
 (K:e.ups=[]->e.new=0->AOps P Y ops dr cf Q rest (St.put ⟨env,m,nx⟩ d (.opt true e.val)) (tr++[(e.rd,[])]))
 (K':AOps P Y ops dr cf Q rest (St.put ⟨env,upds m e.ups,nx+e.new⟩ d e.val) (tr++[(e.rd,e.ups.map (·.1))])):AOps P Y ops dr cf Q (⟨d,op,ty,pos,after,some (j,b)⟩::rest) ⟨env,m,nx⟩ tr:=by
 simp only[AOps,AOp];rw[hj];simp only[Option.bind_some];rw[hg,he.nc,he.ny,he.ok];simp only;split
 .rename_i h;simp only[aG,List.isEmpty_iff,beq_iff_eq] at h;exact⟨fun _=>⟨mB ha,hp⟩,K h.1 h.2⟩
 .exact⟨fun _=>⟨mB ha,hp,K'⟩,oS⟩
theorem ML{j:Nat}{b:Bool}{u:Nat}{d:Option Nat}(hj:(ops[j]?).bind (·.dst)=some u)(hg:guardC (env u) b=some false)
 (K:∀ (x:D) rd,AOps P Y ops dr cf Q rest (St.put ⟨env,m,nx⟩ d (.opt false x)) (tr++[(rd,[])])):AOps P Y ops dr cf Q (⟨d,op,ty,pos,after,some (j,b)⟩::rest) ⟨env,m,nx⟩ tr:=by
 simp only[AOps,AOp];rw[hj];simp only[Option.bind_some];rw[hg];simp only;split
 .exact .inr ⟨oS,fun _=>K .u []⟩
 .split
  .exact⟨oS,fun _=>K .u []⟩
  .split
   .split
    .exact⟨oS,K _ _⟩
    .exact⟨oS,fun _=>K .u []⟩
   .exact⟨trivial,K .u []⟩
theorem aeR{j:Nat}{b:Bool}{u t:Nat}(hj:(ops[j]?).bind (·.dst)=some u)(hg:guardC (env u) b=some false)
 (K:∀ (x:D) rd,AOps P Y ops dr cf Q rest ⟨up env t (.opt false x),m,nx⟩ (tr++[(rd,[])])):AOps P Y ops dr cf Q (⟨some t,op,ty,pos,after,some (j,b)⟩::rest) ⟨env,m,nx⟩ tr:=ML hj hg K
theorem yl{f:FuncId}{args:List D}{d:Option Nat}(hc:callD (rho env op) op=some (f,args))(ha:eZ env op.operands.toList)(h:CallOp P dr ⟨env,m,nx⟩ f args fun r m nx rd wr=>AOps P Y ops dr cf Q rest (St.put ⟨env,m,nx⟩ d r) (tr++[(rd,wr)])):
 AOps P Y ops dr cf Q (⟨d,op,ty,pos,after,none⟩::rest) ⟨env,m,nx⟩ tr:=by
 simp only[AOps,AOp];rw[hc];exact⟨mB ha,h⟩
theorem Xn{f:FuncId}{args:List D}{r:D}(h:PCall P f args r)(hc:callD (rho env op) op=some (f,args))(ha:eZ env op.operands.toList)(K:AOps P Y ops dr cf Q rest ⟨up env t r,m,nx⟩ (tr++[([],[])])):
 AOps P Y ops dr cf Q (⟨some t,op,ty,pos,after,none⟩::rest) ⟨env,m,nx⟩ tr:=yl hc ha (.inl ⟨r,h,K⟩)
theorem ww{f:FuncId}{args es:List D}{n:Nat}{C:TypeId}(h:OCall P f args es n C)(hc:callD (rho env op) op=some (f,args))(ha:eZ env op.operands.toList)(K:AOps P Y ops dr cf Q rest ⟨up env t (.rs nx 0 n),up m nx (some (.cells es C)),nx+1⟩ (tr++[([],[nx])])):
 AOps P Y ops dr cf Q (⟨some t,op,ty,pos,after,none⟩::rest) ⟨env,m,nx⟩ tr:=yl hc ha (.inr (.inr (.inl ⟨es,n,C,h,K⟩)))
theorem gW{f:FuncId}{args:List D}{d:Option Nat}{bA:D->Mem->Nat->Prop}(h:ACalls P f args m nx bA)(hc:callD (rho env op) op=some (f,args))(ha:eZ env op.operands.toList)
 (K:∀ r m' nx',bA r m' nx'->AOps P Y ops false cf Q rest (St.put ⟨env,m',nx'⟩ d r) (tr++[([],[])])):
 AOps P Y ops false cf Q (⟨d,op,ty,pos,after,none⟩::rest) ⟨env,m,nx⟩ tr:=yl hc ha (.inr (.inr (.inr (.inl ⟨rfl,h.mono K⟩))))
theorem Xo{f:FuncId}{args args':List D}{r:D}{rds:List Nat}(h:PCall P f args' r)(hs:r.scal=true)(C:Sns P rds m args args')(hc:callD (rho env op) op=some (f,args))(ha:eZ env op.operands.toList)
 (K:AOps P Y ops dr cf Q rest ⟨up env t r,m,nx⟩ (tr++[(rds,[])])):AOps P Y ops dr cf Q (⟨some t,op,ty,pos,after,none⟩::rest) ⟨env,m,nx⟩ tr:=yl hc ha (.inr (.inl ⟨args',rds,r,C,h,hs,K⟩))
theorem ud{j:Nat}{b c:Bool}{u:Nat}{f:FuncId}{args:List D}{r:D}(hj:(ops[j]?).bind (·.dst)=some u)(hg:guardC (env u) b=some c)(hc:callD (rho env op) op=some (f,args))(h:c=true->eZ env op.operands.toList/\PCall P f args r)
 (K:AOps P Y ops dr cf Q rest ⟨up env t (.opt c r),m,nx⟩ (tr++[([],[])])):AOps P Y ops dr cf Q (⟨some t,op,ty,pos,after,some (j,b)⟩::rest) ⟨env,m,nx⟩ tr:=by
 simp only[AOps,AOp];rw[hj];simp only[Option.bind_some];rw[hg,hc];exact .inl ⟨r,fun C=>⟨mB (h C).1,(h C).2⟩,K⟩
theorem T'{j:Nat}{b:Bool}{u:Nat}{d:Option Nat}{f:FuncId}{args:List D}(hj:(ops[j]?).bind (·.dst)=some u)(hg:guardC (env u) b=some true)(hc:callD (rho env op) op=some (f,args))(ha:eZ env op.operands.toList)
 (h:CallOp P dr ⟨env,m,nx⟩ f args fun r m nx rd wr=>AOps P Y ops dr cf Q rest (St.put ⟨env,m,nx⟩ d r) (tr++[(rd,wr)])):AOps P Y ops dr cf Q (⟨d,op,ty,pos,after,some (j,b)⟩::rest) ⟨env,m,nx⟩ tr:=by
 simp only[AOps,AOp];rw[hj];simp only[Option.bind_some];rw[hg,hc];exact .inr ⟨fun _=>⟨mB ha,h⟩,oS⟩
theorem F4{l:Nat}{args:List D}{d:Option Nat}(hc:callD (rho env op) op=none)(hy:yieldD (rho env op) op=some (l,args))(ha:eZ env op.operands.toList)(h:Y l args m nx fun r m' nx'=>AOps P Y ops false cf Q rest (St.put ⟨env,m',nx'⟩ d r) (tr++[([],[])])):
 AOps P Y ops false cf Q (⟨d,op,ty,pos,after,none⟩::rest) ⟨env,m,nx⟩ tr:=by
 simp only[AOps,AOp];rw[hc,hy];exact⟨mB ha,trivial,h⟩
theorem BM{j:Nat}{b:Bool}{u:Nat}{l:Nat}{args:List D}{d:Option Nat}(hj:(ops[j]?).bind (·.dst)=some u)(hg:guardC (env u) b=some true)(hc:callD (rho env op) op=none)(hy:yieldD (rho env op) op=some (l,args))(ha:eZ env op.operands.toList)
 (h:Y l args m nx fun r m' nx'=>AOps P Y ops false cf Q rest (St.put ⟨env,m',nx'⟩ d r) (tr++[([],[])])):AOps P Y ops false cf Q (⟨d,op,ty,pos,after,some (j,b)⟩::rest) ⟨env,m,nx⟩ tr:=by
 simp only[AOps,AOp];rw[hj];simp only[Option.bind_some];rw[hg,hc,hy];exact⟨fun _=>⟨mB ha,trivial,h⟩,oS⟩
def dV(K:St->Prop):Exit->St->Prop
 | .normal,st=>K st
 |_,_=>True
theorem aa{K:St->Prop}{st:St}(h:K st):AOps P Y ops dr [] (dV K) [] st tr:=⟨oS,h⟩
theorem bE{K:St->Prop}{st:St}(hc:∀ q∈cf,apartT tr q.1 q.2)(h:K st):AOps P Y ops dr cf (dV K) [] st tr:=⟨hc,h⟩
variable{st:St}{a b c:Code}
theorem AOps.iv{cf:List (Nat×Nat)}{K:St->Prop}{Q:Exit->St->Prop}[cR Y]{l:List Oper}(h:AOps P Y ops dr cf (dV K) l st tr)(hk:∀ st,K st->Q .normal st):AOps P Y ops dr cf Q l st tr:=
 AOps.mono (Q:=dV K) (fun st h=>hk st h) l st tr h
theorem lL[cR Y]{id:Nat}(h:AOps P Y ops false [] (dV fun st=>Q .normal st) ops.toList st []):AW P Y rf (.region id ops false) Q st:=AOps.iv h fun _ h=>h
theorem wc[cR Y]{id:Nat}(hi:drawInfo ops=some cf)(h:AOps P Y ops true cf (dV fun st=>Q .normal st) ops.toList st []):AW P Y rf (.region id ops true) Q st:=by
 show match drawInfo ops with
  |some cf=>AOps P Y ops true cf Q ops.toList st []
  |none=>False
 rw[hi];exact AOps.iv h fun _ h=>h
theorem ai[cR Y]{id:Nat}(h:AOps P Y ops false [] (dV fun st=>AW P Y rf b Q st) ops.toList st []):AW P Y rf (.seq (.region id ops false) b) Q st:=
 lL (rf:=rf) (id:=id) (AOps.iv h fun st h=>⟨st,.refl st,h⟩)
theorem fK[cR Y]{id:Nat}(hi:drawInfo ops=some cf)(h:AOps P Y ops true cf (dV fun st=>AW P Y rf b Q st) ops.toList st []):AW P Y rf (.seq (.region id ops true) b) Q st:=
 wc (rf:=rf) (id:=id) hi (AOps.iv h fun st h=>⟨st,.refl st,h⟩)
theorem aR{st':St}(hg:Ghost P st st')(h:AW P Y rf b Q st'):∃ C,Ghost P st C/\AW P Y rf b Q C:=⟨st',hg,h⟩
theorem ax[cR Y]{id:Nat}(h:AOps P Y ops false [] (dV fun st=>∃ st',Ghost P st st'/\AW P Y rf b Q st') ops.toList st []):AW P Y rf (.seq (.region id ops false) b) Q st:=
 lL (rf:=rf) (id:=id) (AOps.iv h fun _ h=>h)
theorem oV[cR Y]{id:Nat}(hi:drawInfo ops=some cf)(h:AOps P Y ops true cf (dV fun st=>∃ st',Ghost P st st'/\AW P Y rf b Q st') ops.toList st []):AW P Y rf (.seq (.region id ops true) b) Q st:=
 wc (rf:=rf) (id:=id) hi (AOps.iv h fun _ h=>h)
theorem MG[cR Y](J:St->Prop)(h:AW P Y rf a (seqQ J Q) st)(k:∀ st,J st->AW P Y rf b Q st):AW P Y rf (.seq a b) Q st:=
 p7 a (fun e st h=>by
  cases e with
  |normal=>exact⟨st,.refl st,k st h⟩
  |_=>exact h) h
theorem eO[cR Y](J:St->Prop)(h:AW P Y rf a (seqQ J Q) st)(k:∀ st,J st->∃ st',Ghost P st st'/\AW P Y rf b Q st'):AW P Y rf (.seq a b) Q st:=
 p7 a (fun e st h=>by
  cases e with
  |normal=>exact k st h
  |_=>exact h) h
theorem cu[cR Y](h:AW P Y rf b Q st):AW P Y rf (.seq .skip b) Q st:=⟨st,.refl st,h⟩
theorem c8(h:Q .ret st):AW P Y rf (.seq .ret b) Q st:=h
theorem jK{id:Nat}(h:Q (.exit id) st):AW P Y rf (.seq (.exit id) b) Q st:=h
theorem R'{l:Nat}(h:AW P Y rf b Q st):AW P Y rf (.seq (.label l) b) Q st:=⟨st,.refl st,h⟩
theorem aB[cR Y](h:AW P Y rf (.seq a (.seq b c)) Q st):AW P Y rf (.seq (.seq a b) c) Q st:=by
 refine p7 a (fun e st h=>?_) h;cases e with
 |normal=>
  obtain⟨st',hg,h⟩:=h;refine⟨st',hg,p7 b (fun e st h=>?_) h⟩;cases e<;>exact h
 |_=>exact h
theorem aD{c:Operand}{x y:Code}{g:Bool}(hc:opd st.env c=.s (.bool g))(ht:g=true->AW P Y rf x Q st)(hf:g=false->AW P Y rf y Q st):AW P Y rf (.cond c x y) Q st:=by
 rw[Kr];rw[hc];exact⟨trivial,ht,hf⟩
theorem c6{c:Operand}{x y:Code}{g:Bool}(hc:opd st.env c=.s (.bool g))(ht:g=true->AW P Y rf (.seq x b) Q st)(hf:g=false->AW P Y rf (.seq y b) Q st):AW P Y rf (.seq (.cond c x y) b) Q st:=aD hc ht hf
theorem Vk{c:Operand}{x y:Code}(hc:opd st.env c=.ub)(ht:AW P Y rf x Q st)(hf:AW P Y rf y Q st):AW P Y rf (.cond c x y) Q st:=by
 rw[Kr];rw[hc];exact⟨trivial,ht,hf⟩
theorem lM{id:Nat}(h:AW P Y rf b (blockQ id Q) st):AW P Y rf (.block id b) Q st:=h
theorem Ip[cR Y]{id:Nat}(J:St->Prop)(h:AW P Y rf a (blockQ id (seqQ J Q)) st)(k:∀ st,J st->∃ st',Ghost P st st'/\AW P Y rf b Q st'):AW P Y rf (.seq (.block id a) b) Q st:=eO J (lM h) k
theorem Vc[cR Y]{α:Type}(S:α->St)(J:α->Prop)(μ:α->Nat)(X:α)(h0:st=S X)(hJ:J X)(h:∀ x,J x->AW P Y rf b (seqQ (fun st'=>∃ M C,Ghost P st' M/\M=S C/\J C/\μ C<μ x) Q) (S x)):AW P Y rf (.loop b) Q st:=by
 refine JN (fun j st=>∃ x,st=S x/\J x/\μ x=j) (j₀:=μ X) ⟨X,h0,hJ,rfl⟩ ?_;rintro j st ⟨x,rfl,hx,rfl⟩;refine p7 b (fun e st' hq=>?_) (h x hx);cases e with
 |normal=>
  obtain⟨M,C,h1,h2,h3,h4⟩:=hq;exact⟨M,h1,μ C,h4,C,h2,h3,rfl⟩
 |_=>exact hq
end
theorem gk{P:Program}{Y:YSpec}{rf:Bool}{Q:Exit->St->Prop}{st:St}{c:Operand}{x y:Code}(K:AW P Y rf y Q st)(h:opd st.env c=.s (.bool false):=by exact rfl):AW P Y rf (.cond c x y) Q st:=aD h (fun h=>by cases h) fun _=>K
theorem gI{P:Program}{Y:YSpec}{rf:Bool}{Q:Exit->St->Prop}{st:St}{c:Operand}{x y:Code}(K:AW P Y rf x Q st)(h:opd st.env c=.s (.bool true):=by exact rfl):AW P Y rf (.cond c x y) Q st:=aD h (fun _=>K) fun h=>by cases h
theorem ll{P:Program}{Y:YSpec}{rf:Bool}{Q:Exit->St->Prop}{st:St}{c:Operand}{x y b:Code}(K:AW P Y rf (.seq y b) Q st)(h:opd st.env c=.s (.bool false):=by exact rfl):AW P Y rf (.seq (.cond c x y) b) Q st:=aD h (fun h=>by cases h) fun _=>K
theorem fA{P:Program}{Y:YSpec}{rf:Bool}{Q:Exit->St->Prop}{st:St}{c:Operand}{x y b:Code}(K:AW P Y rf (.seq x b) Q st)(h:opd st.env c=.s (.bool true):=by exact rfl):AW P Y rf (.seq (.cond c x y) b) Q st:=aD h (fun _=>K) fun h=>by cases h
section
variable{P:Program}{env:Env}{m:Mem}{nx:Nat}{t:TypeId}{x y a:Operand}{d v:D}{k:IntKind}{n n':Int}{p q:TypeId}
theorem gT(hx:(opd env x).core=v):Ef P (.move x) env m nx ⟨True,v,[],[],0⟩:=⟨by simp only[aop,rho,hx],rfl,rfl⟩
theorem ku(hx:(opd env x).core=v):Ef P (.assign x) env m nx ⟨True,v,[],[],0⟩:=⟨by simp only[aop,rho,hx],rfl,rfl⟩
theorem Lv(op:BinOp)(v:Value)(y:Operand):nilD P m op t (.s v) y=none:=by
 unfold nilD;split<;>first|rfl|(rename_i h;cases h)
theorem V2{op:BinOp}{v w:Value}(h:∀ a b,v=.bool a->w=.bool b->False):binD P op t (.s v) (.s w)=(binV op v w).map fun r=>(r.1,.s r.2):=by
 cases v<;>cases w<;>first|rfl|exact(h _ _ rfl rfl).elim
theorem jV{op:BinOp}{v w u:Value}{pre:Prop}(hx:(opd env x).core=.s v)(hy:(opd env y).core=.s w)(hn:∀ a b,v=.bool a->w=.bool b->False)(hb:binV op v w=some (pre,u)):Ef P (.binOp op t x y p) env m nx ⟨pre,.s u,[],[],0⟩:=
 ⟨by simp only[aop,rho,hx,hy,Lv,V2 hn,hb,Option.map_some],rfl,rfl⟩
section ints
variable(hx:(opd env x).core=.s (.int k n))(hy:(opd env y).core=.s (.int k n'))
include hx hy
theorem E9:Ef P (.binOp .lss t x y p) env m nx ⟨k=k,.s (.bool (decide (n<n'))),[],[],0⟩:=jV hx hy oS rfl
theorem E':Ef P (.binOp .leq t x y p) env m nx ⟨k=k,.s (.bool (decide (n<=n'))),[],[],0⟩:=jV hx hy oS rfl
theorem Fa:Ef P (.binOp .gtr t x y p) env m nx ⟨k=k,.s (.bool (decide (n'<n))),[],[],0⟩:=jV hx hy oS rfl
theorem Fb:Ef P (.binOp .geq t x y p) env m nx ⟨k=k,.s (.bool (decide (n'<=n))),[],[],0⟩:=jV hx hy oS rfl
theorem Ff:Ef P (.binOp .eql t x y p) env m nx ⟨k=k,.s (.bool (n==n')),[],[],0⟩:=jV hx hy oS rfl
theorem Fg:Ef P (.binOp .neq t x y p) env m nx ⟨k=k,.s (.bool (n !=n')),[],[],0⟩:=jV hx hy oS rfl
theorem V3:Ef P (.binOp .add t x y p) env m nx ⟨k=k,.s (.int k (k.wrap (n+n'))),[],[],0⟩:=jV hx hy oS rfl
theorem V4:Ef P (.binOp .sub t x y p) env m nx ⟨k=k,.s (.int k (k.wrap (n - n'))),[],[],0⟩:=jV hx hy oS rfl
theorem V5:Ef P (.binOp .quo t x y p) env m nx ⟨k=k/\n'≠0,.s (.int k (k.wrap (n.tdiv n'))),[],[],0⟩:=jV hx hy oS rfl
theorem W8:Ef P (.binOp .rem t x y p) env m nx ⟨k=k/\n'≠0,.s (.int k (n.tmod n')),[],[],0⟩:=jV hx hy oS rfl
theorem W9:Ef P (.binOp .and t x y p) env m nx ⟨k=k,.s (.int k (intBitsV .and k n n')),[],[],0⟩:=jV hx hy oS rfl
theorem ZJ:Ef P (.binOp .or t x y p) env m nx ⟨k=k,.s (.int k (intBitsV .or k n n')),[],[],0⟩:=jV hx hy oS rfl
end ints
theorem Xa{C:IntKind}(hx:(opd env x).core=.s (.int k n))(hy:(opd env y).core=.s (.int C n')):Ef P (.binOp .shl t x y p) env m nx ⟨0<=n',.s (.int k (k.wrap (n*2 ^ (min n'.toNat k.bits)))),[],[],0⟩:=jV hx hy oS rfl
theorem Xb{C:IntKind}(hx:(opd env x).core=.s (.int k n))(hy:(opd env y).core=.s (.int C n')):Ef P (.binOp .shr t x y p) env m nx ⟨0<=n',.s (.int k (n.fdiv (2 ^ (min n'.toNat k.bits)))),[],[],0⟩:=jV hx hy oS rfl
theorem i64_in(n:Int)(h: -9223372036854775808<=n/\n<=9223372036854775807):IntKind.i64.wrap n=n:=Go.IntWalk.i64_in n h
theorem Mz(hx:(opd env x).core=.s (.int .i64 n))(hy:(opd env y).core=.s (.int .i64 n'))(hb: -9223372036854775808<=n+n'/\n+n'<=9223372036854775807):Ef P (.binOp .add t x y p) env m nx ⟨IntKind.i64=IntKind.i64,.s (.int .i64 (n+n')),[],[],0⟩:=by
 have:=V3 (P:=P) (m:=m) (nx:=nx) (t:=t) (p:=p) hx hy
 rwa[i64_in _ hb] at this
theorem Fh(hx:(opd env x).core=.s (.int .i64 n))(hy:(opd env y).core=.s (.int .i64 n'))(hb: -9223372036854775808<=n - n'/\n - n'<=9223372036854775807):Ef P (.binOp .sub t x y p) env m nx ⟨IntKind.i64=IntKind.i64,.s (.int .i64 (n - n')),[],[],0⟩:=by
 have:=V4 (P:=P) (m:=m) (nx:=nx) (t:=t) (p:=p) hx hy
 rwa[i64_in _ hb] at this
section strings
variable{s s':ByteArray}(hx:(opd env x).core=.s (.string s))(hy:(opd env y).core=.s (.string s'))
include hx hy
theorem Lw:Ef P (.binOp .eql t x y p) env m nx ⟨True,.s (.bool (s.toList==s'.toList)),[],[],0⟩:=jV hx hy oS rfl
theorem V6:Ef P (.binOp .geq t x y p) env m nx ⟨True,.s (.bool !(Op.bytesLess s.toList s'.toList)),[],[],0⟩:=jV hx hy oS rfl
end strings
theorem V7{b C:Bool}(hx:(opd env x).core=.s (.bool b))(hy:(opd env y).core=.s (.bool C)):Ef P (.binOp .neq t x y p) env m nx ⟨boT P t=true,.s (.bool !(b==C)),[],[],0⟩:=
 ⟨by simp only[aop,rho,hx,hy,Lv,binD,Option.map_some],rfl,rfl⟩
theorem MA{b:Bool}(hx:(opd env x).core=.s (.bool b)):Ef P (.unOp .not t x) env m nx ⟨True,.s (.bool !b),[],[],0⟩:=⟨by simp only[aop,rho,hx,unV,Option.map_some],rfl,rfl⟩
theorem U7{z:List D}(C:zeroP P t=z):Ef P (.alloc t) env m nx ⟨tyOk P t=true,.rp nx 0,[(nx,some (.cells z t))],[],1⟩:=⟨by simp only[aop,C],rfl,rfl⟩
theorem MB{cs:List D}(hx:(opd env x).core=d)(hc:d.cells=cs):Ef P (.box t x) env m nx ⟨cs.all D.one=true,.rp nx 0,[(nx,some (.cells cs t))],[],1⟩:=⟨by simp only[aop,rho,hx,hc],rfl,rfl⟩
theorem Bu(hx:(opd env x).core=d)(hc:d.cells=[d]):Ef P (.box t x) env m nx ⟨[d].all D.one=true,.rp nx 0,[(nx,some (.cells [d] t))],[],1⟩:=MB hx hc
theorem qd{cs:List D}(hx:(opd env x).core=.agg cs):Ef P (.box t x) env m nx ⟨cs.all D.one=true,.rp nx 0,[(nx,some (.cells cs t))],[],1⟩:=MB hx rfl
theorem Lx{cs:List D}(hx:(opd env x).core=.pt (v::cs))(ha:aggP P t=false):Ef P (.load t x) env m nx ⟨tyOk P t=true/\P.cellsOf t<=(v::cs).length,v,[],[],0⟩:=⟨by simp[aop,rho,hx,takeV,ha],rfl,rfl⟩
theorem je{cs vs:List D}{n:Nat}(hx:(opd env x).core=.pt cs)(ha:aggP P t=true)(hc:P.cellsOf t=n)(hv:cs.take n=vs):Ef P (.load t x) env m nx ⟨tyOk P t=true/\P.cellsOf t<=cs.length,.agg vs,[],[],0⟩:=⟨by simp[aop,rho,hx,takeV,ha,hc,hv],rfl,rfl⟩
theorem eD{i off:Nat}{cs cs':List D}{e:TypeId}(hx:(opd env x).core=.rp i off)(hm:m i=some (.cells cs e))(hd:cs.drop off=v::cs')(ha:aggP P t=false):Ef P (.load t x) env m nx ⟨tyOk P t=true/\off+P.cellsOf t<=cs.length,v,[],[i],0⟩:=⟨by simp[aop,rho,hx,hm,takeV,ha,hd],rfl,rfl⟩
theorem df{i off:Nat}{cs vs:List D}{e:TypeId}{n:Nat}(hx:(opd env x).core=.rp i off)(hm:m i=some (.cells cs e))(ha:aggP P t=true)(hc:P.cellsOf t=n)(hv:(cs.drop off).take n=vs):Ef P (.load t x) env m nx ⟨tyOk P t=true/\off+P.cellsOf t<=cs.length,.agg vs,[],[i],0⟩:=⟨by simp[aop,rho,hx,hm,takeV,ha,hc,hv],rfl,rfl⟩
theorem Km{i off:Nat}{cs cs' vs:List D}{e:TypeId}(hx:(opd env x).core=.rp i off)(hy:(opd env y).core=d)(hm:m i=some (.cells cs e))(hv:d.cells=vs)(hs:splice cs off vs=cs'):
 Ef P (.store t x y) env m nx ⟨tyOk P t=true/\vs.length=P.cellsOf t/\off+P.cellsOf t<=cs.length/\vs.all D.one=true,.tup [],[(i,some (.cells cs' e))],[i],0⟩:=⟨by simp only[aop,rho,hx,hy,hm,hv,hs],rfl,rfl⟩
theorem dC{i off:Nat}{cs cs':List D}{e:TypeId}(hx:(opd env x).core=.rp i off)(hy:(opd env y).core=d)(hm:m i=some (.cells cs e))(hv:d.cells=[d])(hs:cs.set off d=cs'):
 Ef P (.store t x y) env m nx ⟨tyOk P t=true/\[d].length=P.cellsOf t/\off+P.cellsOf t<=cs.length/\[d].all D.one=true,.tup [],[(i,some (.cells cs' e))],[i],0⟩:=Km hx hy hm hv hs
theorem iE{i off:Nat}{cs cs' vs:List D}{e:TypeId}(hx:(opd env x).core=.rp i off)(hy:(opd env y).core=.agg vs)(hm:m i=some (.cells cs e))(hs:splice cs off vs=cs'):
 Ef P (.store t x y) env m nx ⟨tyOk P t=true/\vs.length=P.cellsOf t/\off+P.cellsOf t<=cs.length/\vs.all D.one=true,.tup [],[(i,some (.cells cs' e))],[i],0⟩:=Km hx hy hm rfl hs
theorem Kn{cs:List D}{j off:Nat}{C:TypeId}(hx:(opd env x).core=.pt cs)(hf:fieldP P t j=some (off,C)):Ef P (.fieldAddr t x j) env m nx ⟨0<P.cellsOf C,.pt (cs.drop off),[],[],0⟩:=⟨by simp only[aop,rho,hx,hf],rfl,rfl⟩
theorem oZ{i o:Nat}{j off:Nat}{C:TypeId}{r:Row}(hx:(opd env x).core=.rp i o)(hm:m i=some r)(hf:fieldP P t j=some (off,C)):Ef P (.fieldAddr t x j) env m nx ⟨0<P.cellsOf C,.rp i (o+off),[],[i],0⟩:=⟨by simp only[aop,rho,hx,hf,hm],rfl,rfl⟩
theorem Ly{cs:List D}(hx:(opd env x).core=.pt cs):Ef P (.nilCheck x) env m nx ⟨True,.pt cs,[],[],0⟩:=⟨by simp only[aop,rho,hx],rfl,rfl⟩
theorem Lz{i o:Nat}{r:Row}(hx:(opd env x).core=.rp i o)(hm:m i=some r):Ef P (.nilCheck x) env m nx ⟨True,.rp i o,[],[i],0⟩:=⟨by simp only[aop,rho,hx,hm],rfl,rfl⟩
theorem Fi{es cs:List D}{l sz:Nat}{e:TypeId}(hx:(opd env x).core=.sl es l)(hy:(opd env y).core=.s (.int k n))(he:elemP P t=e)(hs:P.cellsOf e=sz)(hd:es.drop (n.toNat*sz)=cs):
 Ef P (.indexAddr t x y) env m nx ⟨slT P t=true/\0<=n/\n<l/\(n.toNat+1)*sz<=es.length,.pt cs,[],[],0⟩:=⟨by simp only[aop,rho,hx,hy,he,hs,hd],rfl,rfl⟩
theorem Bv{j off l sz:Nat}{e:TypeId}{r:Row}(hx:(opd env x).core=.rs j off l)(hy:(opd env y).core=.s (.int k n))(hm:m j=some r)(he:elemP P t=e)(hs:P.cellsOf e=sz):
 Ef P (.indexAddr t x y) env m nx ⟨slT P t=true/\0<=n/\n<l,.rp j (off+n.toNat*sz),[],[j],0⟩:=⟨by simp only[aop,rho,hx,hy,hm,he,hs],rfl,rfl⟩
theorem LA{j off sz l:Nat}{e:TypeId}{r:Row}(hx:(opd env x).core=.rp j off)(hy:(opd env y).core=.s (.int k n))(hm:m j=some r)(he:elemP P t=e)(hs:P.cellsOf e=sz)(hl:lenP P t=l):
 Ef P (.indexAddr t x y) env m nx ⟨arT P t=true/\0<=n/\n<l,.rp j (off+n.toNat*sz),[],[j],0⟩:=⟨by simp only[aop,rho,hx,hy,hm,he,hs,hl],rfl,rfl⟩
section builtins
theorem sg{b:Builtin}{ts:Array TypeId}{args:Array Operand}{aS:List D}{e:Eff}(hs:ts.size=args.size)(ha:args.toList.map (fun x=>(opd env x).core)=aS)(hb:builtinD P m nx b ts aS=some e):Ef P (.call { callee:=.builtin b,args:=args,argTypes:=ts }) env m nx e:=
 ⟨by simp only[aop];rw[if_pos hs];simp only[rho];rw[ha,hb],rfl,rfl⟩
theorem MC{es:List D}{l:Nat}(hx:(opd env x).core=.sl es l):Ef P (.call { callee:=.builtin .len,args:= #[x],argTypes:= #[t] }) env m nx ⟨slT P t=true,.s (.int .i64 l),[],[],0⟩:=sg (aS:=[.sl es l]) rfl (by simp[hx]) rfl
theorem Bw{i off l:Nat}{r:Row}(hx:(opd env x).core=.rs i off l)(hm:m i=some r):Ef P (.call { callee:=.builtin .len,args:= #[x],argTypes:= #[t] }) env m nx ⟨slT P t=true,.s (.int .i64 l),[],[i],0⟩:=sg (aS:=[.rs i off l]) rfl (by simp[hx]) (by simp[builtinD,lenD,hm])
theorem EL{b:ByteArray}(hx:(opd env x).core=.s (.string b)):Ef P (.call { callee:=.builtin .len,args:= #[x],argTypes:= #[t] }) env m nx ⟨stT P t=true,.s (.int .i64 b.size),[],[],0⟩:=sg (aS:=[.s (.string b)]) rfl (by simp[hx]) rfl
theorem Xc{k:IntKind}(hx:(opd env x).core=.s (.int k n))(hy:(opd env y).core=.s (.int k n')):Ef P (.call { callee:=.builtin .min,args:= #[x,y],argTypes:= #[t,t] }) env m nx ⟨k=k,.s (.int k (if n'<n then n' else n)),[],[],0⟩:=sg (aS:=[.s (.int k n),.s (.int k n')]) rfl (by simp[hx,hy]) rfl
structure Cells(m:Mem)(sz:Nat)(d:D)(p:Prop)(rd:List Nat)(k:Nat)(news:List D):Prop where
 ok:sliceCells m sz d=some (p,rd,k,news)
theorem TZ{es news:List D}{k sz:Nat}(h:es.take (k*sz)=news):Cells m sz (.sl es k) (k*sz<=es.length) [] k news:=⟨by simp[sliceCells,h]⟩
theorem rH{i off k sz:Nat}{cs news:List D}{e:TypeId}(hm:m i=some (.cells cs e))(h:(cs.drop off).take (k*sz)=news):Cells m sz (.rs i off k) (off+k*sz<=cs.length) [i] k news:=⟨by simp[sliceCells,hm,h]⟩
theorem V8{p:Prop}{rd:List Nat}{c sz:Nat}{news:List D}{e:TypeId}(hx:(opd env x).core=.z)(hy:(opd env y).core=d)(he:elemP P t=e)(hs:P.cellsOf e=sz)(hc:Cells m sz d p rd c news):
 Ef P (.call { callee:=.builtin .append,args:= #[x,y],argTypes:= #[t,t] }) env m nx ⟨slT P t=true/\p/\0<sz/\c<=maxLen/\c*P.bytesOf e<=140737488355328,.rs nx 0 c,[(nx,some (.cells news e))],rd,1⟩:=by
 refine sg (aS:=[.z,d]) rfl (by simp[hx,hy]) ?_;simp only[builtinD];rw[if_pos oS];simp only[appendD,Array.getD_eq_getD_getElem?,List.getElem?_toArray,List.getElem?_cons_zero,Option.getD_some,he,hs,hc.ok]
theorem r5{p:Prop}{rd:List Nat}{c sz i off l:Nat}{cs cs' news:List D}{e:TypeId}(hx:(opd env x).core=.rs i off l)(hm:m i=some (.cells cs e))(hy:(opd env y).core=d)(he:elemP P t=e)(hs:P.cellsOf e=sz)(hc:Cells m sz d p rd c news)(hn:cs.drop off++news=cs'):
 Ef P (.call { callee:=.builtin .append,args:= #[x,y],argTypes:= #[t,t] }) env m nx ⟨slT P t=true/\e=e/\p/\0<sz/\off+l*sz=cs.length/\l+c<=maxLen/\(l+c)*P.bytesOf e<=140737488355328/\i∉rd,.rs nx 0 (l+c),[(i,none),(nx,some (.cells cs' e))],i::rd,1⟩:=by
 refine sg (aS:=[.rs i off l,d]) rfl (by simp[hx,hy]) ?_;simp only[builtinD];rw[if_pos oS];simp only[appendD,Array.getD_eq_getD_getElem?,List.getElem?_toArray,List.getElem?_cons_zero,Option.getD_some,he,hs,hc.ok,hm,hn]
end builtins
theorem nz{cs cs':List D}{j:Nat}(hx:(opd env x).core=.tup cs)(hd:cs.drop j=v::cs'):Ef P (.extract x j) env m nx ⟨j<cs.length,v,[],[],0⟩:=by
 have h:cs[j]? =some v:=by
  have:(cs.drop j)[0]? =some v:=by rw[hd];rfl
  simpa using this
 exact⟨by simp[aop,rho,hx,h],rfl,rfl⟩
theorem U9{ps:Array (Nat×Operand)}{fs:Array Field}{cs z:List D}{C:List (Nat×D)}(J:P.underlying t=some (.struct fs))(M:zeroP P t=z)(hq:(ps.toList.map fun q=>(q.1,(opd env q.2).core))=C)
 (hf:fillD (fun i=>(fs[i]?).map fun f=>(f.offset,P.cellsOf f.type)) z C=some cs):Ef P (.build t ps) env m nx ⟨tyOk P t=true/\fs.toList.all (fun f=>(P.info? f.type).isSome)=true,.agg cs,[],[],0⟩:=
 ⟨by simp only[aop,rho,J,M,hq,hf,Option.map_some],rfl,rfl⟩
theorem DU{ps:Array (Nat×Operand)}{fs:Array Field}{C:List (Nat×Nat)}{cs z:List D}{J:List (Nat×D)}(M:P.underlying t=some (.struct fs))(hp:(fs.toList.map fun(f:Field)=>(f.offset,P.cellsOf f.type))=C)(X:zeroP P t=z)(hq:(ps.toList.map fun q=>(q.1,(opd env q.2).core))=J)
 (hf:fillD (fun i=>C[i]?) z J=some cs):Ef P (.build t ps) env m nx ⟨tyOk P t=true/\fs.toList.all (fun f=>(P.info? f.type).isSome)=true,.agg cs,[],[],0⟩:=by
 refine U9 M X hq ?_
 have:(fun(i:Nat)=>(fs[i]?).map fun(f:Field)=>(f.offset,P.cellsOf f.type))=fun(i:Nat)=>C[i]? :=by
  funext i;rw[<- hp];simp
 rw[this];exact hf
theorem xR{ps:Array (Nat×Operand)}{l sz:Nat}{e:TypeId}{cs z:List D}{C:List (Nat×D)}(he:elemP P t=e)(hs:P.cellsOf e=sz)(J:zeroP P e=z)(hq:(ps.toList.map fun q=>(q.1,(opd env q.2).core))=C)
 (hf:fillD (fun i=>some (i*sz,sz)) (replD l z) C=some cs):Ef P (.buildSlice t l ps) env m nx ⟨cs.all D.one=true/\l*sz<=2 ^ 24/\slT P t=true/\l<=maxLen,.rs nx 0 l,[(nx,some (.cells cs e))],[],1⟩:=
 ⟨by simp only[aop,rho,he,hs,J,hq,hf,Option.map_some],rfl,rfl⟩
theorem LB{f:Fn}{fs cs:Array Operand}{J C:List D}(hf:fs.toList.map (fun x=>(opd env x).core)=J)(hc:cs.toList.map (fun x=>(opd env x).core)=C):Ef P (.makeFunc f fs cs) env m nx ⟨True,.fn f J C,[],[],0⟩:=⟨by simp only[aop,rho,hf,hc],rfl,rfl⟩
theorem Xd:Ef P (.makeMap t none) env m nx ⟨True,.mp nx,[(nx,some (.map []))],[],1⟩:=⟨by simp only[aop],rfl,rfl⟩
theorem xX{e:TypeId}{z:List D}(hx:(opd env x).core=.s (.int .i64 n))(hy:(opd env y).core=.s (.int .i64 n'))(he:elemP P t=e)(C:zeroP P e=z):
 Ef P (.makeSlice t x y) env m nx ⟨0<=n/\n=n'/\n<=9223372036854775807/\P.bytesOf e*n<=281474976710656/\slT P t=true,.rs nx 0 n.toNat,[(nx,some (.cells (replD n.toNat z) e))],[],1⟩:=⟨by simp only[aop,rho,hx,hy,he,C],rfl,rfl⟩
theorem V9{src:TypeId}{C:IntKind}(hx:(opd env x).core=.s (.int k n))(J:P.underlying t=some (.int C)):Ef P (.convert src t x) env m nx ⟨tyOk P src=true,.s (.int C (C.wrap n)),[],[],0⟩:=⟨by simp only[aop,rho,hx,J],rfl,rfl⟩
theorem Va{src e:TypeId}{b:ByteArray}(hx:(opd env x).core=.s (.string b))(C:P.underlying t=some (.slice e))(he:P.underlying e=some (.int .u8)):
 Ef P (.convert src t x) env m nx ⟨stT P src=true/\b.size<=maxLen,.sl (b.data.toList.map fun c=>.s (.int .u8 c.toNat)) b.size,[],[],0⟩:=⟨by simp only[aop,rho,hx,C,he],rfl,rfl⟩
def o0(b:ByteArray):List Int:=b.data.toList.map fun c=>(c.toNat:Int)
theorem RF(b:ByteArray):(o0 b).length=b.size:=by unfold o0;rw[List.length_map];rfl
theorem JF{src e:TypeId}{b:ByteArray}(hx:(opd env x).core=.s (.string b))(C:P.underlying t=some (.slice e))(he:P.underlying e=some (.int .u8)):
 Ef P (.convert src t x) env m nx ⟨stT P src=true/\b.size<=maxLen,.sl ((o0 b).map fun n=>.s (.int .u8 n)) (o0 b).length,[],[],0⟩:=by
 have:=Va (P:=P) (env:=env) (m:=m) (nx:=nx) (t:=t) (src:=src) hx C he;have h:(o0 b).map (fun n=>D.s (.int .u8 n))=b.data.toList.map (fun c=>D.s (.int .u8 c.toNat)):=by rw[o0,List.map_map];rfl
 rw[RF,h];exact this
theorem Bg{es es':List D}{l:Nat}{lo hi:Option Operand}{a b:Int}{e:TypeId}{sz:Nat}(hx:(opd env x).core=.sl es l)(he:elemP P t=e)(hs:P.cellsOf e=sz)
 (ha:bndD (lo.map fun x=>(opd env x).core) 0=some a) (hb:bndD (hi.map fun x=>(opd env x).core) l=some b) (hd:(es.drop (a.toNat*sz)).take ((b - a).toNat*sz)=es'):
 Ef P (.slice t x lo hi none) env m nx ⟨slT P t=true/\0<=a/\a<=b/\b<=l,.sl es' (b - a).toNat,[],[],0⟩:=by
 refine⟨?_,rfl,rfl⟩;show sliceD P m t (opd env x).core (lo.map fun x=>(opd env x).core) (hi.map fun x=>(opd env x).core) (Option.map (fun x=>(opd env x).core) none)=_;rw[hx];simp only[sliceD,Option.map_none,ha,hb,he,hs,hd]
theorem DV{i off l:Nat}{cs:List D}{lo hi:Option Operand}{a b:Int}{e:TypeId}{sz:Nat}(hx:(opd env x).core=.rs i off l)(hm:m i=some (.cells cs e))(he:elemP P t=e)(hs:P.cellsOf e=sz)
 (ha:bndD (lo.map fun x=>(opd env x).core) 0=some a) (hb:bndD (hi.map fun x=>(opd env x).core) l=some b):
 Ef P (.slice t x lo hi none) env m nx ⟨(slT P t=true/\sz=sz)/\0<=a/\a<=b/\b<=l,.rs i (off+a.toNat*sz) (b - a).toNat,[],[i],0⟩:=by
 refine⟨?_,rfl,rfl⟩;show sliceD P m t (opd env x).core (lo.map fun x=>(opd env x).core) (hi.map fun x=>(opd env x).core) (Option.map (fun x=>(opd env x).core) none)=_;rw[hx];simp only[sliceD,hm,Option.map_none,ha,hb,he,hs]
theorem rI{i:Nat}{es:List (Value×D)}{key:Value}{ok:Bool}{kt:TypeId}(hx:(opd env x).core=.mp i)(hm:m i=some (.map es))(hk:keyV (opd env y).core=some key)(ht:mkeyP P t=kt)(hg:gotD P t ok (lookD key es)=v):
 Ef P (.lookup t x y ok) env m nx ⟨mapT P t=true/\keyP P kt key=true/\es.all (fun e=>keyP P kt e.1)=true,v,[],[i],0⟩:=by
 refine⟨?_,rfl,rfl⟩;show lookupD P m t (opd env x).core (opd env y).core ok=_;simp only[lookupD,hk,hx,hm,ht,hg]
theorem AO{es:List (Value×D)}{key:Value}{ok:Bool}{kt:TypeId}(hx:(opd env x).core=.im es)(hk:keyV (opd env y).core=some key)(ht:mkeyP P t=kt)(hg:gotD P t ok (lookD key es)=v):
 Ef P (.lookup t x y ok) env m nx ⟨mapT P t=true/\keyP P kt key=true/\es.all (fun e=>keyP P kt e.1)=true,v,[],[],0⟩:=by
 refine⟨?_,rfl,rfl⟩;show lookupD P m t (opd env x).core (opd env y).core ok=_;simp only[lookupD,hk,hx,ht,hg]
theorem Bx{i:Nat}{es:List (Value×D)}{key:Value}{z:Operand}{kt:TypeId}(hx:(opd env x).core=.mp i)(hm:m i=some (.map es))(hk:keyV (opd env y).core=some key)(C:(opd env z).core=v)(ht:mkeyP P t=kt):
 Ef P (.mapUpdate t x y z) env m nx ⟨mapT P t=true/\keyP P kt key=true/\es.all (fun e=>keyP P kt e.1)=true,.tup [],[(i,some (.map (putD key v es)))],[i],0⟩:=by
 refine⟨?_,rfl,rfl⟩;show mapPutD P m t (opd env x).core (opd env y).core (opd env z).core=_;simp only[mapPutD,hk,hx,hm,ht,C]
end
theorem fM{α:Type}{f:α->D}:∀ {l:List α} {k:Nat} {x:α},l[k]? =some x->(l.map f).drop k=f x::(l.drop (k+1)).map f
 |[],k,x,h=>by simp at h
 |a::l,0,x,h=>by simp at h;subst h;rfl
 |a::l,k+1,x,h=>by simpa using fM (f:=f) (l:=l) (k:=k) (by simpa using h)
theorem I4{α:Type}{f:α->List D}{sz:Nat}(hs:∀ x,(f x).length=sz):∀ {l:List α} {k:Nat} {x:α},l[k]? =some x->(l.flatMap f).drop (k*sz)=f x++(l.drop (k+1)).flatMap f
 |[],k,x,h=>by simp at h
 |a::l,0,x,h=>by simp at h;subst h;simp
 |a::l,k+1,x,h=>by
  have h1:(k+1)*sz=(f a).length+k*sz:=by rw[hs];rw[Nat.add_mul];omega
  simp only[List.flatMap_cons,h1,List.drop_append,List.drop_succ_cons];rw[List.drop_of_length_le oG];have:(f a).length+k*sz - (f a).length=k*sz:=by omega
  rw[this];simpa using I4 hs (l:=l) (k:=k) (by simpa using h)
theorem Iy{α:Type}{f:α->List D}{sz:Nat}(hs:∀ x,(f x).length=sz):∀ (l:List α),(l.flatMap f).length=l.length*sz
 |[]=>by simp
 |a::l=>by simp only[List.flatMap_cons,List.length_append,hs,Iy hs l,List.length_cons,Nat.add_mul];omega
section
variable{P:Program}{env:Env}{m:Mem}{nx:Nat}{t e:TypeId}{x y:Operand}{k:IntKind}
theorem LC{α:Type}{f:α->D}{l:List α}{i n:Nat}{z:α}(hx:(opd env x).core=.sl (l.map f) n)(hy:(opd env y).core=.s (.int k i))(he:elemP P t=e)(hs:P.cellsOf e=1)(C:l[i]? =some z):
 Ef P (.indexAddr t x y) env m nx ⟨slT P t=true/\0<=(i:Int)/\(i:Int)<n/\((i:Int).toNat+1)*1<=(l.map f).length,.pt (f z::(l.drop (i+1)).map f),[],[],0⟩:=
 Fi hx hy he hs (by rw[b9,Nat.mul_one];exact fM C)
theorem LD{α:Type}{f:α->D}{l:List α}{i:Nat}{z:α}(ht:slT P t=true)(C:l[i]? =some z):slT P t=true/\0<=(i:Int)/\(i:Int)<l.length/\((i:Int).toNat+1)*1<=(l.map f).length:=by
 have:=(bj.1 C).1;exact⟨ht,oG,oG,by simp;omega⟩
theorem tZ{α:Type}{f:α->List D}{sz:Nat}{l:List α}{i n:Nat}{z:α}(hx:(opd env x).core=.sl (l.flatMap f) n)(hy:(opd env y).core=.s (.int k i))(he:elemP P t=e)(hs:P.cellsOf e=sz)(hl:∀ x,(f x).length=sz)(C:l[i]? =some z):
 Ef P (.indexAddr t x y) env m nx ⟨slT P t=true/\0<=(i:Int)/\(i:Int)<n/\((i:Int).toNat+1)*sz<=(l.flatMap f).length,.pt (f z++(l.drop (i+1)).flatMap f),[],[],0⟩:=
 Fi hx hy he hs (by rw[b9];exact I4 hl C)
theorem ua{α:Type}{f:α->List D}{sz:Nat}{l:List α}{i:Nat}{z:α}(ht:slT P t=true)(hl:∀ x,(f x).length=sz)(C:l[i]? =some z):slT P t=true/\0<=(i:Int)/\(i:Int)<l.length/\((i:Int).toNat+1)*sz<=(l.flatMap f).length:=by
 have:=(bj.1 C).1;refine⟨ht,oG,oG,?_⟩;rw[Iy hl,b9];exact Nat.mul_le_mul_right _ this
theorem LF{v:D}{cs:List D}(ht:tyOk P t=true)(hc:P.cellsOf t=1):tyOk P t=true/\P.cellsOf t<=(v::cs).length:=⟨ht,by rw[hc];simp⟩
theorem eE{v:D}{cs cs':List D}{off:Nat}(ht:tyOk P t=true)(hc:P.cellsOf t=1)(hd:cs.drop off=v::cs'):tyOk P t=true/\off+P.cellsOf t<=cs.length:=by
 refine⟨ht,?_⟩;have:(cs.drop off).length=cs'.length+1:=by rw[hd];rfl
 rw[List.length_drop] at this;omega
theorem jf{n:Nat}{cs:List D}(ht:tyOk P t=true)(hc:P.cellsOf t=n)(hl:n<=cs.length):tyOk P t=true/\P.cellsOf t<=cs.length:=⟨ht,by rw[hc];exact hl⟩
theorem dg{n off:Nat}{cs:List D}(ht:tyOk P t=true)(hc:P.cellsOf t=n)(hl:off+n<=cs.length):tyOk P t=true/\off+P.cellsOf t<=cs.length:=⟨ht,by rw[hc];exact hl⟩
theorem mS{n:Nat}(hc:P.cellsOf t=n+1):0<P.cellsOf t:=by omega
theorem cF{n off:Nat}{cs vs:List D}(ht:tyOk P t=true)(hc:P.cellsOf t=n)(hv:vs.length=n/\off+n<=cs.length)(C:vs.all D.one=true):tyOk P t=true/\vs.length=P.cellsOf t/\off+P.cellsOf t<=cs.length/\vs.all D.one=true:=
 ⟨ht,by rw[hc];exact hv.1,by rw[hc];exact hv.2,C⟩
end
section
variable{P:Program}{K:D->St->Prop}{st:St}
theorem qe(h:K (.tup []) st):retQ P [] K .ret st:=h
theorem lQ(h:K (.tup []) st):retQ P [] K .normal st:=h
theorem az{t:Nat}{d:D}(hd:st.env t=d)(h:K d st):retQ P [.tmp t] K .ret st:=⟨trivial,by subst hd;exact h⟩
theorem iH{t u:Nat}{d e:D}(hd:st.env t=d)(he:st.env u=e)(h:K (.tup [d,e]) st):retQ P [.tmp t,.tmp u] K .ret st:=⟨trivial,trivial,by subst hd;subst he;exact h⟩
theorem nw{a i off n:Nat}{ty e:TypeId}{cs vs:List D}(ha:st.env a=.rp i off)(hm:st.mem i=some (.cells cs e))(hg:aggP P ty=true)(hc:P.cellsOf ty=n)(hv:(cs.drop off).take n=vs)(ht:tyOk P ty=true)(hl:off+n<=cs.length):
 ∃ p,resD P st (.cell a ty)=some (p,.agg vs)/\p:=⟨tyOk P ty=true/\off+n<=cs.length,by simp only[resD,ha,hm,takeV,hg,if_true,hc,hv],ht,hl⟩
theorem r6{a:Nat}{ty:TypeId}{d:D}(hr:∃ p,resD P st (.cell a ty)=some (p,d)/\p)(h:K d st):retQ P [.cell a ty] K .ret st:=by
 obtain⟨p,h1,h2⟩:=hr;simp only[retQ,retL,h1];exact⟨h2,h⟩
theorem Ds{a t:Nat}{ty:TypeId}{d e:D}(hr:∃ p,resD P st (.cell a ty)=some (p,d)/\p)(he:st.env t=e)(h:K (.tup [d,e]) st):retQ P [.cell a ty,.tmp t] K .ret st:=by
 obtain⟨p,h1,h2⟩:=hr;simp only[retQ,retL,h1];exact⟨h2,trivial,by subst he;exact h⟩
end
section
variable{P:Program}{Y:YSpec}{rf:Bool}{Q:Exit->St->Prop}{st:St}
theorem aq{l:List (Nat×D)}{env:Env}{m:Mem}{nx:Nat}(h:gU l env):Ghost P ⟨env,m,nx⟩ ⟨aw l,m,nx⟩:=.forget env _ m nx (kY h)
def F1(P:Program):List (Nat×List D×TypeId)->Mem->Prop
 |[],_=>True
 |(i,cs,e)::fs,m=>m i=some (.cells cs e)/\F1 P fs (fun j=>if j=i then none else(m j).map (Row.sub (fz0 i cs (P.cellsOf e))))
def xj(P:Program):List (Nat×List D×TypeId)->D->D
 |[],d=>d
 |(i,cs,e)::fs,d=>xj P fs (sub (fz0 i cs (P.cellsOf e)) d)
theorem I6:∀ {fs:List (Nat×List D×TypeId)} {env:Env} {m:Mem} {nx:Nat},F1 P fs m->∃ m',Ghost P ⟨env,m,nx⟩ ⟨fun t=>xj P fs (env t),m',nx⟩
 |[],env,m,nx,_=>⟨m,.refl _⟩
 |(i,cs,e)::fs,env,m,nx,⟨h1,h2⟩=>by
  obtain⟨m',h⟩:=I6 (env:=fun t=>sub (fz0 i cs (P.cellsOf e)) (env t)) (nx:=nx) h2;exact⟨m',(Ghost.freeze env m nx i cs e h1).trans h⟩
theorem cE{env:Env}{m:Mem}{nx:Nat}(fs:List (Nat×List D×TypeId))(hf:F1 P fs m){l:List (Nat×D)}(hl:gU l fun t=>xj P fs (env t)):Ghost P ⟨env,m,nx⟩ ⟨aw l,fun _=>none,nx⟩:=by
 obtain⟨m',h⟩:=I6 (env:=env) (nx:=nx) hf;exact h.trans ((Ghost.forget _ _ _ _ (kY hl)).trans (Ghost.drop _ _ _ _ fun _=>.inr rfl))
def jn(eM id:Nat)(next:St->Prop)(Q:Exit->St->Prop):Exit->St->Prop
 | .normal,s=>next s
 | .exit i,s=>if i=eM then next s else if i=id then Q .normal s else Q (.exit i) s
 |e,s=>Q e s
def pf(P:Program){α:Type}(S:α->St)(J:α->Prop)(μ:α->Nat)(x:α)(s:St):Prop:=∃ C,Ghost P s (S C)/\J C/\μ C<μ x
theorem aJ{α:Type}{S:α->St}{J:α->Prop}{μ:α->Nat}{x:α}{s:St}(C:α)(hg:Ghost P s (S C))(M:J C)(X:μ C<μ x):pf P S J μ x s:=⟨C,hg,M,X⟩
theorem vL[cR Y]{b:Code}{α:Type}(S:α->St)(J:α->Prop)(μ:α->Nat)(C:α)(hg:Ghost P st (S C))(X:J C)(h:∀ x,J x->AW P Y rf b (seqQ (pf P S J μ x) Q) (S x)){a:Code}(ha:∀ st,Q .normal st->Q .normal st):
 ∃ st',Ghost P st st'/\AW P Y rf (.loop b) Q st':=
 ⟨S C,hg,Vc S J μ C rfl X fun x hx=>p7 b (fun e st' hq=>by
  cases e with
  |normal=>
   obtain⟨M,h1,h2,h3⟩:=hq;exact⟨S M,M,h1,rfl,h2,h3⟩
  |_=>exact hq) (h x hx)⟩
variable{id eM t i1 i2 i3 i4:Nat}{rc ri:Array Oper}{body rest:Code}{α:Type}
theorem Eo[cR Y]{ri:Array Oper}{next:St->Prop}{s:St}(h:AW P Y rf body (jn eM id (fun s=>AOps P Y ri false [] (dV next) ri.toList s []) Q) s):
 AW P Y rf (.seq (.block eM body) (.region i3 ri false)) (seqQ next (blockQ id Q)) s:=by
 refine p7 body (fun e s h=>?_) h;have hr:∀ s,AOps P Y ri false [] (dV next) ri.toList s []->∃ s',Ghost P s s'/\AW P Y rf (.region i3 ri false) (seqQ next (blockQ id Q)) s':=fun s h=>⟨s,.refl s,lL (rf:=rf) (id:=i3) (AOps.iv h fun _ h=>h)⟩
 cases e with
 |normal=>exact hr s h
 |exit i=>
  simp only[jn] at h;simp only[blockQ];split at h
  .rename_i hi;rw[if_pos hi];exact hr s h
  .rename_i hi;rw[if_neg hi];simp only[seqQ,blockQ];exact h
 |_=>exact h
theorem cG[cR Y](S:α->St)(J:α->Prop)(μ:α->Nat)(C:α)(hg:Ghost P st (S C))(M:J C)
 (h:∀ x,J x->AOps P Y rc false [] (dV fun s=>∃ g,opd s.env (.tmp t)=.s (.bool g)/\(g=true->AW P Y rf body (jn eM id (fun s=>AOps P Y ri false [] (dV (pf P S J μ x)) ri.toList s []) Q) s)/\(g=false->Q .normal s)) rc.toList (S x) []):
 ∃ st',Ghost P st st'/\AW P Y rf (.block id (.loop (.seq (.region i1 rc false) (.seq (.cond (.tmp t) .skip (.exit id)) (.seq (.block eM body) (.region i3 ri false)))))) Q st':=by
 refine vL (Q:=blockQ id Q) S J μ C hg M (fun x hx=>?_) (a:=.skip) fun _ h=>h;refine lL (rf:=rf) (id:=i1) (AOps.iv (h x hx) fun s hs=>?_);obtain⟨g,h1,h2,h3⟩:=hs;refine⟨s,.refl s,c6 h1 (fun X=>?_) fun qT=>?_⟩
 .exact cu (Eo (h2 X))
 .refine jK ?_;simp only[seqQ,blockQ,if_true];exact h3 qT
theorem lk[cR Y](S:α->St)(J:α->Prop)(μ:α->Nat)(C:α)(hg:Ghost P st (S C))(M:J C)
 (h:∀ x,J x->AOps P Y rc false [] (dV fun s=>∃ g,opd s.env (.tmp t)=.s (.bool g)/\(g=true->AW P Y rf body (jn eM id (fun s=>AOps P Y ri false [] (dV (pf P S J μ x)) ri.toList s []) Q) s)/\(g=false->Q .normal s)) rc.toList (S x) []):
 ∃ st',Ghost P st st'/\AW P Y rf (.block id (.loop (.seq (.seq (.region i1 rc false) (.cond (.tmp t) .skip (.exit id))) (.seq (.block eM body) (.region i3 ri false))))) Q st':=by
 refine vL (Q:=blockQ id Q) S J μ C hg M (fun x hx=>?_) (a:=.skip) fun _ h=>h;refine aB (lL (rf:=rf) (id:=i1) (AOps.iv (h x hx) fun s hs=>?_));obtain⟨g,h1,h2,h3⟩:=hs;refine⟨s,.refl s,c6 h1 (fun X=>?_) fun qT=>?_⟩
 .exact cu (Eo (h2 X))
 .refine jK ?_;simp only[seqQ,blockQ,if_true];exact h3 qT
theorem T7[cR Y]{next:St->Prop}{s:St}(h:AW P Y rf body (jn eM id next Q) s):AW P Y rf (.block eM body) (seqQ next (blockQ id Q)) s:=by
 refine p7 body (fun e s h=>?_) h;cases e with
 |exit i=>
  simp only[jn] at h;simp only[blockQ];split at h
  .rename_i hi;rw[if_pos hi];exact h
  .rename_i hi;rw[if_neg hi];simp only[seqQ,blockQ];exact h
 |_=>exact h
theorem Bj[cR Y](S:α->St)(J:α->Prop)(μ:α->Nat)(C:α)(hg:Ghost P st (S C))(M:J C)
 (h:∀ x,J x->AOps P Y rc false [] (dV fun s=>∃ g,opd s.env (.tmp t)=.s (.bool g)/\(g=true->AW P Y rf body (jn eM id (pf P S J μ x) Q) s)/\(g=false->Q .normal s)) rc.toList (S x) []):
 ∃ st',Ghost P st st'/\AW P Y rf (.block id (.loop (.seq (.seq (.region i1 rc false) (.cond (.tmp t) .skip (.exit id))) (.block eM body)))) Q st':=by
 refine vL (Q:=blockQ id Q) S J μ C hg M (fun x hx=>?_) (a:=.skip) fun _ h=>h;refine aB (lL (rf:=rf) (id:=i1) (AOps.iv (h x hx) fun s hs=>?_));obtain⟨g,h1,h2,h3⟩:=hs;refine⟨s,.refl s,c6 h1 (fun X=>?_) fun qT=>?_⟩
 .exact cu (T7 (h2 X))
 .refine jK ?_;simp only[seqQ,blockQ,if_true];exact h3 qT
theorem cI{s:St}(h:Q .normal s):AW P Y rf .skip Q s:=h
theorem bq{s:St}(h:Q .ret s):AW P Y rf .ret Q s:=h
theorem Wb{s:St}{i:Nat}(h:Q (.exit i) s):AW P Y rf (.exit i) Q s:=h
theorem cz{next:St->Prop}{s:St}(h:Q .ret s):jn eM id next Q .ret s:=h
theorem bl{K:St->Prop}{s:St}(h:Q .ret s):seqQ K Q .ret s:=h
theorem eF{s:St}(h:Q .ret s):blockQ id Q .ret s:=h
theorem Ep{s:St}(h:Q .ret s):scopeQ Q .ret s:=h
theorem o9{next:St->Prop}{s:St}(h:next s):jn eM id next Q (.exit eM) s:=by simp only[jn,if_true];exact h
theorem Vd{next:St->Prop}{s:St}(C:id≠eM)(h:Q .normal s):jn eM id next Q (.exit id) s:=by simp only[jn,if_neg C,if_true];exact h
theorem Xi{i:Nat}{next:St->Prop}{s:St}(h2:i≠eM)(h1:i≠id)(h:Q (.exit i) s):jn eM id next Q (.exit i) s:=by simp only[jn,if_neg h2,if_neg h1];exact h
theorem LI{K:St->Prop}{i:Nat}{s:St}(h:Q (.exit i) s):seqQ K Q (.exit i) s:=h
theorem tM[cR Y]{a:Code}(h:AW P Y rf a (blockQ id (seqQ (fun st=>AW P Y rf rest Q st) Q)) st):AW P Y rf (.seq (.block id a) rest) Q st:=MG (fun st=>AW P Y rf rest Q st) (lM h) fun _ h=>h
theorem r8{s:St}(h:AW P Y rf rest Q s):AW P Y rf .skip (blockQ id (seqQ (fun st=>AW P Y rf rest Q st) Q)) s:=h
theorem LJ[cR Y]{a:Code}(h:AW P Y rf a (seqQ (fun st=>AW P Y rf rest Q st) Q) st):AW P Y rf (.seq a rest) Q st:=MG _ h fun _ h=>h
theorem r9[cR Y]{r:Array Oper}{i:Nat}{J:St->Prop}(h:AOps P Y r false [] (dV J) r.toList st []):AW P Y rf (.region i r false) (seqQ J Q) st:=lL (rf:=rf) (id:=i) (AOps.iv h fun _ h=>h)
theorem jM[cR Y]{r:Array Oper}{i:Nat}{J:St->Prop}(h:AOps P Y r false [] (dV J) r.toList st []):AW P Y rf (.region i r false) (blockQ id (seqQ J Q)) st:=lL (rf:=rf) (id:=i) (AOps.iv h fun _ h=>h)
theorem bD{J:St->Prop}(h:J st):AW P Y rf .skip (seqQ J Q) st:=h
theorem D1{J:St->Prop}(h:J st):AW P Y rf .skip (blockQ id (seqQ J Q)) st:=h
theorem cN[cR Y]{a:Code}(R:St->Prop)(h:∃ st',Ghost P st st'/\AW P Y rf a (seqQ R Q) st')(k:∀ s,R s->∃ s',Ghost P s s'/\AW P Y rf rest Q s'):∃ st',Ghost P st st'/\AW P Y rf (.seq a rest) Q st':=by
 obtain⟨st',hg,h⟩:=h;exact⟨st',hg,eO R h k⟩
end
def Real(d:D):Prop:=∃ F β w v,R F β w d v
theorem Real.sl{es:List D}{n:Nat}(h:Real (.sl es n)):n<=maxLen/\∀ d∈es,Real d:=by
 obtain⟨F,β,w,v,h⟩:=h;cases h with
 |sln=>simp[maxLen]
 |sl _ _ b o cap us hf hb af mU dD hc C=>
  refine⟨Nat.le_trans mU dD,fun d hd=>?_⟩;obtain⟨k,hk⟩:=cU hd;exact⟨F,β,w,_,C k d hk⟩
theorem Real.agg{cs:List D}(h:Real (.agg cs)):∀ d∈cs,Real d:=by
 obtain⟨F,β,w,v,h⟩:=h;obtain⟨vs,rfl,hl,C⟩:=h.agg_inv;intro d hd;obtain⟨k,hk⟩:=cU hd;have:k<vs.length:=by rw[hl];exact(bj.1 hk).1
 exact⟨F,β,w,_,C k d vs[k] hk (by simp[this])⟩
theorem Ve{F:Nat->Prop}{β:Pla}{w:World}{args:List D}{vs:Array Value}(h:Rs F β w args vs):∀ a∈args,Real a:=fun a ha=>by
 obtain⟨k,hk⟩:=cU ha;have:k<vs.size:=by rw[h.1];exact(bj.1 hk).1
 exact⟨F,β,w,vs[k],h.2 k a _ hk (by simp[this])⟩
theorem mA{P:Program}{f:FuncId}{args:List D}{r:D}(he:enterOk P f=true)(ht:∀ a∈args,Tr a)(h:(∀ a∈args,Real a)->PCall P f args r):PCall P f args r:=
 ⟨he,ht,fun F w vs hF hR=>(h (Ve hR)).2.2 F w vs hF hR⟩
section
variable{P:Program}{m:Mem}{rds:List Nat}
theorem bQ{a:D}(h:Tr a):Sn P rds m a a:=fun _ _ _ _ _ hv=>h.zg hv
theorem Fq{i off n:Nat}{cs es:List D}{e:TypeId}(hm:m i=some (.cells cs e))(hi:i∈rds)(J:(cs.drop off).take (n*P.cellsOf e)=es)(ht:∀ a∈es,Tr a):Sn P rds m (.rs i off n) (.sl es n):=fun F β w v hl hv=>by
 subst J;obtain⟨p,hp,hr,M⟩:=hl i hi _ hm;cases hv with
 |rsd _ _ _ _ h1 _=>rw[h1] at hp;cases hp;cases hr
 |rsn _ a h1=>
  rw[h1] at hp;cases hp;cases hr;simp only[List.drop_nil,List.take_nil];exact .sln a 0
 |rsz _ _ a b o len room sz h1=>
  simp only[Nat.zero_mul,List.take_zero];exact .sln a 0
 |rs _ _ _ cap b o len room sz h1 hn dD h2 h3=>
  rw[h1] at hp;cases hp
  have af:b<w.heap.size:=by
   cases hr with
   |cells _ _ _ _ _ _ c hb _ _ _ _=>exact(Array.getElem?_eq_some_iff.1 hb).1
  obtain⟨C,hl,bt,_⟩:=hr.rd;obtain⟨us,X,u2⟩:=(C.drop off).take (n*P.cellsOf e);exact .sl _ n b (o+off) cap us (M b rfl) (fun k q hq=>by cases hq) af hn dD X fun k d hk=>(ht d (bJ hk)).zg (u2 k d hk)
theorem MK{i off:Nat}{cs es:List D}{e:TypeId}(hm:m i=some (.cells cs e))(hi:i∈rds)(J:cs.drop off=es)(ht:∀ a∈es,Tr a):Sn P rds m (.rp i off) (.pt es):=fun F β w v hl hv=>by
 subst J;obtain⟨p,hp,hr,M⟩:=hl i hi _ hm;cases hv with
 |rpd _ _ _ h1 _=>rw[h1] at hp;cases hp;cases hr
 |rp _ _ b o len room sz h1=>
  rw[h1] at hp;cases hp
  have af:b<w.heap.size:=by
   cases hr with
   |cells _ _ _ _ _ _ c hb _ _ _ _=>exact(Array.getElem?_eq_some_iff.1 hb).1
  obtain⟨C,hl,bt,_⟩:=hr.rd;obtain⟨us,X,u2⟩:=C.drop off;exact .pt _ b (o+off) us (M b rfl) (fun k q hq=>by cases hq) af X fun k d hk=>(ht d (bJ hk)).zg (u2 k d hk)
variable{Y:YSpec}{rf:Bool}{ops:Array Oper}{dr:Bool}{cf:List (Nat×Nat)}{Q:Exit->St->Prop}{rest:List Oper}{env:Env}{nx:Nat}{tr:Tra}{t:Nat}{op:Op}{ty:TypeId}{pos:String}{after:Array Edge}
 {pre:Prop} {v:D} {rd:List Nat}
theorem Wg{j:Nat}{b:Bool}{u:Nat}{row:Row}(hj:(ops[j]?).bind (·.dst)=some u)(hg:guardC (env u) b=some true)(he:Ef P op env m nx ⟨pre,v,[(nx,some row)],rd,1⟩)(ha:eZ env op.operands.toList)(hp:pre)
 (K:AOps P Y ops dr cf Q rest ⟨up env t v,up m nx (some row),nx+1⟩ (tr++[(rd,[nx])])):AOps P Y ops dr cf Q (⟨some t,op,ty,pos,after,some (j,b)⟩::rest) ⟨env,m,nx⟩ tr:=
 Xm hj hg he ha hp (fun h=>by cases h) K
theorem Bz{j:Nat}{b:Bool}{u:Nat}{f:FuncId}{args args':List D}{r:D}{rds:List Nat}(h:PCall P f args' r)(hs:r.scal=true)(hj:(ops[j]?).bind (·.dst)=some u)(hg:guardC (env u) b=some true)(hc:callD (rho env op) op=some (f,args))(C:Sns P rds m args args')(ha:eZ env op.operands.toList)
 (K:AOps P Y ops dr cf Q rest ⟨up env t r,m,nx⟩ (tr++[(rds,[])])):AOps P Y ops dr cf Q (⟨some t,op,ty,pos,after,some (j,b)⟩::rest) ⟨env,m,nx⟩ tr:=
 T' hj hg hc ha (.inr (.inl ⟨args',rds,r,C,h,hs,K⟩))
end
section
variable{P:Program}{Y:YSpec}{rf:Bool}{ops:Array Oper}{dr:Bool}{cf:List (Nat×Nat)}{Q:Exit->St->Prop}{rest:List Oper}{env:Env}{m:Mem}{nx:Nat}{tr:Tra}{t:Nat}{ty:TypeId}{pos:String}{after:Array Edge}
theorem S6{j:Nat}{b0 C:Bool}{u:Nat}(hj:(ops[j]?).bind (·.dst)=some u)(hg:guardC (env u) b0=some C){c a b:Operand}{x:Bool}(hc:(opd env c).core=.s (.bool true))(ha:(opd env a).core=.s (.bool x))
 (h0:C=true->(opd env c).ask) (h1:C=true->(opd env a).ask) (K:AOps P Y ops dr cf Q rest ⟨up env t (.opt C (.s (.bool x))),m,nx⟩ (tr++[([],[])])):
 AOps P Y ops dr cf Q (⟨some t,.pick c a b,ty,pos,after,some (j,b0)⟩::rest) ⟨env,m,nx⟩ tr:=by
 have he:=vM (P:=P) (env:=env) (m:=m) (nx:=nx) (a:=a) (b:=b) hc;simp only[ha,D.bool?,Option.getD_some,if_true] at he;simp only[AOps,AOp];rw[hj];simp only[Option.bind_some];rw[hg,he.nc,he.ny,he.ok];exact⟨fun hc=>⟨by simp only[asks];exact h0 hc,fun _=>⟨h1 hc,rfl⟩,fun h=>by cases h⟩,K⟩
theorem S7{j:Nat}{b0 C:Bool}{u:Nat}(hj:(ops[j]?).bind (·.dst)=some u)(hg:guardC (env u) b0=some C){c a b:Operand}{y:Bool}(hc:(opd env c).core=.s (.bool false))(hb:(opd env b).core=.s (.bool y))
 (h0:C=true->(opd env c).ask) (h1:C=true->(opd env b).ask) (K:AOps P Y ops dr cf Q rest ⟨up env t (.opt C (.s (.bool y))),m,nx⟩ (tr++[([],[])])):
 AOps P Y ops dr cf Q (⟨some t,.pick c a b,ty,pos,after,some (j,b0)⟩::rest) ⟨env,m,nx⟩ tr:=by
 have he:=vM (P:=P) (env:=env) (m:=m) (nx:=nx) (a:=a) (b:=b) hc;simp only[hb,D.bool?,Option.getD_some,Bool.false_eq_true,if_false] at he;simp only[AOps,AOp];rw[hj];simp only[Option.bind_some];rw[hg,he.nc,he.ny,he.ok];exact⟨fun hc=>⟨by simp only[asks];exact h0 hc,fun h=>oH,fun _=>⟨h1 hc,rfl⟩⟩,K⟩
variable{id:Nat}{st:St}
theorem D4[cR Y]{i:Nat}{J:St->Prop}(hi:drawInfo ops=some cf)(h:AOps P Y ops true cf (dV J) ops.toList st []):AW P Y rf (.region i ops true) (blockQ id (seqQ J Q)) st:=wc (rf:=rf) (id:=i) hi (AOps.iv h fun _ h=>h)
theorem Ua{r:Option Row}{i:Nat}(h:m i=r):∀ j,up (fun _=>none) i r j=m j\/up (fun _=>none) i r j=none:=fun j=>by
 by_cases hj:j=i
 .subst hj;left;rw[up_same,h]
 .right;rw[up_ne _ _ hj]
theorem p8[cR Y]{i eM:Nat}{next:St->Prop}(hi:drawInfo ops=some cf)(h:AOps P Y ops true cf (dV next) ops.toList st []):AW P Y rf (.region i ops true) (jn eM id next Q) st:=wc (rf:=rf) (id:=i) hi (AOps.iv h fun _ h=>h)
theorem fY[cR Y]{i eM:Nat}{next:St->Prop}(h:AOps P Y ops false [] (dV next) ops.toList st []):AW P Y rf (.region i ops false) (jn eM id next Q) st:=lL (rf:=rf) (id:=i) (AOps.iv h fun _ h=>h)
def bi:List (Nat×Row)->Mem
 |[],_=>none
 |(i,r)::l,j=>if j=i then some r else bi l j
def yV:List (Nat×Row)->Mem->Prop
 |[],_=>True
 |(i,r)::l,m=>m i=some r/\yV l m
theorem Er:∀ {l:List (Nat×Row)} {m:Mem},yV l m->∀ i,bi l i=m i\/bi l i=none
 |[],_,_,_=>.inr rfl
 |(k,r)::l,m,h,i=>by
  simp only[bi];by_cases hi:i=k
  .subst hi;rw[if_pos rfl];exact .inl h.1.symm
  .rw[if_neg hi];exact Er h.2 i
theorem bg{l:List (Nat×D)}{ml:List (Nat×Row)}{m:Mem}{nx:Nat}(h:gU l env)(hm:yV ml m):Ghost P ⟨env,m,nx⟩ ⟨aw l,bi ml,nx⟩:=(Ghost.forget env _ m nx (kY h)).trans (.drop _ _ _ _ (Er hm))
end
section
variable{P:Program}
end
theorem al{α:Type}{f:Nat->α}{k j:Nat}{v r:α}(h:j≠k)(hf:f j=r):up f k v j=r:=(up_ne f v h).trans hf
theorem cg{β:Sort _}{M m:Mem}{i:Nat}{r:Option Row}(h:M=m)(x:β)(k:β->m i=r:=by intro x;repeat (first|exact x|exact rfl|exact up_same _ _ _|refine al (by omega) ?_)):M i=r:=h ▸ k x
theorem l0{β:Sort _}{p:Prop}(x:β)(k:β->p:=by intro x;dsimp only;repeat (first|exact x|exact up_same _ _ _|refine al (by omega) ?_)):p:=k x
theorem qw{i off sz:Nat}{cs:List D}:sub (fz0 i cs sz) (.rp i off)=.pt (cs.drop off):=by simp[sub,sub1,fz0]
theorem NM{i off n sz:Nat}{cs:List D}:sub (fz0 i cs sz) (.rs i off n)=.sl ((cs.drop off).take (n*sz)) n:=by simp[sub,sub1,fz0]
theorem J7{i j off sz:Nat}{cs:List D}(h:j≠i):sub (fz0 i cs sz) (.rp j off)=.rp j off:=by simp[sub,sub1,fz0,h]
theorem Jt{α:Type}{f:α->List D}{sz:Nat}(hs:∀ x,(f x).length=sz):∀ (l:List α) (k:Nat),(l.flatMap f).take (k*sz)=(l.take k).flatMap f
 |[],k=>by simp
 |x::l,0=>by simp
 |x::l,k+1=>by
  rw[List.flatMap_cons,List.take_succ_cons,List.flatMap_cons, <- Jt hs l k,show(k+1)*sz=(f x).length+k*sz by rw[hs x,Nat.add_mul];omega,List.take_length_add_append]
theorem VK{α:Type}{f:α->List D}{sz k:Nat}{l:List α}(hs:∀ x,(f x).length=sz)(hk:k<=l.length):
 D.sl (((l.flatMap f).drop ((0:Int).toNat*sz)).take (((k:Int) - 0).toNat*sz)) ((k:Int) - 0).toNat=D.sl ((l.take k).flatMap f) (l.take k).length:=by
 have h1:((k:Int) - 0).toNat=k:=by omega
 have h2:(0:Int).toNat*sz=0:=by simp
 rw[h1,h2,List.drop_zero,Jt hs,List.length_take,Nat.min_eq_left hk]
section
variable{P:Program}{env:Env}{m:Mem}{nx:Nat}{x y z:Operand}{t:TypeId}{v:D}
theorem Uf{i:Nat}{es:List (Value×D)}{key:Value}{kt:TypeId}(hx:(opd env x).core=.mp i)(hm:m i=some (.map es))(hk:keyV (opd env y).core=some key)(C:(opd env z).core=v)(ht:mkeyP P t=kt):
 Ef P (.insert t x y z) env m nx ⟨mapT P t=true/\keyP P kt key=true/\es.all (fun e=>keyP P kt e.1)=true,.tup [],[(i,some (.map (putD key v es)))],[i],0⟩:=by
 refine⟨?_,rfl,rfl⟩;show mapPutD P m t (opd env x).core (opd env y).core (opd env z).core=_;simp only[mapPutD,hk,hx,hm,ht,C]
variable{n n':Int}{k:IntKind}{c:Bool}{p:TypeId}{n0:Nat}
theorem LP(hx:(opd env x).core=.s (.int k n))(hy:(opd env y).core=.s (.int k n'))(hd:decide (n'<n)=c):Ef P (.binOp .gtr t x y p) env m nx ⟨k=k,.s (.bool c),[],[],0⟩:=by subst hd;exact Fa hx hy
theorem LN(hx:(opd env x).core=.s (.int k n))(hy:(opd env y).core=.s (.int k n'))(hd:decide (n<n')=c):Ef P (.binOp .lss t x y p) env m nx ⟨k=k,.s (.bool c),[],[],0⟩:=by subst hd;exact E9 hx hy
theorem LR(hx:(opd env x).core=.s (.int k n))(hy:(opd env y).core=.s (.int k n'))(hd:decide (n<=n')=c):Ef P (.binOp .leq t x y p) env m nx ⟨k=k,.s (.bool c),[],[],0⟩:=by subst hd;exact E' hx hy
theorem yW(hx:(opd env x).core=.s (.int k n))(hy:(opd env y).core=.s (.int k n'))(hd:(n==n')=c):Ef P (.binOp .eql t x y p) env m nx ⟨k=k,.s (.bool c),[],[],0⟩:=by subst hd;exact Ff hx hy
theorem LO(hx:(opd env x).core=.s (.int k n))(hy:(opd env y).core=.s (.int k n'))(hd:(n !=n')=c):Ef P (.binOp .neq t x y p) env m nx ⟨k=k,.s (.bool c),[],[],0⟩:=by subst hd;exact Fg hx hy
theorem WM(hx:(opd env x).core=.s (.int k n))(hy:(opd env y).core=.s (.int k n')){r:Int}(hd:k.wrap (n.tdiv n')=r):Ef P (.binOp .quo t x y p) env m nx ⟨k=k/\n'≠0,.s (.int k r),[],[],0⟩:=by subst hd;exact V5 hx hy
theorem WN(hx:(opd env x).core=.s (.int k n))(hy:(opd env y).core=.s (.int k n')){r:Int}(hd:n.tmod n'=r):Ef P (.binOp .rem t x y p) env m nx ⟨k=k/\n'≠0,.s (.int k r),[],[],0⟩:=by subst hd;exact W8 hx hy
theorem L9(hx:(opd env x).core=.s (.int k n))(hy:(opd env y).core=.s (.int k n'))(hd:decide (n'<=n)=c):Ef P (.binOp .geq t x y p) env m nx ⟨k=k,.s (.bool c),[],[],0⟩:=by subst hd;exact Fb hx hy
theorem Vl{j i l:Nat}{e:TypeId}{r:Row}(hx:(opd env x).core=.rp j 0)(hy:(opd env y).core=.s (.int k (i:Int)))(hm:m j=some r)(he:elemP P t=e)(hs:P.cellsOf e=1)(hl:lenP P t=l):
 Ef P (.indexAddr t x y) env m nx ⟨arT P t=true/\i<l,.rp j i,[],[j],0⟩:=by
 have h:=LA (P:=P) (env:=env) (m:=m) (nx:=nx) (t:=t) hx hy hm he hs hl;have h1:0+((i:Int)).toNat*1=i:=by simp
 have h2:(arT P t=true/\(0:Int)<=(i:Int)/\(i:Int)<l)=(arT P t=true/\i<l):=by
  apply propext;constructor
  .rintro⟨a,_,b⟩;exact⟨a,oG⟩
  .rintro⟨a,b⟩;exact⟨a,oG,oG⟩
 rw[h1,h2] at h;exact h
theorem jW{l:List D}{n:Nat}(h:l.length=n):(l.drop 0).take n=l:=by rw[List.drop_zero,ez oG]
theorem L1{l:List D}{n:Nat}(h:l.length=n):l.take n=l:=ez oG
theorem Es{z l:List D}(C:z.length=20)(hl:l.length=20):splice z 0 l=l:=by
 unfold splice;split
 .simp at hl
 .rw[List.take_zero,List.nil_append,List.drop_eq_nil_of_le oG,List.append_nil]
theorem WK{es:List D}(hx:(opd env x).core=.sl es 0):Ef P (.binOp .eql t x (.const (.slice none 0 0)) p) env m nx ⟨slT P t=true,.ub,[],[],0⟩:=⟨by simp only[aop,rho,hx,nilD,if_true],rfl,rfl⟩
theorem WL{es:List D}{l:Nat}(hx:(opd env x).core=.sl es l)(hl:l≠0):Ef P (.binOp .eql t x (.const (.slice none 0 0)) p) env m nx ⟨slT P t=true,.s (.bool false),[],[],0⟩:=⟨by simp only[aop,rho,hx,nilD,if_neg hl],rfl,rfl⟩
theorem su{i off n sz:Nat}{cs es:List D}{e:TypeId}(hs:P.cellsOf e=sz)(h:(cs.drop off).take (n*sz)=es):xj P [(i,cs,e)] (.rs i off n)=.sl es n:=by subst hs h;exact NM
theorem A0(h:env n0=.z):Ghost P ⟨env,m,nx⟩ ⟨aw [(n0,.sl [] 0)],fun _=>none,nx+1⟩:=by
 have h1:=Ghost.nilrow (P:=P) env m nx n0 0 h;have h2:=cE (P:=P) (env:=up env n0 (.rs nx 0 0)) (m:=up m nx (some (.cells [] 0))) (nx:=nx+1) [(nx,[],0)] ⟨up_same _ _ _,trivial⟩ (l:=[(n0,.sl [] 0)]) ⟨(congrArg _ (up_same _ _ _)).trans (su (sz:=P.cellsOf 0) rfl oS),trivial⟩;exact h1.trans h2
theorem j7{rds:List Nat}:Sn P rds m .z (.sl [] 0):=fun F β w v _ hv=>by
 obtain⟨x,rfl⟩:=hv.z_inv;exact .sln x 0
theorem WJ{rds:List Nat}{aS bs:List D}(h:Sns P rds m aS bs):Sn P rds m (.agg aS) (.agg bs):=fun F β w v hl hv=>by
 obtain⟨vs,rfl,hn,C⟩:=hv.agg_inv;obtain⟨h1,h2⟩:=sns_R hl h;refine .agg _ vs oG fun k d u hd J=>?_;have hk:k<aS.length:=by rw[h1];exact(bj.1 hd).1
 exact h2 k aS[k] d (by simp[hk]) hd u (C k aS[k] u (by simp[hk]) J)
theorem A7{l:List (Nat×D)}{m':Mem}(h:gU l env)(hm:∀ i,m' i=m i\/m' i=none):Ghost P ⟨env,m,nx⟩ ⟨aw l,m',nx⟩:=(Ghost.forget env _ m nx (kY h)).trans (.drop _ _ _ _ hm)
def GC:List (Nat×List (Value×D))->Mem->Prop
 |[],_=>True
 |(i,es)::fs,m=>m i=some (.map es)/\GC fs (fun j=>if j=i then none else(m j).map (Row.sub (fm0 i es)))
def Ia:List (Nat×List (Value×D))->D->D
 |[],d=>d
 |(i,es)::fs,d=>Ia fs (sub (fm0 i es) d)
theorem Ju:∀ {fs:List (Nat×List (Value×D))} {env:Env} {m:Mem} {nx:Nat},GC fs m->∃ m',Ghost P ⟨env,m,nx⟩ ⟨fun t=>Ia fs (env t),m',nx⟩
 |[],env,m,nx,_=>⟨m,.refl _⟩
 |(i,es)::fs,env,m,nx,⟨h1,h2⟩=>by
  obtain⟨m',h⟩:=Ju (env:=fun t=>sub (fm0 i es) (env t)) (nx:=nx) h2;exact⟨m',(Ghost.freezeM env m nx i es h1).trans h⟩
theorem UN(fs:List (Nat×List (Value×D)))(hf:GC fs m){l:List (Nat×D)}(hl:gU l fun t=>Ia fs (env t)):Ghost P ⟨env,m,nx⟩ ⟨aw l,fun _=>none,nx⟩:=by
 obtain⟨m',h⟩:=Ju (P:=P) (env:=env) (nx:=nx) hf;exact h.trans ((Ghost.forget _ _ _ _ (kY hl)).trans (Ghost.drop _ _ _ _ fun _=>.inr rfl))
end
end Go.Abs
namespace Go.Proofs.Tryz.K
open Go.Abs
theorem a1:aggP prog 1=false:=kr
theorem b1:prog.bytesOf 1=8:=kr
theorem b2:prog.bytesOf 2=8:=kr
theorem a2:aggP prog 2=false:=kr
theorem c3:prog.cellsOf 3=1:=kr
theorem b3:prog.bytesOf 3=8:=kr
theorem a3:aggP prog 3=false:=kr
theorem c4:prog.cellsOf 4=1:=kr
theorem b4:prog.bytesOf 4=1:=kr
theorem a4:aggP prog 4=false:=kr
theorem c5:prog.cellsOf 5=1:=kr
theorem b5:prog.bytesOf 5=1:=kr
theorem a5:aggP prog 5=false:=kr
theorem b6:prog.bytesOf 6=1:=kr
theorem a6:aggP prog 6=false:=kr
theorem H9:elemP prog 15=275:=kr
theorem H':elemP prog 16=278:=kr
theorem H3:elemP prog 17=287:=kr
theorem Q1:elemP prog 22=5:=kr
theorem Pr:slT prog 22=true:=kr
theorem xF:prog.cellsOf 27=1:=kr
theorem Qx:prog.bytesOf 27=24:=kr
theorem CF:elemP prog 27=3:=kr
theorem B7:slT prog 27=true:=kr
theorem Hz:prog.cellsOf 30=3:=kr
theorem Hy:aggP prog 30=true:=kr
theorem t30:tyOk prog 30=true:=kr
theorem PR:prog.cellsOf 133=10:=kr
theorem PQ:aggP prog 133=true:=kr
theorem t133:tyOk prog 133=true:=kr
theorem sJ:prog.cellsOf 168=2:=kr
theorem OK:prog.bytesOf 168=16:=kr
theorem OT:aggP prog 168=true:=kr
theorem t168:tyOk prog 168=true:=kr
theorem B9:elemP prog 169=168:=kr
theorem BP:slT prog 169=true:=kr
theorem Gz:aggP prog 205=true:=kr
theorem GA:zeroP prog 205=[.s (.int .i64 0),.s (.int .i64 0),.s (.int .i64 0),.s (.int .i64 0),.s (.int .i64 0),.s (.int .i64 0)]:=kr
theorem od:prog.cellsOf 231=20:=kr
theorem Pa:prog.bytesOf 231=160:=kr
theorem qE:aggP prog 231=true:=kr
theorem t231:tyOk prog 231=true:=kr
theorem O':zeroP prog 231=[.s (.int .u64 0),.s (.int .u64 0),.s (.int .u64 0),.s (.int .u64 0),.s (.int .u64 0),.s (.int .u64 0),.s (.int .u64 0),.s (.int .u64 0),.s (.int .u64 0),.s (.int .u64 0),.s (.int .u64 0),.s (.int .u64 0),.s (.int .u64 0),.s (.int .u64 0),.s (.int .u64 0),.s (.int .u64 0),.s (.int .u64 0),.s (.int .u64 0),.s (.int .u64 0),.s (.int .u64 0)]:=kr
theorem mixed:prog.follows .mixedOrders=true:=kr
noncomputable def bo(f:Func):Code:=(f.body).getD .skip
abbrev FO(n:FuncId)(f:Func)(c:Code):=jz prog n f c
theorem fo{n:FuncId}{f:Func}{c:Code}(h1:prog.funcs[n]? =some f:=by kernel_rfl)(h2:f.body=some c:=by kernel_rfl)(h3:ir f.ntmps c=true:=by kernel_rfl)(h4:enterOk prog n=true:=by kernel_rfl):FO n f c:=⟨h1,h2,h3,h4⟩
noncomputable def fP:=bo Tryz.f8
theorem ok8:FO 8 Tryz.f8 fP:=fo
noncomputable def gh:=bo Tryz.f15
theorem abq:FO 15 Tryz.f15 gh:=fo
noncomputable def jR:=bo Tryz.f16
theorem aaw:FO 16 Tryz.f16 jR:=fo
noncomputable def L':=bo Tryz.f17
theorem abJ:FO 17 Tryz.f17 L':=fo
noncomputable def eI:=bo Tryz.f18
theorem Ga:FO 18 Tryz.f18 eI:=fo
noncomputable def jS:=bo Tryz.f20
theorem Cb:FO 20 Tryz.f20 jS:=fo
noncomputable def y7:=bo Tryz.f22
theorem PV:FO 22 Tryz.f22 y7:=fo
noncomputable def Ma:=bo Tryz.f23
theorem abK:FO 23 Tryz.f23 Ma:=fo
noncomputable def Mb:=bo Tryz.f26
theorem abL:FO 26 Tryz.f26 Mb:=fo
noncomputable def Mc:=bo Tryz.f28
theorem abM:FO 28 Tryz.f28 Mc:=fo
noncomputable def uh:=bo Tryz.f31
theorem PS:FO 31 Tryz.f31 uh:=fo
noncomputable def Md:=bo Tryz.f33
theorem abN:FO 33 Tryz.f33 Md:=fo
noncomputable def sd:=bo Tryz.f36
theorem PW:FO 36 Tryz.f36 sd:=fo
noncomputable def cA:=bo Tryz.f39
theorem PH:FO 39 Tryz.f39 cA:=fo
theorem abv: Tryz.f39.results.toList=[.tmp 2,.tmp 3]:=kr
noncomputable def Me:=bo Tryz.f41
theorem abO:FO 41 Tryz.f41 Me:=fo
noncomputable def Mf:=bo Tryz.f50
theorem abP:FO 50 Tryz.f50 Mf:=fo
noncomputable def eP:=bo Tryz.f51
theorem Gv:FO 51 Tryz.f51 eP:=fo
noncomputable def eJ:=bo Tryz.f52
theorem OG:FO 52 Tryz.f52 eJ:=fo
noncomputable def lf:=bo Tryz.f53
theorem F9:FO 53 Tryz.f53 lf:=fo
noncomputable def y8:=bo Tryz.f54
theorem Pu:FO 54 Tryz.f54 y8:=fo
noncomputable def dj:=bo Tryz.f60
theorem PJ:FO 60 Tryz.f60 dj:=fo
noncomputable def se:=bo Tryz.f61
theorem PB:FO 61 Tryz.f61 se:=fo
noncomputable def aY:=bo Tryz.f62
theorem OP:FO 62 Tryz.f62 aY:=fo
noncomputable def lU:=bo Tryz.f64
theorem GB:FO 64 Tryz.f64 lU:=fo
noncomputable def Mg:=bo Tryz.f65
theorem abQ:FO 65 Tryz.f65 Mg:=fo
noncomputable def Mh:=bo Tryz.f66
theorem abR:FO 66 Tryz.f66 Mh:=fo
noncomputable def y9:=bo Tryz.f69
theorem Pv:FO 69 Tryz.f69 y9:=fo
noncomputable def Mi:=bo Tryz.f70
theorem abS:FO 70 Tryz.f70 Mi:=fo
noncomputable def Mj:=bo Tryz.f71
theorem abT:FO 71 Tryz.f71 Mj:=fo
noncomputable def Mk:=bo Tryz.f72
theorem abU:FO 72 Tryz.f72 Mk:=fo
noncomputable def Ml:=bo Tryz.f73
theorem abV:FO 73 Tryz.f73 Ml:=fo
noncomputable def Mm:=bo Tryz.f82
theorem abW:FO 82 Tryz.f82 Mm:=fo
noncomputable def Mn:=bo Tryz.f83
theorem abX:FO 83 Tryz.f83 Mn:=fo
noncomputable def sf:=bo Tryz.f84
theorem Px:FO 84 Tryz.f84 sf:=fo
noncomputable def nV:=bo Tryz.f85
theorem Pz:FO 85 Tryz.f85 nV:=fo
noncomputable def Mo:=bo Tryz.f87
theorem abY:FO 87 Tryz.f87 Mo:=fo
noncomputable def za:=bo Tryz.f89
theorem O9:FO 89 Tryz.f89 za:=fo
noncomputable def gj:=bo Tryz.f90
theorem wU:FO 90 Tryz.f90 gj:=fo
noncomputable def Mp:=bo Tryz.f93
theorem abZ:FO 93 Tryz.f93 Mp:=fo
noncomputable def nW:=bo Tryz.f94
theorem PI:FO 94 Tryz.f94 nW:=fo
noncomputable def qk:=bo Tryz.f95
theorem Ps:FO 95 Tryz.f95 qk:=fo
noncomputable def zb:=bo Tryz.f96
theorem Ph:FO 96 Tryz.f96 zb:=fo
noncomputable def kD:=bo Tryz.f97
theorem Pc:FO 97 Tryz.f97 kD:=fo
noncomputable def KM:=bo Tryz.f100
theorem YS:FO 100 Tryz.f100 KM:=fo
noncomputable def rW:=bo Tryz.f105
theorem N9:FO 105 Tryz.f105 rW:=fo
noncomputable def nF:=bo Tryz.f110
theorem FH:FO 110 Tryz.f110 nF:=fo
noncomputable def jk:=bo Tryz.f115
theorem NE:FO 115 Tryz.f115 jk:=fo
noncomputable def nG:=bo Tryz.f116
theorem NK:FO 116 Tryz.f116 nG:=fo
noncomputable def yq:=bo Tryz.f117
theorem MZ:FO 117 Tryz.f117 yq:=fo
noncomputable def lO:=bo Tryz.f118
theorem Fw:FO 118 Tryz.f118 lO:=fo
noncomputable def yr:=bo Tryz.f119
theorem MQ:FO 119 Tryz.f119 yr:=fo
noncomputable def rX:=bo Tryz.f129
theorem M':FO 129 Tryz.f129 rX:=fo
noncomputable def nH:=bo Tryz.f130
theorem Fv:FO 130 Tryz.f130 nH:=fo
noncomputable def yu:=bo Tryz.f131
theorem Ng:FO 131 Tryz.f131 yu:=fo
noncomputable def KN:=bo Tryz.f132
theorem YT:FO 132 Tryz.f132 KN:=fo
noncomputable def KO:=bo Tryz.f133
theorem YU:FO 133 Tryz.f133 KO:=fo
noncomputable def KP:=bo Tryz.f134
theorem YV:FO 134 Tryz.f134 KP:=fo
noncomputable def KQ:=bo Tryz.f135
theorem YW:FO 135 Tryz.f135 KQ:=fo
noncomputable def KR:=bo Tryz.f136
theorem YX:FO 136 Tryz.f136 KR:=fo
noncomputable def iG:=bo Tryz.f137
theorem Ob:FO 137 Tryz.f137 iG:=fo
noncomputable def KS:=bo Tryz.f138
theorem YY:FO 138 Tryz.f138 KS:=fo
noncomputable def dR:=bo Tryz.f139
theorem N7:FO 139 Tryz.f139 dR:=fo
noncomputable def du:=bo Tryz.f140
theorem Oa:FO 140 Tryz.f140 du:=fo
noncomputable def KT:=bo Tryz.f141
theorem YZ:FO 141 Tryz.f141 KT:=fo
noncomputable def KU:=bo Tryz.f142
theorem Y0:FO 142 Tryz.f142 KU:=fo
noncomputable def KV:=bo Tryz.f143
theorem Y1:FO 143 Tryz.f143 KV:=fo
noncomputable def KW:=bo Tryz.f144
theorem Y2:FO 144 Tryz.f144 KW:=fo
noncomputable def nI:=bo Tryz.f149
theorem NL:FO 149 Tryz.f149 nI:=fo
noncomputable def dv:=bo Tryz.f151
theorem Nl:FO 151 Tryz.f151 dv:=fo
noncomputable def KX:=bo Tryz.f152
theorem Y3:FO 152 Tryz.f152 KX:=fo
noncomputable def cQ:=bo Tryz.f153
theorem NC:FO 153 Tryz.f153 cQ:=fo
noncomputable def dS:=bo Tryz.f154
theorem NB:FO 154 Tryz.f154 dS:=fo
noncomputable def yv:=bo Tryz.f155
theorem Nn:FO 155 Tryz.f155 yv:=fo
noncomputable def yw:=bo Tryz.f156
theorem MX:FO 156 Tryz.f156 yw:=fo
noncomputable def KY:=bo Tryz.f158
theorem Y4:FO 158 Tryz.f158 KY:=fo
noncomputable def tS:=bo Tryz.f166
theorem NW:FO 166 Tryz.f166 tS:=fo
noncomputable def o7:=bo Tryz.f168
theorem NG:FO 168 Tryz.f168 o7:=fo
noncomputable def KZ:=bo Tryz.f174
theorem Y5:FO 174 Tryz.f174 KZ:=fo
noncomputable def lP:=bo Tryz.f175
theorem N8:FO 175 Tryz.f175 lP:=fo
noncomputable def tT:=bo Tryz.f176
theorem NF:FO 176 Tryz.f176 tT:=fo
noncomputable def K0:=bo Tryz.f177
theorem Y6:FO 177 Tryz.f177 K0:=fo
noncomputable def mJ:=bo Tryz.f178
theorem Nk:FO 178 Tryz.f178 mJ:=fo
noncomputable def K2:=bo Tryz.f179
theorem Y7:FO 179 Tryz.f179 K2:=fo
noncomputable def K3:=bo Tryz.f180
theorem Y8:FO 180 Tryz.f180 K3:=fo
noncomputable def K4:=bo Tryz.f181
theorem Y9:FO 181 Tryz.f181 K4:=fo
noncomputable def K5:=bo Tryz.f182
theorem Y':FO 182 Tryz.f182 K5:=fo
noncomputable def K6:=bo Tryz.f183
theorem Za:FO 183 Tryz.f183 K6:=fo
noncomputable def yx:=bo Tryz.f184
theorem Nj:FO 184 Tryz.f184 yx:=fo
noncomputable def K7:=bo Tryz.f185
theorem Zb:FO 185 Tryz.f185 K7:=fo
noncomputable def K8:=bo Tryz.f186
theorem Zc:FO 186 Tryz.f186 K8:=fo
noncomputable def K9:=bo Tryz.f187
theorem Zd:FO 187 Tryz.f187 K9:=fo
noncomputable def La:=bo Tryz.f188
theorem Ze:FO 188 Tryz.f188 La:=fo
noncomputable def vW:=bo Tryz.f189
theorem NX:FO 189 Tryz.f189 vW:=fo
noncomputable def yz:=bo Tryz.f190
theorem Nw:FO 190 Tryz.f190 yz:=fo
noncomputable def yA:=bo Tryz.f191
theorem NA:FO 191 Tryz.f191 yA:=fo
noncomputable def yB:=bo Tryz.f192
theorem MO:FO 192 Tryz.f192 yB:=fo
noncomputable def yC:=bo Tryz.f193
theorem Ny:FO 193 Tryz.f193 yC:=fo
noncomputable def yD:=bo Tryz.f194
theorem Nx:FO 194 Tryz.f194 yD:=fo
noncomputable def dm:=bo Tryz.f195
theorem N5:FO 195 Tryz.f195 dm:=fo
noncomputable def jl:=bo Tryz.f196
theorem NZ:FO 196 Tryz.f196 jl:=fo
noncomputable def dh:=bo Tryz.f197
theorem Nr:FO 197 Tryz.f197 dh:=fo
noncomputable def fN:=bo Tryz.f198
theorem Nq:FO 198 Tryz.f198 fN:=fo
noncomputable def rY:=bo Tryz.f199
theorem No:FO 199 Tryz.f199 rY:=fo
noncomputable def yE:=bo Tryz.f200
theorem MT:FO 200 Tryz.f200 yE:=fo
noncomputable def tU:=bo Tryz.f201
theorem Nm:FO 201 Tryz.f201 tU:=fo
noncomputable def mK:=bo Tryz.f202
theorem MY:FO 202 Tryz.f202 mK:=fo
noncomputable def Lb:=bo Tryz.f222
theorem Zf:FO 222 Tryz.f222 Lb:=fo
noncomputable def Lc:=bo Tryz.f223
theorem Zg:FO 223 Tryz.f223 Lc:=fo
noncomputable def Ld:=bo Tryz.f224
theorem Zh:FO 224 Tryz.f224 Ld:=fo
noncomputable def Le:=bo Tryz.f225
theorem Zi:FO 225 Tryz.f225 Le:=fo
noncomputable def Lf:=bo Tryz.f226
theorem Zj:FO 226 Tryz.f226 Lf:=fo
noncomputable def yF:=bo Tryz.f227
theorem Ni:FO 227 Tryz.f227 yF:=fo
noncomputable def yG:=bo Tryz.f228
theorem MN:FO 228 Tryz.f228 yG:=fo
noncomputable def yH:=bo Tryz.f229
theorem Nu:FO 229 Tryz.f229 yH:=fo
noncomputable def yI:=bo Tryz.f230
theorem Nz:FO 230 Tryz.f230 yI:=fo
noncomputable def nJ:=bo Tryz.f231
theorem Ft:FO 231 Tryz.f231 nJ:=fo
noncomputable def yJ:=bo Tryz.f232
theorem Nv:FO 232 Tryz.f232 yJ:=fo
noncomputable def yK:=bo Tryz.f233
theorem FI:FO 233 Tryz.f233 yK:=fo
noncomputable def tV:=bo Tryz.f234
theorem FJ:FO 234 Tryz.f234 tV:=fo
noncomputable def k7:=bo Tryz.f235
theorem NO:FO 235 Tryz.f235 k7:=fo
noncomputable def nK:=bo Tryz.f236
theorem FL:FO 236 Tryz.f236 nK:=fo
noncomputable def yL:=bo Tryz.f237
theorem NI:FO 237 Tryz.f237 yL:=fo
noncomputable def yM:=bo Tryz.f238
theorem NU:FO 238 Tryz.f238 yM:=fo
noncomputable def vX:=bo Tryz.f239
theorem FK:FO 239 Tryz.f239 vX:=fo
noncomputable def vY:=bo Tryz.f240
theorem NY:FO 240 Tryz.f240 vY:=fo
noncomputable def Lg:=bo Tryz.f241
theorem Zk:FO 241 Tryz.f241 Lg:=fo
noncomputable def rZ:=bo Tryz.f242
theorem MU:FO 242 Tryz.f242 rZ:=fo
noncomputable def nL:=bo Tryz.f243
theorem MV:FO 243 Tryz.f243 nL:=fo
noncomputable def yN:=bo Tryz.f244
theorem N6:FO 244 Tryz.f244 yN:=fo
noncomputable def qb:=bo Tryz.f245
theorem MW:FO 245 Tryz.f245 qb:=fo
noncomputable def o8:=bo Tryz.f246
theorem Na:FO 246 Tryz.f246 o8:=fo
noncomputable def yO:=bo Tryz.f247
theorem Nc:FO 247 Tryz.f247 yO:=fo
noncomputable def Lh:=bo Tryz.f251
theorem Zl:FO 251 Tryz.f251 Lh:=fo
noncomputable def nM:=bo Tryz.f252
theorem Fs:FO 252 Tryz.f252 nM:=fo
noncomputable def kA:=bo Tryz.f253
theorem NN:FO 253 Tryz.f253 kA:=fo
noncomputable def yP:=bo Tryz.f254
theorem MP:FO 254 Tryz.f254 yP:=fo
noncomputable def yQ:=bo Tryz.f255
theorem NV:FO 255 Tryz.f255 yQ:=fo
noncomputable def yR:=bo Tryz.f256
theorem NH:FO 256 Tryz.f256 yR:=fo
noncomputable def yS:=bo Tryz.f257
theorem NT:FO 257 Tryz.f257 yS:=fo
noncomputable def r4:=bo Tryz.f258
theorem Nb:FO 258 Tryz.f258 r4:=fo
noncomputable def nN:=bo Tryz.f260
theorem Fu:FO 260 Tryz.f260 nN:=fo
theorem bd{f:FuncId}{fn:Func}{c:Code}(hf:jz Tryz.prog f fn c){args:List D}(ht:∀ a∈args,Tr a){r:D}(hr:Tr r)(h:AW Tryz.prog noY true c (retQ Tryz.prog fn.results.toList fun d _=>d=r) ⟨envOf args,fun _=>none,0⟩)(hn:Nat.ble args.length fn.ntmps=true:=by kernel_rfl):PCall Tryz.prog f args r:=T0 mixed hf hn ht hr h
theorem uW{f:FuncId}{fn:Func}{c:Code}(hf:jz Tryz.prog f fn c){args:List D}(ht:∀ a∈args,Tr a){es:List D}(C:∀ a∈es,Tr a){k:Nat}{t:TypeId}(h:AW Tryz.prog noY true c (retQ Tryz.prog fn.results.toList fun d st=>∃ i,d=.rs i 0 k∧st.mem i=some (.cells es t)) ⟨envOf args,fun _=>none,0⟩)(hn:Nat.ble args.length fn.ntmps=true:=by kernel_rfl):OCall Tryz.prog f args es k t:=JJ mixed hf hn ht C h
theorem tl{f:FuncId}{fn:Func}{c:Code}(hf:jz Tryz.prog f fn c){args:List D}{m:Mem}{nx:Nat}{bA:D->Mem->Nat->Prop}(h:AW Tryz.prog noY true c (retQ Tryz.prog fn.results.toList fun d st=>bA d st.mem st.nx) ⟨envOf args,m,nx⟩)(hn:Nat.ble args.length fn.ntmps=true:=by kernel_rfl):ACalls Tryz.prog f args m nx bA:=JI mixed hf hn h
def fO(P:Program)(t:TypeId):Array Field:=match P.underlying t with|some (.struct fs)=>fs|_=> #[]
theorem u8:prog.underlying 8=some (.struct (fO prog 8)):=kr
theorem FE:mkeyP prog 127=3:=kr
theorem FF:mapT prog 127=true:=kr
theorem FN:melP prog 131=205:=kr
theorem qq:mkeyP prog 165=172:=kr
theorem qt:mapT prog 165=true:=kr
theorem wB:mkeyP prog 166=168:=kr
theorem wC:mapT prog 166=true:=kr
theorem u2:prog.underlying 2=some (.int .i64):=kr
theorem u3:prog.underlying 3=some (.int .i64):=kr
theorem u5:prog.underlying 5=some (.int .u8):=kr
end Go.Proofs.Tryz.K
namespace Go.Argus
open Go.Abs
abbrev I(n:Int):D:=.s (.int .i64 n)
abbrev U8(n:Int):D:=.s (.int .u8 n)
abbrev B(b:Bool):D:=.s (.bool b)
abbrev S(s:ByteArray):D:=.s (.string s)
abbrev ao(l:List Int):D:=.sl (l.map I) l.length
abbrev ik(l:List Int):D:=.sl (l.map U8) l.length
abbrev mE(l:List ByteArray):D:=.sl (l.map S) l.length
structure bN where
 op:Int
 to:Int
 a:Int
 b:Int
 n:Int
 args:List Int
structure hC where
 name:ByteArray
 to:Int
structure End where
 kind:Int
 a:Int
 b:Int
 to:Int
 iz:Int
 name:ByteArray
 ins:bN
 args:List Int
 aE:List hC
 di:Int
structure ca where
 ins:List bN
 fin:End
structure aC where
 name:ByteArray
 iter:Bool
 args:Int
 result:Int
 aL:List Int
 cv:List Int
 signals:List ByteArray
 blocks:List ca
def b7(x:bN):List D:=[U8 x.op,I x.to,I x.a,I x.b,I x.n,ao x.args]
def jg(w:hC):List D:=[S w.name,I w.to]
def mC(l:List hC):D:=.sl (l.flatMap jg) l.length
def jj(l:List bN):D:=.sl (l.flatMap b7) l.length
def bm(x:End):List D:=[U8 x.kind,I x.a,I x.b,I x.to,I x.iz,S x.name,U8 x.ins.op,I x.ins.to,I x.ins.a,I x.ins.b,I x.ins.n,ao x.ins.args,ao x.args,mC x.aE,I x.di]
def dt(b:ca):List D:=jj b.ins::bm b.fin
def dM(l:List ca):D:=.sl (l.flatMap dt) l.length
def aX(f:aC):List D:=[S f.name,B f.iter,I f.args,U8 f.result,ik f.aL,ik f.cv,mE f.signals,dM f.blocks]
def aF(p q:D)(f:aC):List D:=[S f.name,B f.iter,I f.args,U8 f.result,ik f.aL,ik f.cv,mE f.signals,dM f.blocks,p,q]
@[simp] theorem aez (p q : D) (x : aC) : (aF p q x).length = 10 := rfl
@[simp] theorem aeD (x : bN) : (b7 x).length = 6 := rfl
@[simp] theorem aeA (x : hC) : (jg x).length = 2 := rfl
@[simp] theorem aeE (x : End) : (bm x).length = 15 := rfl
@[simp] theorem aev (x : ca) : (dt x).length = 16 := rfl
@[simp] theorem aeB (x : aC) : (aX x).length = 8 := rfl
theorem AT(x:bN):(b7 x).length=6:=rfl
theorem Dv(x:hC):(jg x).length=2:=rfl
theorem AS(x:ca):(dt x).length=16:=rfl
def j3{α:Type}(p:α->Bool)(l:List α):Int:=match l.findIdx? p with
 |some i=>i
 |none=> -1
theorem xS{α:Type}{p:α->Bool}{l:List α}{k:Nat}{x:α}(hx:l[k]? =some x)(hp:p x=true)(h:∀ j y,j<k->l[j]? =some y->p y=false):j3 p l=k:=by
 have:l.findIdx? p=some k:=by
  rw[List.findIdx?_eq_some_iff_getElem];obtain⟨hk,he⟩:=bj.1 hx;refine⟨hk,by rw[he];exact hp,fun j hj=>?_⟩;have:=h j l[j] hj (by simp[show j<l.length by omega]);simp[this]
 simp[j3,this]
theorem xT{α:Type}{p:α->Bool}{l:List α}(h:∀ (j:Nat) y,l[j]? =some y->p y=false):j3 p l= -1:=by
 have:l.findIdx? p=none:=by
  rw[List.findIdx?_eq_none_iff];intro x hx;obtain⟨j,hj⟩:=cU hx;exact h j x hj
 simp[j3,this]
theorem xZ{α:Type}(p:α->Bool)(l:List α):decide (0<=j3 p l)=l.any p:=by
 unfold j3;cases h:l.findIdx? p with
 |none=>
  rw[List.findIdx?_eq_none_iff] at h;have:l.any p=false:=List.any_eq_false.2 fun x hx=>by simp[h x hx]
  simp[this]
 |some i=>
  obtain⟨hi,hp,_⟩:=List.findIdx?_eq_some_iff_getElem.1 h;have:l.any p=true:=List.any_eq_true.2 ⟨l[i],oS,hp⟩;simp[this]
theorem cH(l:List Int):Tr (ao l):=.sl (.map fun _=>.s _)
theorem o3(l:List Int):Tr (ik l):=.sl (.map fun _=>.s _)
theorem vN(l:List ByteArray):Tr (mE l):=.sl (.map fun _=>.s _)
theorem rR(x:bN):∀ a∈b7 x,Tr a:=.cons (.s _) (.cons (.s _) (.cons (.s _) (.cons (.s _) (.cons (.s _) (.cons (cH _) .nil)))))
theorem Bb(x:hC):∀ a∈jg x,Tr a:=.cons (.s _) (.cons (.s _) .nil)
theorem gS(l:List hC):Tr (mC l):=.sl (.flat Bb)
theorem VO(l:List bN):Tr (jj l):=.sl (.flat rR)
theorem mF(x:End):∀ a∈bm x,Tr a:=.cons (.s _) (.cons (.s _) (.cons (.s _) (.cons (.s _) (.cons (.s _) (.cons (.s _) (.cons (.s _) (.cons (.s _) (.cons (.s _) (.cons (.s _) (.cons (.s _) (.cons (cH _) (.cons (cH _) (.cons (gS _) (.cons (.s _) .nil))))))))))))))
theorem Jd(x:ca):∀ a∈dt x,Tr a:=.cons (VO _) (mF _)
theorem DJ(l:List ca):Tr (dM l):=.sl (.flat Jd)
theorem jL(x:aC):∀ a∈aX x,Tr a:=.cons (.s _) (.cons (.s _) (.cons (.s _) (.cons (.s _) (.cons (o3 _) (.cons (o3 _) (.cons (vN _) (.cons (DJ _) .nil)))))))
theorem yh{p q:D}(hp:Tr p)(hq:Tr q)(x:aC):∀ a∈aF p q x,Tr a:=.cons (.s _) (.cons (.s _) (.cons (.s _) (.cons (.s _) (.cons (o3 _) (.cons (o3 _) (.cons (vN _) (.cons (DJ _) (.cons hp (.cons hq .nil)))))))))
theorem jN{p q:D}(hp:Tr p)(hq:Tr q)(x:aC):Tr (.agg (aF p q x)):=.agg (yh hp hq x)
theorem pX{p q:D}{f:aC}(h1:p.one=true)(h2:q.one=true):(aF p q f).all D.one=true:=by
 simp only[aF,List.all_cons,List.all_nil,h1,h2];rfl
abbrev bM(n:Int):D:=.s (.int .u64 n)
abbrev eK(w:List Int):D:=.agg (w.map bM)
theorem iM(w:List Int):(w.map bM).all D.one=true:=bh.2 fun x hx=>by obtain⟨y,_,rfl⟩:=List.mem_map.1 hx;rfl
theorem D5{w:List Int}{i:Nat}{x:Int}:((w.map bM).set i (bM x)).all D.one=true:=by rw[<- List.map_set];exact iM _
theorem mY(w:List Int):Tr (eK w):=.agg (.map fun _=>.s _)
def sO(a b:Int):Int:=intBitsV .and .u64 a b
def At(a b:Int):Int:=intBitsV .or .u64 a b
def zh(w:List Int)(m:Nat):List Int:=w.set (m / 64) (At (w.getD (m / 64) 0) (IntKind.u64.wrap (1*2 ^ (min (m % 64) 64))))
def mX(w:List Int)(m:Nat):Bool:=sO ((w.getD (m / 64) 0).fdiv (2 ^ (min (m % 64) 64))) 1==1
def lV(w:List Int)(n:Int):List Int:=if 0<=n then zh w n.toNat else w
def eb(w v:List Int):Nat->List Int
 |0=>w
 |k+1=>(eb w v k).set k (sO ((eb w v k).getD k 0) (v.getD k 0))
def jX(w v:List Int):List Int:=eb w v 20
@[simp] theorem Jv (w v : List Int) : ∀ k, (eb w v k).length = w.length
 |0=>rfl
 |k+1=>by simp[eb,Jv w v k]
@[simp] theorem aeJ (w : List Int) (m : Nat) : (zh w m).length = w.length := by simp [zh]
@[simp] theorem aeK (w : List Int) (n : Int) : (lV w n).length = w.length := by unfold lV; split <;> simp
@[simp] theorem Jg (w v : List Int) : (jX w v).length = w.length := Jv w v 20
theorem wrap_i64{n:Nat}(h:n<2 ^ 62):IntKind.i64.wrap (n:Int)=n:=by
 unfold IntKind.wrap;simp[IntKind.signed,IntKind.bits];omega
theorem MR{m:Nat}(h:m<2 ^ 62):IntKind.i64.wrap ((m:Int).tdiv 64)=((m / 64:Nat):Int):=by
 rw[show(m:Int).tdiv 64=((m / 64:Nat):Int) from by rw[Int.tdiv_eq_ediv_of_nonneg oG];omega];exact wrap_i64 oG
theorem MS(m:Nat):(m:Int).tmod 64=((m % 64:Nat):Int):=by rw[Int.tmod_eq_emod_of_nonneg oG];omega
theorem ib(a b:Int):(a==b)=decide (a=b):=rfl
def gE(n a b:Int):Bool:=decide (a<=n)&&decide (n<=b)
def A8(b:Int):Bool:=decide (b<33)||decide (126<b)
def uf(s:ByteArray):Bool:=gE s.size 1 120&& !(o0 s).any A8
def A9(b:Int):Bool:=(decide (b<97)||decide (122<b))&&(decide (b<48)||decide (57<b))
def isName(s:ByteArray):Bool:=gE s.size 1 12&& !(o0 s).any A9
def yf(C k:Int):Bool:=decide (k<1)||decide (C<k)
def p9(l:List Int)(C:Int):Bool:= !l.any (yf C)
def cS(l:List Int)(r:Int):Int:=if 0<=r then l.getD r.toNat 0 else 0
theorem D'{l:List Int}{i:Nat}{x:Int}(h:l[i]? =some x):cS l i=x:=by
 simp[cS,aV,h]
theorem Jj{l:List Int}{r:Int}(h:¬ (0<=r/\r<l.length)):cS l r=0:=by
 unfold cS;split
 .rename_i h0;have:l.length<=r.toNat:=by omega
  simp[aV,List.getElem?_eq_none this]
 .rfl
theorem nD{n a b:Int}:gE n a b=true↔a<=n/\n<=b:=by simp[gE]
theorem TA{n a b:Int}:gE n a b=false↔¬ (a<=n/\n<=b):=by
 rw[<- Bool.not_eq_true,nD]
def lS(l:List Int)(r:Int):Bool:=cS l r==1||cS l r==2
def nE(l rs:List Int):Bool:=rs.all (lS l)
def ur(l cv:List Int)(r n:Int):Bool:=gE n 0 (cv.length - 1)&&(cS l r==cS cv n)
def nS(l:List Int)(r want C:Int):Bool:=
 if want=0 then r==0 else if want=1 then cS l r==1 else if want=2 then cS l r==2 else if want=3 then lS l r
 else cS l r !=0&&cS l r==C
structure Shape where
 to:Int
 a:Int
 b:Int
 args:Int
 low:Int
 high:Int
def gG(s:Shape):List D:=[I s.to,I s.a,I s.b,I s.args,I s.low,I s.high]
@[simp] theorem aew (x : Shape) : (gG x).length = 6 := rfl
theorem Jp(x:Shape):∀ a∈gG x,Tr a:=.cons (.s _) (.cons (.s _) (.cons (.s _) (.cons (.s _) (.cons (.s _) (.cons (.s _) .nil)))))
def vI(l:List Int)(x:bN)(s:Shape):Int:=if s.to=0\/s.to=1 then cS l x.a else cS l x.to
def vp(l:List Int)(x:bN)(s:Shape):Bool:=if s.args=5 then gE x.args.length 1 6&&nE l x.args else if s.args=6 then decide ((x.args.length:Int)=1)&&nE l x.args else decide ((x.args.length:Int)=0)
def vT(l:List Int)(x:bN)(s:Shape):Bool:=
 nS l x.to s.to 0&&(nS l x.a s.a (vI l x s)&&(nS l x.b s.b (vI l x s)&&(vp l x s&&gE x.n s.low s.high)))
def m8(l:List (Int×Shape)):List (Value×D):=l.map fun x=>(.int .u8 x.1,.agg (gG x.2))
def vV:Shape:=⟨0,0,0,0,0,0⟩
def iq(l:List (Int×Shape))(op:Int):Option Shape:=(l.find? fun x=>x.1==op).map (·.2)
def nT:List (Int×Shape):=[(1,⟨1,0,0,0, -1000000000,1000000000⟩),(2,⟨3,4,0,0,0,0⟩),(3,⟨1,1,1,0,0,0⟩),(4,⟨1,1,1,0,0,0⟩),(5,⟨1,3,4,0,0,0⟩),(6,⟨1,1,1,0,0,0⟩),(7,⟨1,1,1,0,0,0⟩),(8,⟨1,1,0,0,0,0⟩),
 (9,⟨2,0,0,0,0,1⟩),(10,⟨2,0,0,5,0,5⟩),(11,⟨3,2,0,0,0,5⟩),(12,⟨0,2,3,0,0,5⟩),(13,⟨1,2,0,0,0,0⟩),(14,⟨1,2,0,0,0,0⟩),(15,⟨0,1,0,0,0,0⟩)]
def mQ:List (Int×Shape):=[(30,⟨1,1,1,0,0,0⟩),(31,⟨1,1,1,0,0,0⟩),(32,⟨1,1,1,0,0,0⟩),(33,⟨1,1,1,0,0,0⟩),(34,⟨1,1,1,0,0,0⟩),(35,⟨0,2,3,0,0,0⟩),(36,⟨3,2,0,0,0,0⟩),(37,⟨3,2,1,0,0,0⟩),(38,⟨0,2,1,6,0,0⟩)]
theorem wI(l:List (Int×Shape)):Tr (.im (m8 l)):=.im fun x hx=>by
 obtain⟨y,_,rfl⟩:=List.mem_map.1 hx;exact .agg (Jp _)
theorem KL(op:Int):∀ l:List (Int×Shape),(lookD (.int .u8 op) (m8 l)).map (·.2)=(iq l op).map fun s=>.agg (gG s)
 |[]=>rfl
 |(o,s)::l=>by
  have ih:=KL op l;unfold m8 at ih ⊢;simp only[List.map_cons,lookD,veq,veq1,iq,List.find?_cons] at ih ⊢;by_cases h:o=op
  .subst h;simp
  .have hb:(o==op)=false:=by simpa using h
   simp only[hb,beq_self_eq_true,Bool.and_false,Bool.false_eq_true,if_false,Option.map_map] at ih ⊢;exact ih
theorem L8{P:Program}{t:TypeId}{C:D}(M:zeroD P (melP P t)=C)(op:Int)(l:List (Int×Shape))(J:C=.agg (gG vV)):gotD P t true (lookD (.int .u8 op) (m8 l))=.tup [.agg (gG ((iq l op).getD vV)),.s (.bool (iq l op).isSome)]:=by
 have h:=KL op l;cases h1:lookD (.int .u8 op) (m8 l) with
 |none=>
  rw[h1] at h;have:iq l op=none:=by simpa using h.symm
  simp only[gotD,this,M,J,Option.getD_none,Option.isSome_none,if_true]
 |some x=>
  rw[h1] at h;cases h2:iq l op with
  |none=>rw[h2] at h;simp at h
  |some s=>
   rw[h2] at h;obtain⟨i,d⟩:=x;simp only[Option.map_some,ay] at h;subst h;simp[gotD]
theorem KK{P:Program}{kt:TypeId}(hk:P.underlying kt=some (.int .u8))(l:List (Int×Shape)):(m8 l).all (fun e=>keyP P kt e.1)=true:=by
 refine bh.2 fun x hx=>?_;obtain⟨y,_,rfl⟩:=List.mem_map.1 hx;simp[keyP,hk]
def cr(a b:Int):Bool:=decide (a=b)
def ug(x:bN):Bool:=decide ((x.args.length:Int)=0)
def jQ(f:aC)(b:Int)(x:bN)(phis:Bool)(ahead:Int):Bool:=
 if x.op=16 then cr x.to 0&&(cr (cS f.aL x.a) 3&&(cr x.b 0&&(cr x.n 0&&ug x)))
 else if x.op=17 then cr x.a 0&&(cr x.b 0&&(ug x&&ur f.aL f.cv x.to x.n))
 else if x.op=18 then cr x.to 0&&(cr x.b 0&&(ug x&&ur f.aL f.cv x.a x.n))
 else if x.op=19 then phis&&(decide (0<b)&&(lS f.aL x.to&&(cr x.a 0&&(cr x.b 0&&(cr x.n 0&&(cr x.args.length ahead&& !x.args.any fun r=> !cr (cS f.aL r) (cS f.aL x.to)))))))
 else(iq nT x.op).isSome&&vT f.aL x ((iq nT x.op).getD vV)
def EU(x:bN):Bool:=decide (x.op=0)&&(decide (x.to=0)&&(decide (x.a=0)&&(decide (x.b=0)&&(decide (x.n=0)&&decide ((x.args.length:Int)=0)))))
def wG(x:End):Bool:=decide (x.kind=0)&&(decide (x.a=0)&&(decide (x.b=0)&&(decide (x.to=0)&&(decide (x.iz=0)&&(x.name.toList==[]&&(decide (x.di= -1)&&(decide ((x.args.length:Int)=0)&&(decide ((x.aE.length:Int)=0)&&EU x.ins))))))))
def dN(f:aC)(n:Int):Bool:=gE n 0 (f.blocks.length - 1)
def qx(f:aC)(ws:List hC)(i:Nat)(w:hC):Bool:=isName w.name&&(dN f w.to&& !(ws.take i).any fun v=>v.name.toList==w.name.toList)
def EV(f:aC)(ws:List hC):Bool:=ws.zipIdx.all fun x=>qx f ws x.2 x.1
theorem Sc{f:aC}{ws:List hC}(h:∀ (i:Nat) w,ws[i]? =some w->qx f ws i w=true):EV f ws=true:=by
 refine bh.2 fun x hx=>?_;obtain⟨h1,h2⟩:=List.mem_zipIdx' hx;exact h x.2 x.1 (by rw[h2];simp[h1])
theorem RY{f:aC}{ws:List hC}{i:Nat}{w:hC}(C:ws[i]? =some w)(h:qx f ws i w=false):EV f ws=false:=by
 refine Bool.eq_false_iff.2 fun ht=>?_;have hx:(w,i)∈ws.zipIdx:=List.mem_zipIdx_iff_getElem?.2 C;have:=bh.1 ht _ hx;rw[h] at this;cases this
def rQ(f:aC)(x:End):Bool:=EV f x.aE&&(decide ((x.aE.length:Int)<=7)&&(decide (x.di= -1)||dN f x.di))
def qj:bN:=⟨0,0,0,0,0,[]⟩
def eg(f:aC)(x:End):Bool×End:=
 let r:End:={ x with kind:=0 }
 if x.kind=1 then(dN f x.to,{ r with to:=0 })
 else if x.kind=2 then(cr (cS f.aL x.a) 1&&(dN f x.to&&dN f x.iz),{ r with a:=0,to:=0,iz:=0 })
 else if x.kind=3 then(if f.result≠0/\f.iter=false then cr (cS f.aL x.a) f.result else cr x.a (-1),{ r with a:=0 })
 else if x.kind=4 then(isName x.name,{ r with name:=.empty })
 else if x.kind=5 then((iq mQ x.ins.op).isSome&&(vT f.aL x.ins ((iq mQ x.ins.op).getD vV)&&(dN f x.to&&rQ f x)),{ r with ins:=qj,to:=0,aE:=[],di:= -1 })
 else if x.kind=6 then(uf x.name&&(decide ((x.args.length:Int)<=6)&&(nE f.aL x.args&&((cr x.a (-1)||lS f.aL x.a)&&(dN f x.to&&rQ f x)))),{ r with name:=.empty,args:=[],a:=0,to:=0,aE:=[],di:= -1 })
 else if x.kind=7 then(uf x.name&&(decide ((x.args.length:Int)<=6)&&(nE f.aL x.args&&(cr (cS f.aL x.a) 3&&dN f x.to))),{ r with name:=.empty,args:=[],a:=0,to:=0 })
 else if x.kind=8 then(cr (cS f.aL x.a) 3&&(lS f.aL x.b&&(dN f x.to&&(dN f x.iz&&rQ f x))),{ r with a:=0,b:=0,to:=0,iz:=0,aE:=[],di:= -1 })
 else if x.kind=9 then(f.iter&&(cr (cS f.aL x.a) f.result&&dN f x.to),{ r with a:=0,to:=0 })
 else(false,r)
def aW(l:List Int)(n:Int):Bool:=l.any fun c=>n==c
def kp(n:Int):Int:=1200+n
def p6:List Int:=[1,2,3,4,5,6,7,8,9,10,11,13,14,17,19]
def tO:List Int:=[30,31,32,33,34,36,37]
def fZ(x:bN):Int:=if aW p6 x.op then x.to else if aW tO x.op then x.to else -1
def fL(x:End):Int:=if x.kind=5 then fZ x.ins else if aW [6,7] x.kind then x.a else if x.kind=8 then x.b else -1
def qa:List Int:=[2,8,11,13,14,15,16,18,36]
def tR:List Int:=[3,4,5,6,7,12,30,31,32,33,34,35,37]
def cX(x:bN):List Int:=if aW qa x.op then [x.a] else if aW tR x.op then [x.a,x.b] else if x.op=10 then x.args else if x.op=38 then x.a::x.b::x.args else []
def cM(x:End):List Int:=if aW [2,8,9] x.kind then [x.a] else if x.kind=3 then(if x.a≠ -1 then [x.a] else []) else if x.kind=5 then cX x.ins else if aW [6,7] x.kind then x.args else []
def mP(f:aC)(x:End):Bool:=(eg f x).1&&wG (eg f x).2
end Go.Argus
namespace Go.Proofs.Tryz.K
open Go.Abs
def zf(i:Nat):Code->Option (Array Oper)
 | .region j o _=>bif Nat.beq i j then some o else none
 | .seq a b=>match zf i a with
  |some x=>some x
  |none=>zf i b
 | .cond _ a b=>match zf i a with
  |some x=>some x
  |none=>zf i b
 | .block _ b=>zf i b
 | .loop b=>zf i b
 | .scope b=>zf i b
 | .rangeFunc _ _ a b=>match zf i a with
  |some x=>some x
  |none=>zf i b
 |_=>none
def Z(b:Code)(i:Nat):Array Oper:=(zf i b).getD #[]
abbrev G(i:Nat)(o:Array Oper):Code:=.region i o false
abbrev G1(b:Code)(i:Nat):Code:=.region i (Z b i) false
abbrev G2(b:Code)(i:Nat):Code:=.region i (Z b i) true
abbrev S1(a b:Code):Code:=.seq a b
abbrev C1(n:Nat)(a b:Code):Code:=.cond (.tmp n) a b
abbrev B1(n:Nat)(a:Code):Code:=.block n a
abbrev X1(n:Nat):Code:=.exit n
abbrev K1:Code:=.skip
theorem aa4:zb=(S1 (G1 zb 0) (S1 (G1 zb 1) .ret)):=kr
theorem X9:yD=(S1 (G1 yD 0) (S1 (G1 yD 1) .ret)):=kr
theorem Xr:yG=(S1 (G1 yG 0) (S1 (G1 yG 1) .ret)):=kr
theorem X7:yJ=(S1 (G1 yJ 0) (S1 (G1 yJ 1) .ret)):=kr
theorem Xq:nM=(S1 (G1 nM 0) (S1 (S1 (G1 nM 1) (B1 0 (.loop (S1 (G1 nM 2) (S1 (C1 9 K1 (X1 0)) (S1 (B1 1 (S1 (G1 nM 3) (S1 (G1 nM 4) (C1 16 (S1 (G1 nM 5) .ret) K1)))) (G1 nM 6))))))) (S1 (G1 nM 7) .ret))):=kr
theorem XJ:o8=(S1 (G1 o8 0) (S1 (G1 o8 1) (S1 (S1 (G1 o8 2) (B1 0 (.rangeFunc (.tmp 8) #[9] (G1 o8 3) (B1 1 (S1 (G1 o8 4) (C1 12 (G1 o8 5) K1)))))) (S1 (G1 o8 6) .ret)))):=kr
theorem XD:mK=(S1 (S1 (G1 mK 0) (C1 19 .ret K1)) (S1 (S1 (G1 mK 1) (C1 34 .ret K1)) (S1 (S1 (G1 mK 2) (B1 0 (.loop (S1 (G1 mK 3) (S1 (C1 39 K1 (X1 0)) (S1 (B1 1 (S1 (G1 mK 4) (S1 (G1 mK 5) (C1 46 .ret K1)))) (G1 mK 6))))))) (S1 (G1 mK 7) (C1 65 (G1 mK 8) K1))))):=kr
theorem XC:yw=(S1 (G1 yw 0) (S1 (G1 yw 1) .ret)):=kr
theorem Xs:nJ=(S1 (G1 nJ 0) (S1 (S1 (G1 nJ 1) (B1 0 (.loop (S1 (G1 nJ 2) (S1 (C1 9 K1 (X1 0)) (S1 (B1 1 (S1 (G1 nJ 3) (S1 (G1 nJ 4) (C1 16 (S1 (G1 nJ 5) .ret) K1)))) (G1 nJ 6))))))) (S1 (G1 nJ 7) .ret))):=kr
theorem Xt:yB=(S1 (G1 yB 0) (S1 (G1 yB 1) .ret)):=kr
theorem Xu:nN=(S1 (G1 nN 0) (S1 (S1 (G1 nN 1) (B1 0 (.loop (S1 (G1 nN 2) (S1 (C1 9 K1 (X1 0)) (S1 (B1 1 (S1 (G1 nN 3) (S1 (G1 nN 4) (C1 16 (S1 (G1 nN 5) .ret) K1)))) (G1 nN 6))))))) (S1 (G1 nN 7) .ret))):=kr
theorem Xv:yP=(S1 (G1 yP 0) (S1 (G1 yP 1) .ret)):=kr
theorem Xw:nH=(S1 (G1 nH 0) (S1 (S1 (G1 nH 1) (B1 0 (.loop (S1 (G1 nH 2) (S1 (C1 9 K1 (X1 0)) (S1 (B1 1 (S1 (G1 nH 3) (S1 (G1 nH 4) (C1 16 (S1 (G1 nH 5) .ret) K1)))) (G1 nH 6))))))) (S1 (G1 nH 7) .ret))):=kr
theorem Xx:yr=(S1 (G1 yr 0) (S1 (G1 yr 1) .ret)):=kr
theorem Yi:nF=(S1 (G1 nF 0) (S1 (S1 (G1 nF 1) (B1 0 (.loop (S1 (G1 nF 2) (S1 (C1 9 K1 (X1 0)) (S1 (B1 1 (S1 (G1 nF 3) (S1 (G1 nF 4) (C1 16 (S1 (G1 nF 5) .ret) K1)))) (G1 nF 6))))))) (S1 (G1 nF 7) .ret))):=kr
theorem abf:y8=(S1 (G1 y8 0) (S1 (G1 y8 1) .ret)):=kr
theorem X6:yH=(S1 (G1 yH 0) (S1 (G1 yH 1) .ret)):=kr
theorem X8:yz=(S1 (G1 yz 0) (S1 (G1 yz 1) .ret)):=kr
theorem X':yC=(S1 (G1 yC 0) (S1 (G1 yC 1) .ret)):=kr
theorem Ya:yI=(S1 (G1 yI 0) (S1 (G1 yI 1) .ret)):=kr
theorem Yb:yA=(S1 (G1 yA 0) (S1 (G1 yA 1) .ret)):=kr
theorem YC:vW=(S1 (G1 vW 0) (S1 (G1 vW 1) (S1 (G1 vW 2) .ret))):=kr
theorem YB:tS=(S1 (G1 tS 0) (S1 (G1 tS 1) (S1 (G1 tS 2) (S1 (G1 tS 3) .ret)))):=kr
theorem Yl:yK=(S1 (G1 yK 0) (S1 (G1 yK 1) .ret)):=kr
theorem Ym:tV=(S1 (G1 tV 0) (S1 (S1 (G1 tV 1) (C1 12 (S1 (G1 tV 2) .ret) K1)) (S1 (G1 tV 3) .ret))):=kr
theorem Yt:k7=(S1 (G1 k7 0) (S1 (G1 k7 1) (S1 (S1 (G1 k7 2) (C1 20 (G1 k7 3) K1)) (S1 (G1 k7 4) (S1 (S1 (G1 k7 5) (B1 0 (S1 (G1 k7 6) (C1 31 (G1 k7 7) (S1 (G1 k7 8) (C1 43 (G1 k7 9) K1)))))) (S1 (G1 k7 10) .ret)))))):=kr
theorem YA:nK=(S1 (G1 nK 0) (S1 (S1 (G1 nK 1) (B1 0 (.loop (S1 (G1 nK 2) (S1 (C1 11 K1 (X1 0)) (S1 (B1 1 (S1 (G1 nK 3) (S1 (G1 nK 4) (C1 33 (S1 (G1 nK 5) .ret) K1)))) (G1 nK 6))))))) (S1 (G1 nK 7) .ret))):=kr
theorem Yo:yL=(S1 (G1 yL 0) (S1 (G1 yL 1) .ret)):=kr
theorem Jm:drawInfo (Z vX 1)=some [(10,11),(10,12),(10,13),(10,15),(10,16)]:=kr
theorem Yp:vX=(S1 (G1 vX 0) (S1 (G2 vX 1) .ret)):=kr
theorem TJ:drawInfo (Z vY 1)=some [(2,3)]:=kr
theorem YD:vY=(S1 (G1 vY 0) (S1 (G2 vY 1) .ret)):=kr
theorem Ys:kA=(S1 (G1 kA 0) (S1 (G1 kA 1) (S1 (S1 (G1 kA 2) (B1 0 (S1 (G1 kA 3) (C1 14 (S1 (G1 kA 4) .ret) (S1 (G1 kA 5) (C1 18 (S1 (G1 kA 6) .ret) (S1 (G1 kA 7) (C1 22 (S1 (G1 kA 8) .ret) (S1 (G1 kA 9) (C1 26 (S1 (G1 kA 10) .ret) K1)))))))))) (S1 (G1 kA 11) .ret)))):=kr
theorem Yz:yQ=(S1 (G1 yQ 0) (S1 (G1 yQ 1) .ret)):=kr
theorem Yn:yR=(S1 (G1 yR 0) (S1 (G1 yR 1) .ret)):=kr
theorem Yy:yM=(S1 (G1 yM 0) (S1 (G1 yM 1) .ret)):=kr
theorem Yx:yS=(S1 (G1 yS 0) (S1 (G1 yS 1) .ret)):=kr
theorem SN:drawInfo (Z dm 11)=some [(3,4),(3,5),(3,6)]:=kr
theorem SP:drawInfo (Z dm 28)=some [(7,8),(7,9),(7,10)]:=kr
theorem YH:dm=(S1 (G1 dm 0) (S1 (G1 dm 1) (S1 (G1 dm 2) (S1 (S1 (G1 dm 3) (B1 0 (S1 (G1 dm 4) (C1 13 (G1 dm 5) (S1 (G1 dm 6) (C1 20 (G1 dm 7) (S1 (G1 dm 8) (C1 42 (S1 (G1 dm 9) (S1 (G1 dm 10) (C1 57 (G2 dm 11) K1))) (S1 (G1 dm 12) (C1 66 (G1 dm 13) (S1 (G1 dm 14) (C1 72 (S1 (G1 dm 15) (S1 (G1 dm 16) (G1 dm 17))) (S1 (G1 dm 18) (C1 107 (S1 (G1 dm 19) (G1 dm 20)) (S1 (G1 dm 21) (C1 153 (S1 (G1 dm 22) (G1 dm 23)) (S1 (G1 dm 24) (C1 187 (S1 (G1 dm 25) (G1 dm 26)) (S1 (G1 dm 27) (C1 224 (G2 dm 28) K1)))))))))))))))))))) (S1 (G1 dm 29) .ret))))):=kr
theorem YE:jl=(S1 (G1 jl 0) (S1 (S1 (G1 jl 1) (B1 0 (S1 (G1 jl 2) (C1 17 (S1 (G1 jl 3) .ret) (S1 (G1 jl 4) (C1 45 (S1 (G1 jl 5) .ret) (S1 (G1 jl 6) (C1 69 (S1 (G1 jl 7) .ret) (S1 (G1 jl 8) (C1 93 (S1 (G1 jl 9) (S1 (G1 jl 10) (S1 (G1 jl 11) .ret))) K1)))))))))) (S1 (G1 jl 12) (S1 (G1 jl 13) .ret)))):=kr
theorem SK:drawInfo (Z cQ 10)=some []:=kr
theorem SL:drawInfo (Z cQ 32)=some []:=kr
theorem Ye:cQ=(S1 (G1 cQ 0) (S1 (G1 cQ 1) (S1 (G1 cQ 2) (S1 (S1 (G1 cQ 3) (C1 71 (S1 (G1 cQ 4) .ret) K1)) (S1 (S1 (G1 cQ 5) (C1 101 (S1 (G1 cQ 6) .ret) K1)) (S1 (S1 (G1 cQ 7) (B1 0 (.loop (S1 (S1 (G1 cQ 8) (C1 106 K1 (X1 0))) (S1 (B1 1 (S1 (G2 cQ 10) (C1 120 (S1 (G1 cQ 11) .ret) K1))) (G1 cQ 9)))))) (S1 (G1 cQ 12) (S1 (S1 (G1 cQ 13) (B1 2 (.loop (S1 (G1 cQ 14) (S1 (C1 126 K1 (X1 2)) (S1 (B1 3 (S1 (G1 cQ 15) (S1 (S1 (G1 cQ 16) (C1 139 (S1 (G1 cQ 17) .ret) K1)) (S1 (G1 cQ 18) (C1 143 (S1 (S1 (G1 cQ 19) (C1 148 (S1 (G1 cQ 20) .ret) K1)) (G1 cQ 21)) K1))))) (G1 cQ 22))))))) (S1 (G1 cQ 23) (S1 (S1 (G1 cQ 24) (B1 4 (.loop (S1 (G1 cQ 25) (S1 (C1 160 K1 (X1 4)) (S1 (B1 5 (S1 (G1 cQ 26) (S1 (G1 cQ 27) (S1 (G1 cQ 28) (B1 6 (.loop (S1 (G1 cQ 29) (S1 (C1 168 K1 (X1 6)) (S1 (B1 7 (S1 (G1 cQ 30) (S1 (G1 cQ 31) (S1 (G2 cQ 32) (C1 187 (S1 (G1 cQ 33) .ret) K1))))) (G1 cQ 34)))))))))) (G1 cQ 35))))))) (S1 (G1 cQ 36) .ret))))))))))):=kr
theorem aa3:kD=(S1 (G1 kD 0) (S1 (G1 kD 1) (S1 (S1 (G1 kD 2) (B1 0 (.loop (S1 (G1 kD 3) (S1 (C1 18 K1 (X1 0)) (S1 (B1 1 (S1 (G1 kD 4) (S1 (G1 kD 5) (B1 2 (.loop (S1 (G1 kD 6) (S1 (C1 28 K1 (X1 2)) (S1 (B1 3 (S1 (G1 kD 7) (G1 kD 8))) (G1 kD 9))))))))) (G1 kD 10))))))) (S1 (G1 kD 11) .ret)))):=kr
theorem XV:yv=(S1 (G1 yv 0) (S1 (G1 yv 1) .ret)):=kr
theorem Ts:drawInfo (Z rY 2)=some [(0,2)]:=kr
theorem XW:rY=(S1 (G1 rY 0) (S1 (S1 (G1 rY 1) (C1 9 (S1 (G2 rY 2) .ret) K1)) (S1 (G1 rY 3) .ret))):=kr
theorem Dw:drawInfo (Z fN 10)=some [(6,9)]:=kr
theorem XX:fN=(S1 (G1 fN 0) (S1 (G1 fN 1) (S1 (S1 (G1 fN 2) (B1 0 (.loop (S1 (G1 fN 3) (S1 (C1 17 K1 (X1 0)) (S1 (B1 1 (S1 (G1 fN 4) (S1 (S1 (G1 fN 5) (B1 2 (.loop (S1 (G1 fN 6) (S1 (C1 24 K1 (X1 2)) (S1 (B1 3 (S1 (G1 fN 7) (G1 fN 8))) (G1 fN 9))))))) (S1 (G2 fN 10) (G1 fN 11))))) (G1 fN 12))))))) (S1 (S1 (G1 fN 13) (B1 4 (.loop (S1 (G1 fN 14) (S1 (C1 56 K1 (X1 4)) (S1 (B1 5 (S1 (G1 fN 15) (G1 fN 16))) (G1 fN 17))))))) (S1 (G1 fN 18) .ret))))):=kr
theorem Tb:drawInfo (Z qb 2)=some [(0,3)]:=kr
theorem Ta:drawInfo (Z qb 3)=some [(0,2)]:=kr
theorem XB:qb=(S1 (G1 qb 0) (S1 (S1 (G1 qb 1) (C1 7 (S1 (G2 qb 2) .ret) K1)) (S1 (G2 qb 3) .ret))):=kr
theorem S9:drawInfo (Z rZ 2)=some []:=kr
theorem Xz:rZ=(S1 (G1 rZ 0) (S1 (S1 (G1 rZ 1) (C1 6 (G2 rZ 2) K1)) (S1 (G1 rZ 3) .ret))):=kr
theorem S':drawInfo (Z nL 4)=some []:=kr
theorem XA:nL=(S1 (G1 nL 0) (S1 (S1 (G1 nL 1) (B1 0 (.loop (S1 (G1 nL 2) (S1 (C1 7 K1 (X1 0)) (S1 (B1 1 (S1 (G1 nL 3) (G2 nL 4))) (G1 nL 5))))))) (S1 (G1 nL 6) .ret))):=kr
theorem Xy:yE=(S1 (G1 yE 0) (S1 (G1 yE 1) .ret)):=kr
theorem YL:yN=(S1 (G1 yN 0) (S1 (G1 yN 1) .ret)):=kr
theorem Tu:drawInfo (Z dh 1)=some [(4,5),(4,6),(4,7),(4,8)]:=kr
theorem SC:drawInfo (Z dh 20)=some []:=kr
theorem SD:drawInfo (Z dh 24)=some [(2,8),(3,8)]:=kr
theorem SE:drawInfo (Z dh 25)=some []:=kr
theorem X5:dh=(S1 (G1 dh 0) (S1 (G2 dh 1) (S1 (S1 (G1 dh 2) (B1 0 (.loop (S1 (G1 dh 3) (S1 (C1 29 K1 (X1 0)) (S1 (B1 1 (S1 (G1 dh 4) (G1 dh 5))) (G1 dh 6))))))) (S1 (G1 dh 7) (S1 (S1 (G1 dh 8) (B1 2 (.loop (S1 (G1 dh 9) (S1 (C1 45 K1 (X1 2)) (S1 (B1 3 (S1 (G1 dh 10) (G1 dh 11))) (G1 dh 12))))))) (S1 (S1 (G1 dh 13) (B1 4 (.loop (S1 (S1 (G1 dh 14) (C1 55 K1 (X1 4))) (B1 5 (S1 (G1 dh 15) (S1 (G1 dh 16) (B1 6 (.loop (S1 (G1 dh 17) (S1 (C1 61 K1 (X1 6)) (S1 (B1 7 (S1 (G1 dh 18) (S1 (S1 (G1 dh 19) (C1 69 (X1 7) K1)) (S1 (G2 dh 20) (S1 (G1 dh 21) (B1 8 (.loop (S1 (G1 dh 22) (S1 (C1 85 K1 (X1 8)) (S1 (B1 9 (S1 (G1 dh 23) (S1 (G2 dh 24) (S1 (G2 dh 25) (C1 110 (G1 dh 26) K1))))) (G1 dh 27))))))))))) (G1 dh 28))))))))))))) (S1 (G1 dh 29) .ret))))))):=kr
theorem Tw:drawInfo (Z dS 7)=some []:=kr
theorem SH:drawInfo (Z dS 17)=some []:=kr
theorem SJ:drawInfo (Z dS 18)=some [(14,15),(14,16),(14,18),(14,19)]:=kr
theorem Yc:dS=(S1 (G1 dS 0) (.scope (S1 (G1 dS 1) (S1 (G1 dS 2) (S1 (.label 0) (S1 (S1 (G1 dS 3) (B1 0 (.loop (S1 (G1 dS 4) (S1 (C1 28 K1 (X1 0)) (S1 (B1 1 (S1 (G1 dS 5) (S1 (S1 (G1 dS 6) (C1 36 (X1 1) K1)) (S1 (S1 (G2 dS 7) (S1 (G1 dS 8) (C1 47 (S1 (G1 dS 9) .ret) K1))) (S1 (G1 dS 10) (B1 2 (.loop (S1 (G1 dS 11) (S1 (C1 52 K1 (X1 2)) (S1 (B1 3 (S1 (G1 dS 12) (S1 (S1 (G1 dS 13) (C1 57 (X1 1) K1)) (S1 (G1 dS 14) (B1 4 (.loop (S1 (G1 dS 15) (S1 (C1 64 K1 (X1 4)) (S1 (B1 5 (S1 (G1 dS 16) (S1 (G2 dS 17) (S1 (G2 dS 18) (C1 104 (S1 (G1 dS 19) .ret) K1))))) (G1 dS 20)))))))))) (G1 dS 21))))))))))) (G1 dS 22))))))) (S1 (G1 dS 23) .ret))))))):=kr
theorem abb:qk=(S1 (G1 qk 0) (S1 (B1 0 (S1 (G1 qk 1) (C1 3 (S1 (G1 qk 2) .ret) (S1 (G1 qk 3) (C1 7 (S1 (G1 qk 4) .ret) K1))))) (S1 (G1 qk 5) .ret))):=kr
theorem YM:dR=(S1 (G1 dR 0) (S1 (S1 (G1 dR 1) (B1 0 (S1 (S1 (G1 dR 2) (C1 5 K1 (S1 (G1 dR 3) (C1 5 K1 (S1 (G1 dR 4) (C1 5 K1 (S1 (G1 dR 5) (C1 5 K1 (S1 (G1 dR 6) (C1 5 K1 (S1 (G1 dR 7) (C1 5 K1 (S1 (G1 dR 8) (C1 5 K1 (S1 (G1 dR 9) (C1 5 K1 (S1 (G1 dR 10) (C1 5 K1 (S1 (G1 dR 11) (C1 5 K1 (S1 (G1 dR 12) (C1 5 K1 (S1 (G1 dR 13) (C1 5 K1 (S1 (G1 dR 14) (C1 5 K1 (S1 (G1 dR 15) (C1 5 K1 (G1 dR 16))))))))))))))))))))))))))))) (C1 5 (S1 (G1 dR 17) .ret) (S1 (S1 (G1 dR 18) (C1 23 K1 (S1 (G1 dR 19) (C1 23 K1 (S1 (G1 dR 20) (C1 23 K1 (S1 (G1 dR 21) (C1 23 K1 (S1 (G1 dR 22) (C1 23 K1 (S1 (G1 dR 23) (C1 23 K1 (G1 dR 24))))))))))))) (C1 23 (S1 (G1 dR 25) .ret) K1)))))) (S1 (G1 dR 26) .ret))):=kr
theorem YP:du=(S1 (G1 du 0) (S1 (S1 (G1 du 1) (B1 0 (S1 (S1 (G1 du 2) (C1 5 K1 (S1 (G1 du 3) (C1 5 K1 (S1 (G1 du 4) (C1 5 K1 (S1 (G1 du 5) (C1 5 K1 (S1 (G1 du 6) (C1 5 K1 (S1 (G1 du 7) (C1 5 K1 (S1 (G1 du 8) (C1 5 K1 (S1 (G1 du 9) (C1 5 K1 (G1 du 10))))))))))))))))) (C1 5 (S1 (G1 du 11) .ret) (S1 (S1 (G1 du 12) (C1 18 K1 (S1 (G1 du 13) (C1 18 K1 (S1 (G1 du 14) (C1 18 K1 (S1 (G1 du 15) (C1 18 K1 (S1 (G1 du 16) (C1 18 K1 (S1 (G1 du 17) (C1 18 K1 (S1 (G1 du 18) (C1 18 K1 (S1 (G1 du 19) (C1 18 K1 (S1 (G1 du 20) (C1 18 K1 (S1 (G1 du 21) (C1 18 K1 (S1 (G1 du 22) (C1 18 K1 (S1 (G1 du 23) (C1 18 K1 (G1 du 24))))))))))))))))))))))))) (C1 18 (S1 (G1 du 25) .ret) (S1 (G1 du 26) (C1 37 (S1 (G1 du 27) .ret) (S1 (G1 du 28) (C1 42 (S1 (G1 du 29) .ret) K1)))))))))) (S1 (G1 du 30) .ret))):=kr
theorem YQ:iG=(S1 (G1 iG 0) (S1 (S1 (G1 iG 1) (B1 0 (S1 (S1 (G1 iG 2) (C1 5 K1 (S1 (G1 iG 3) (C1 5 K1 (G1 iG 4))))) (C1 5 (S1 (G1 iG 5) .ret) (S1 (G1 iG 6) (C1 12 (S1 (G1 iG 7) (C1 16 (S1 (G1 iG 8) .ret) K1)) (S1 (G1 iG 9) (C1 20 (S1 (G1 iG 10) .ret) (S1 (S1 (G1 iG 11) (C1 25 K1 (G1 iG 12))) (C1 25 (S1 (G1 iG 13) .ret) K1)))))))))) (S1 (G1 iG 14) .ret))):=kr
theorem YN:lP=(S1 (G1 lP 0) (S1 (S1 (G1 lP 1) (B1 0 (S1 (G1 lP 2) (C1 5 (S1 (G1 lP 3) .ret) (S1 (S1 (G1 lP 4) (C1 10 K1 (G1 lP 5))) (C1 10 (S1 (G1 lP 6) .ret) (S1 (G1 lP 7) (C1 15 (S1 (G1 lP 8) .ret) K1)))))))) (S1 (G1 lP 9) .ret))):=kr
theorem YO:rW=(S1 (G1 rW 0) (S1 (S1 (G1 rW 1) (C1 4 (S1 (G1 rW 2) .ret) K1)) (S1 (G1 rW 3) .ret))):=kr
theorem aaX:za=(S1 (G1 za 0) (G1 za 1)):=kr
theorem XT:dv=(S1 (G1 dv 0) (S1 (G1 dv 1) (B1 0 (.loop (B1 1 (S1 (G1 dv 2) (S1 (S1 (G1 dv 3) (C1 23 (S1 (G1 dv 4) .ret) K1)) (S1 (S1 (G1 dv 5) (C1 29 (S1 (G1 dv 6) .ret) K1)) (S1 (S1 (G1 dv 7) (C1 35 (S1 (G1 dv 8) (G1 dv 9)) K1)) (S1 (G1 dv 10) (S1 (S1 (G1 dv 11) (C1 50 (S1 (G1 dv 12) (S1 (G1 dv 13) (G1 dv 14))) K1)) (S1 (S1 (G1 dv 15) (C1 68 (S1 (G1 dv 16) (C1 72 .ret K1)) K1)) (S1 (S1 (G2 dv 17) (C1 87 (S1 (G1 dv 18) (S1 (G1 dv 19) (X1 1))) K1)) (S1 (G1 dv 20) (S1 (G1 dv 21) (S1 (G1 dv 22) (S1 (G1 dv 23) (S1 (G1 dv 24) (C1 113 (S1 (G1 dv 25) (S1 (G1 dv 26) (G1 dv 27))) (S1 (G1 dv 28) (S1 (G1 dv 29) (G1 dv 30)))))))))))))))))))))):=kr
theorem Tn:drawInfo (Z mJ 4)=some []:=kr
theorem To:drawInfo (Z mJ 6)=some []:=kr
theorem XS:mJ=(S1 (G1 mJ 0) (B1 0 (.loop (S1 (S1 (G1 mJ 1) (C1 12 K1 (X1 0))) (S1 (B1 1 (S1 (G1 mJ 3) (B1 2 (.loop (S1 (S1 (G2 mJ 4) (C1 30 K1 (X1 2))) (S1 (B1 3 (G2 mJ 6)) (G1 mJ 5))))))) (G1 mJ 2)))))):=kr
theorem XR:yx=(S1 (G1 yx 0) (S1 (G1 yx 1) .ret)):=kr
theorem XQ:yF=(S1 (G1 yF 0) (S1 (G1 yF 1) .ret)):=kr
theorem Uu:drawInfo (Z gj 6)=some []:=kr
theorem Tq:drawInfo (Z gj 11)=some []:=kr
theorem aaY:gj=(S1 (G1 gj 0) (S1 (S1 (G1 gj 1) (C1 8 (S1 (G1 gj 2) .ret) K1)) (S1 (S1 (G1 gj 3) (B1 0 (.loop (S1 (S1 (G1 gj 4) (C1 13 K1 (X1 0))) (S1 (B1 1 (S1 (G2 gj 6) (C1 25 (S1 (G1 gj 7) (S1 (S1 (G1 gj 8) (B1 2 (.loop (S1 (S1 (G1 gj 9) (C1 32 K1 (X1 2))) (S1 (B1 3 (S1 (G2 gj 11) (C1 44 (S1 (G1 gj 12) (G1 gj 13)) K1))) (G1 gj 10)))))) (S1 (G1 gj 14) (S1 (G1 gj 15) .ret)))) K1))) (G1 gj 5)))))) (S1 (G1 gj 16) .ret)))):=kr
theorem XU:tU=(S1 (G1 tU 0) (S1 (G1 tU 1) (S1 (G1 tU 2) (S1 (G1 tU 3) .ret)))):=kr
theorem XL:yO=(S1 (G1 yO 0) (S1 (G1 yO 1) .ret)):=kr
theorem XK:r4=(S1 (G1 r4 0) (S1 (S1 (G1 r4 1) (B1 0 (.rangeFunc (.tmp 6) #[7] (G1 r4 2) (B1 1 (G1 r4 3))))) (S1 (G1 r4 4) .ret))):=kr
theorem Yg:jk=(S1 (G1 jk 0) (S1 (G1 jk 1) (S1 (S1 (G1 jk 2) (C1 13 (G1 jk 3) K1)) (S1 (S1 (G1 jk 4) (C1 26 (G1 jk 5) K1)) (S1 (S1 (G1 jk 6) (B1 0 (.loop (S1 (G1 jk 7) (S1 (C1 36 K1 (X1 0)) (S1 (B1 1 (S1 (G1 jk 8) (G1 jk 9))) (G1 jk 10))))))) (S1 (S1 (G1 jk 11) (C1 47 (G1 jk 12) K1)) (S1 (G1 jk 13) .ret))))))):=kr
theorem Yq:nG=(S1 (G1 nG 0) (S1 (G1 nG 1) (S1 (S1 (G1 nG 2) (C1 15 (S1 (G1 nG 3) .ret) K1)) (S1 (G1 nG 4) (S1 (G1 nG 5) (S1 (G1 nG 6) (S1 (G1 nG 7) .ret))))))):=kr
theorem Yk:o7=(S1 (G1 o7 0) (S1 (G1 o7 1) (B1 0 (.loop (S1 (G1 o7 2) (S1 (C1 20 K1 (X1 0)) (S1 (B1 1 (S1 (G1 o7 3) (S1 (G1 o7 4) (C1 32 (G1 o7 5) K1)))) (G1 o7 6)))))))):=kr
theorem UI:drawInfo (Z eP 5)=some []:=kr
theorem TC:drawInfo (Z eP 11)=some [(1,6),(2,6),(3,6)]:=kr
theorem TD:drawInfo (Z eP 15)=some [(1,14),(2,14),(3,14)]:=kr
theorem PA:eP=(S1 (G1 eP 0) (S1 (S1 (G1 eP 1) (S1 (G1 eP 2) (C1 15 (S1 (G1 eP 3) .ret) K1))) (S1 (G1 eP 4) (S1 (G2 eP 5) (S1 (S1 (G1 eP 6) (B1 0 (.loop (S1 (G1 eP 7) (S1 (C1 31 K1 (X1 0)) (S1 (B1 1 (S1 (G1 eP 8) (S1 (G1 eP 9) (S1 (G1 eP 10) (S1 (G2 eP 11) (S1 (G1 eP 12) (B1 2 (.loop (S1 (G1 eP 13) (S1 (C1 57 K1 (X1 2)) (S1 (B1 3 (S1 (G1 eP 14) (G2 eP 15))) (G1 eP 16)))))))))))) (G1 eP 17))))))) (S1 (G1 eP 18) (S1 (G1 eP 19) .ret))))))):=kr
theorem Yr:nI=(S1 (G1 nI 0) (S1 (S1 (G1 nI 1) (B1 0 (.loop (S1 (G1 nI 2) (S1 (C1 20 K1 (X1 0)) (S1 (B1 1 (S1 (G1 nI 3) (S1 (G1 nI 4) (C1 27 (G1 nI 5) K1)))) (G1 nI 6))))))) (G1 nI 7))):=kr
theorem abl:nV=(S1 (G1 nV 0) (S1 (G1 nV 1) (S1 (G1 nV 2) (S1 (G1 nV 3) (S1 (G1 nV 4) (S1 (G1 nV 5) (S1 (G1 nV 6) (S1 (G1 nV 7) .ret)))))))):=kr
theorem UG:drawInfo (Z sf 3)=some []:=kr
theorem abk:sf=(S1 (G1 sf 0) (B1 0 (.loop (S1 (S1 (G1 sf 1) (C1 9 K1 (X1 0))) (S1 (B1 1 (G2 sf 3)) (G1 sf 2)))))):=kr
theorem Yj:tT=(S1 (G1 tT 0) (B1 0 (.loop (S1 (S1 (G1 tT 1) (C1 8 K1 (X1 0))) (S1 (B1 1 (S1 (G1 tT 3) (C1 18 .ret K1))) (G1 tT 2)))))):=kr
theorem abg:y9=(S1 (G1 y9 0) (S1 (G1 y9 1) .ret)):=kr
theorem abr:gh=(S1 (G1 gh 0) (S1 (S1 (G1 gh 1) (C1 58 (S1 (G1 gh 2) .ret) K1)) (S1 (S1 (G1 gh 3) (B1 0 (.loop (S1 (S1 (G1 gh 4) (C1 63 K1 (X1 0))) (S1 (B1 1 (S1 (G1 gh 6) (C1 72 (S1 (G1 gh 7) .ret) K1))) (G1 gh 5)))))) (S1 (S1 (G1 gh 8) (B1 2 (.loop (S1 (S1 (G1 gh 9) (C1 77 K1 (X1 2))) (S1 (B1 3 (S1 (G1 gh 11) (S1 (S1 (G1 gh 12) (C1 117 (S1 (G1 gh 13) .ret) K1)) (S1 (G1 gh 14) (B1 4 (.loop (S1 (S1 (G1 gh 15) (C1 122 K1 (X1 4))) (S1 (B1 5 (S1 (G1 gh 17) (C1 132 (S1 (G1 gh 18) .ret) K1))) (G1 gh 16))))))))) (G1 gh 10)))))) (S1 (G1 gh 19) .ret))))):=kr
theorem XF:yq=(S1 (G1 yq 0) (S1 (G1 yq 1) .ret)):=kr
theorem XE:lO=(S1 (G1 lO 0) (S1 (S1 (G1 lO 1) (B1 0 (.loop (S1 (G1 lO 2) (S1 (C1 10 K1 (X1 0)) (S1 (B1 1 (S1 (S1 (G1 lO 3) (C1 13 (S1 (G1 lO 4) .ret) K1)) (S1 (S1 (G1 lO 5) (C1 31 (S1 (G1 lO 6) .ret) K1)) (G1 lO 7)))) (G1 lO 8))))))) (S1 (G1 lO 9) .ret))):=kr
theorem aby:nW=(S1 (G1 nW 0) (S1 (G1 nW 1) (S1 (S1 (G1 nW 2) (B1 0 (.loop (S1 (G1 nW 3) (S1 (C1 12 K1 (X1 0)) (S1 (B1 1 (S1 (G1 nW 4) (G1 nW 5))) (G1 nW 6))))))) (S1 (G1 nW 7) .ret)))):=kr
theorem TI:drawInfo (Z dj 24)=some []:=kr
theorem abz:dj=(S1 (G1 dj 0) (S1 (G1 dj 1) (S1 (G1 dj 2) (S1 (S1 (G1 dj 3) (B1 0 (.loop (S1 (G1 dj 4) (S1 (C1 26 K1 (X1 0)) (S1 (B1 1 (S1 (G1 dj 5) (G1 dj 6))) (G1 dj 7))))))) (S1 (G1 dj 8) (S1 (G1 dj 9) (S1 (S1 (G1 dj 10) (B1 2 (.loop (S1 (S1 (G1 dj 11) (C1 44 K1 (X1 2))) (B1 3 (S1 (G1 dj 12) (S1 (G1 dj 13) (B1 4 (.loop (S1 (G1 dj 14) (S1 (C1 49 K1 (X1 4)) (S1 (B1 5 (S1 (G1 dj 15) (S1 (G1 dj 16) (S1 (S1 (G1 dj 17) (B1 6 (.loop (S1 (G1 dj 18) (S1 (C1 61 K1 (X1 6)) (S1 (B1 7 (S1 (G1 dj 19) (S1 (S1 (G1 dj 20) (C1 68 (X1 7) K1)) (S1 (S1 (G1 dj 21) (C1 70 (S1 (G1 dj 22) (X1 7)) K1)) (B1 8 (.loop (S1 (S1 (G1 dj 23) (C1 74 K1 (X1 8))) (B1 9 (S1 (G2 dj 24) (C1 83 (G1 dj 25) (G1 dj 26))))))))))) (G1 dj 27))))))) (S1 (G1 dj 28) (C1 98 (G1 dj 29) K1)))))) (G1 dj 30))))))))))))) (S1 (G1 dj 31) (S1 (G1 dj 32) .ret))))))))):=kr
theorem abu:se=(S1 (G1 se 0) (B1 0 (.loop (S1 (G1 se 1) (S1 (C1 12 K1 (X1 0)) (S1 (B1 1 (S1 (G1 se 2) (S1 (G1 se 3) (C1 22 .ret K1)))) (G1 se 4))))))):=kr
theorem xV:drawInfo (Z cA 20)=some [(0,6)]:=kr
theorem PE:cA=(S1 (G1 cA 0) (S1 (G1 cA 1) (S1 (S1 (G1 cA 2) (C1 19 (S1 (G1 cA 3) .ret) K1)) (S1 (G1 cA 4) (S1 (G1 cA 5) (S1 (S1 (G1 cA 6) (B1 0 (.rangeFunc (.tmp 31) #[32] (G1 cA 7) (B1 1 (S1 (G1 cA 8) (B1 2 (.loop (S1 (G1 cA 9) (S1 (C1 42 K1 (X1 2)) (S1 (B1 3 (S1 (G1 cA 10) (S1 (G1 cA 11) (B1 4 (.loop (S1 (S1 (G1 cA 12) (C1 64 K1 (X1 4))) (S1 (B1 5 (G2 cA 14)) (G1 cA 13)))))))) (G1 cA 15))))))))))) (S1 (S1 (G1 cA 16) (B1 6 (.loop (S1 (G1 cA 17) (S1 (C1 83 K1 (X1 6)) (S1 (B1 7 (S1 (G1 cA 18) (S1 (G1 cA 19) (G2 cA 20)))) (G1 cA 21))))))) (S1 (G1 cA 22) .ret)))))))):=kr
theorem PT:uh=(S1 (G1 uh 0) (S1 (G1 uh 1) (S1 (S1 (G1 uh 2) (C1 12 (S1 (G1 uh 3) .ret) K1)) (S1 (G1 uh 4) .ret)))):=kr
theorem abG:sd=(S1 (G1 sd 0) (S1 (G1 sd 1) (S1 (S1 (G1 sd 2) (C1 12 (S1 (G1 sd 3) .ret) K1)) (S1 (G1 sd 4) .ret)))):=kr
noncomputable def zu:T (Func×Code):=
 (.node none (.node none (.node none (.node none (.node none (.node none (.node none (.node none (.node (some (Tryz.f255,yQ)) .leaf .leaf) .leaf) (.node (some (Tryz.f191,yA)) .leaf .leaf)) (.node (some (Tryz.f95,qk)) .leaf (.node (some (Tryz.f223,Lc)) .leaf .leaf))) (.node none (.node none (.node (some (Tryz.f143,KV)) .leaf .leaf) .leaf) (.node none (.node (some (Tryz.f175,lP)) .leaf .leaf) (.node (some (Tryz.f239,vX)) .leaf .leaf)))) (.node (some (Tryz.f23,Ma)) (.node (some (Tryz.f39,cA)) (.node (some (Tryz.f71,Mj)) (.node (some (Tryz.f135,KQ)) .leaf .leaf) (.node (some (Tryz.f199,rY)) .leaf .leaf)) (.node none .leaf (.node (some (Tryz.f231,nJ)) .leaf .leaf))) (.node none (.node (some (Tryz.f87,Mo)) (.node (some (Tryz.f151,dv)) .leaf .leaf) .leaf) (.node (some (Tryz.f119,yr)) (.node (some (Tryz.f183,K6)) .leaf .leaf) (.node (some (Tryz.f247,yO)) .leaf .leaf))))) (.node none (.node none (.node none (.node none (.node (some (Tryz.f131,yu)) .leaf .leaf) (.node (some (Tryz.f195,dm)) .leaf .leaf)) (.node none .leaf (.node (some (Tryz.f227,yF)) .leaf .leaf))) (.node (some (Tryz.f51,eP)) (.node (some (Tryz.f83,Mn)) .leaf .leaf) (.node (some (Tryz.f115,jk)) (.node (some (Tryz.f179,K2)) .leaf .leaf) (.node (some (Tryz.f243,nL)) .leaf .leaf)))) (.node none (.node none (.node none (.node (some (Tryz.f139,dR)) .leaf .leaf) .leaf) (.node none .leaf (.node (some (Tryz.f235,k7)) .leaf .leaf))) (.node none (.node none (.node (some (Tryz.f155,yv)) .leaf .leaf) .leaf) (.node none (.node (some (Tryz.f187,K9)) .leaf .leaf) (.node (some (Tryz.f251,Lh)) .leaf .leaf)))))) (.node none (.node none (.node (some (Tryz.f17,L')) (.node (some (Tryz.f33,Md)) (.node (some (Tryz.f65,Mg)) (.node (some (Tryz.f129,rX)) (.node (some (Tryz.f257,yS)) .leaf .leaf) .leaf) (.node (some (Tryz.f193,yC)) .leaf .leaf)) (.node (some (Tryz.f97,kD)) .leaf (.node (some (Tryz.f225,Le)) .leaf .leaf))) (.node none .leaf (.node none (.node (some (Tryz.f177,K0)) .leaf .leaf) (.node (some (Tryz.f241,Lg)) .leaf .leaf)))) (.node none (.node (some (Tryz.f41,Me)) (.node (some (Tryz.f73,Ml)) (.node (some (Tryz.f137,iG)) .leaf .leaf) (.node (some (Tryz.f201,tU)) .leaf .leaf)) (.node (some (Tryz.f105,rW)) .leaf (.node (some (Tryz.f233,yK)) .leaf .leaf))) (.node none (.node (some (Tryz.f89,za)) (.node (some (Tryz.f153,cQ)) .leaf .leaf) .leaf) (.node none (.node (some (Tryz.f185,K7)) .leaf .leaf) .leaf)))) (.node none (.node none (.node none (.node (some (Tryz.f69,y9)) (.node (some (Tryz.f133,KO)) .leaf .leaf) (.node (some (Tryz.f197,dh)) .leaf .leaf)) (.node none .leaf (.node (some (Tryz.f229,yH)) .leaf .leaf))) (.node (some (Tryz.f53,lf)) (.node (some (Tryz.f85,nV)) (.node (some (Tryz.f149,nI)) .leaf .leaf) .leaf) (.node (some (Tryz.f117,yq)) (.node (some (Tryz.f181,K4)) .leaf .leaf) (.node (some (Tryz.f245,qb)) .leaf .leaf)))) (.node none (.node none (.node none (.node (some (Tryz.f141,KT)) .leaf .leaf) .leaf) (.node none .leaf (.node (some (Tryz.f237,yL)) .leaf .leaf))) (.node (some (Tryz.f61,se)) (.node (some (Tryz.f93,Mp)) .leaf .leaf) (.node none (.node (some (Tryz.f189,vW)) .leaf .leaf) (.node (some (Tryz.f253,kA)) .leaf .leaf))))))) (.node none (.node none (.node none (.node none (.node none (.node (some (Tryz.f64,lU)) (.node none (.node (some (Tryz.f256,yR)) .leaf .leaf) .leaf) (.node (some (Tryz.f192,yB)) .leaf .leaf)) (.node (some (Tryz.f96,zb)) .leaf (.node (some (Tryz.f224,Ld)) .leaf .leaf))) (.node none (.node none (.node (some (Tryz.f144,KW)) .leaf .leaf) .leaf) (.node none (.node (some (Tryz.f176,tT)) .leaf .leaf) (.node (some (Tryz.f240,vY)) .leaf .leaf)))) (.node none (.node none (.node (some (Tryz.f72,Mk)) (.node (some (Tryz.f136,KR)) .leaf .leaf) (.node (some (Tryz.f200,yE)) .leaf .leaf)) (.node none (.node (some (Tryz.f168,o7)) .leaf .leaf) (.node (some (Tryz.f232,yJ)) .leaf .leaf))) (.node none (.node none (.node (some (Tryz.f152,KX)) .leaf .leaf) .leaf) (.node none (.node (some (Tryz.f184,yx)) .leaf .leaf) .leaf)))) (.node none (.node (some (Tryz.f20,jS)) (.node (some (Tryz.f36,sd)) (.node none (.node (some (Tryz.f132,KN)) (.node (some (Tryz.f260,nN)) .leaf .leaf) .leaf) (.node (some (Tryz.f196,jl)) .leaf .leaf)) (.node (some (Tryz.f100,KM)) .leaf (.node (some (Tryz.f228,yG)) .leaf .leaf))) (.node (some (Tryz.f52,eJ)) (.node (some (Tryz.f84,sf)) .leaf .leaf) (.node (some (Tryz.f116,nG)) (.node (some (Tryz.f180,K3)) .leaf .leaf) (.node (some (Tryz.f244,yN)) .leaf .leaf)))) (.node (some (Tryz.f28,Mc)) (.node none (.node none (.node (some (Tryz.f140,du)) .leaf .leaf) .leaf) (.node none .leaf (.node (some (Tryz.f236,nK)) .leaf .leaf))) (.node (some (Tryz.f60,dj)) (.node none (.node (some (Tryz.f156,yw)) .leaf .leaf) .leaf) (.node none (.node (some (Tryz.f188,La)) .leaf .leaf) (.node (some (Tryz.f252,nM)) .leaf .leaf)))))) (.node none (.node none (.node (some (Tryz.f18,eI)) (.node none (.node (some (Tryz.f66,Mh)) (.node (some (Tryz.f130,nH)) (.node (some (Tryz.f258,r4)) .leaf .leaf) .leaf) (.node (some (Tryz.f194,yD)) .leaf .leaf)) (.node none .leaf (.node (some (Tryz.f226,Lf)) .leaf .leaf))) (.node (some (Tryz.f50,Mf)) (.node (some (Tryz.f82,Mm)) .leaf .leaf) (.node none (.node (some (Tryz.f178,mJ)) .leaf .leaf) (.node (some (Tryz.f242,rZ)) .leaf .leaf)))) (.node (some (Tryz.f26,Mb)) (.node none (.node none (.node (some (Tryz.f138,KS)) .leaf .leaf) (.node (some (Tryz.f202,mK)) .leaf .leaf)) (.node none .leaf (.node (some (Tryz.f234,tV)) .leaf .leaf))) (.node none (.node (some (Tryz.f90,gj)) (.node (some (Tryz.f154,dS)) .leaf .leaf) .leaf) (.node none (.node (some (Tryz.f186,K8)) .leaf .leaf) .leaf)))) (.node none (.node (some (Tryz.f22,y7)) (.node none (.node (some (Tryz.f70,Mi)) (.node (some (Tryz.f134,KP)) .leaf .leaf) (.node (some (Tryz.f198,fN)) .leaf .leaf)) (.node none (.node (some (Tryz.f166,tS)) .leaf .leaf) (.node (some (Tryz.f230,yI)) .leaf .leaf))) (.node (some (Tryz.f54,y8)) .leaf (.node (some (Tryz.f118,lO)) (.node (some (Tryz.f182,K5)) .leaf .leaf) (.node (some (Tryz.f246,o8)) .leaf .leaf)))) (.node none (.node none (.node none (.node (some (Tryz.f142,KU)) .leaf .leaf) .leaf) (.node (some (Tryz.f110,nF)) (.node (some (Tryz.f174,KZ)) .leaf .leaf) (.node (some (Tryz.f238,yM)) .leaf .leaf))) (.node (some (Tryz.f62,aY)) (.node (some (Tryz.f94,nW)) (.node (some (Tryz.f158,KY)) .leaf .leaf) (.node (some (Tryz.f222,Lb)) .leaf .leaf)) (.node none (.node (some (Tryz.f190,yz)) .leaf .leaf) (.node (some (Tryz.f254,yP)) .leaf .leaf))))))))
def Cn(p:Nat->Func×Code->Prop):(Nat->Nat)->T (Func×Code)->Prop
 |_,.leaf=>True
 |g,.node v l r=>(∀ a,v=some a->p (g 0) a)/\Cn p (fun i=>g (2*i+1)) l/\Cn p (fun i=>g (2*i+2)) r
theorem Ei{p:Nat->Func×Code->Prop}:∀ {t:T (Func×Code)} {g:Nat->Nat},Cn p g t->∀ i a,t.get i=some a->p (g i) a
 | .leaf,_,_,i,a,h=>by cases h
 | .node v l r,g,⟨h1,h2,h3⟩,i,a,h=>by
  rw[T.pW] at h;by_cases h0:i=0
  .subst h0;exact h1 a (by simpa using h)
  .rw[if_neg h0] at h;by_cases C:i % 2=1
   .rw[if_pos C] at h;have:=Ei h2 _ a h;have e:2*(i / 2)+1=i:=by omega
    simpa only[e] using this
   .rw[if_neg C] at h;have:=Ei h3 _ a h;have e:2*(i / 2 - 1)+2=i:=by omega
    simpa only[e] using this
theorem e0{p:Func×Code->Prop}:∀ a,(none:Option (Func×Code))=some a->p a:=fun _ h=>by cases h
theorem e1{i:Nat}{fn:Func}{c:Code}(h:jz prog i fn c):∀ a,some (fn,c)=some a->jz prog i a.1 a.2:=fun _ e=>by cases e;exact h
theorem VY:Cn (fun i a=>jz prog i a.1 a.2) (fun i=>i) zu:=
 ⟨e0,⟨e0,⟨e0,⟨e0,⟨e0,⟨e0,⟨e0,⟨e0,⟨e1 NV,trivial,trivial⟩,trivial⟩,⟨e1 NA,trivial,trivial⟩⟩,⟨e1 Ps,trivial,⟨e1 Zg,trivial,trivial⟩⟩⟩,⟨e0,⟨e0,⟨e1 Y1,trivial,trivial⟩,trivial⟩,⟨e0,⟨e1 N8,trivial,trivial⟩,⟨e1 FK,trivial,trivial⟩⟩⟩⟩,⟨e1 abK,⟨e1 PH,⟨e1 abT,⟨e1 YW,trivial,trivial⟩,⟨e1 No,trivial,trivial⟩⟩,⟨e0,trivial,⟨e1 Ft,trivial,trivial⟩⟩⟩,⟨e0,⟨e1 abY,⟨e1 Nl,trivial,trivial⟩,trivial⟩,⟨e1 MQ,⟨e1 Za,trivial,trivial⟩,⟨e1 Nc,trivial,trivial⟩⟩⟩⟩⟩,⟨e0,⟨e0,⟨e0,⟨e0,⟨e1 Ng,trivial,trivial⟩,⟨e1 N5,trivial,trivial⟩⟩,⟨e0,trivial,⟨e1 Ni,trivial,trivial⟩⟩⟩,⟨e1 Gv,⟨e1 abX,trivial,trivial⟩,⟨e1 NE,⟨e1 Y7,trivial,trivial⟩,⟨e1 MV,trivial,trivial⟩⟩⟩⟩,⟨e0,⟨e0,⟨e0,⟨e1 N7,trivial,trivial⟩,trivial⟩,⟨e0,trivial,⟨e1 NO,trivial,trivial⟩⟩⟩,⟨e0,⟨e0,⟨e1 Nn,trivial,trivial⟩,trivial⟩,⟨e0,⟨e1 Zd,trivial,trivial⟩,⟨e1 Zl,trivial,trivial⟩⟩⟩⟩⟩⟩,⟨e0,⟨e0,⟨e1 abJ,⟨e1 abN,⟨e1 abQ,⟨e1 M',⟨e1 NT,trivial,trivial⟩,trivial⟩,⟨e1 Ny,trivial,trivial⟩⟩,⟨e1 Pc,trivial,⟨e1 Zi,trivial,trivial⟩⟩⟩,⟨e0,trivial,⟨e0,⟨e1 Y6,trivial,trivial⟩,⟨e1 Zk,trivial,trivial⟩⟩⟩⟩,⟨e0,⟨e1 abO,⟨e1 abV,⟨e1 Ob,trivial,trivial⟩,⟨e1 Nm,trivial,trivial⟩⟩,⟨e1 N9,trivial,⟨e1 FI,trivial,trivial⟩⟩⟩,⟨e0,⟨e1 O9,⟨e1 NC,trivial,trivial⟩,trivial⟩,⟨e0,⟨e1 Zb,trivial,trivial⟩,trivial⟩⟩⟩⟩,⟨e0,⟨e0,⟨e0,⟨e1 Pv,⟨e1 YU,trivial,trivial⟩,⟨e1 Nr,trivial,trivial⟩⟩,⟨e0,trivial,⟨e1 Nu,trivial,trivial⟩⟩⟩,⟨e1 F9,⟨e1 Pz,⟨e1 NL,trivial,trivial⟩,trivial⟩,⟨e1 MZ,⟨e1 Y9,trivial,trivial⟩,⟨e1 MW,trivial,trivial⟩⟩⟩⟩,⟨e0,⟨e0,⟨e0,⟨e1 YZ,trivial,trivial⟩,trivial⟩,⟨e0,trivial,⟨e1 NI,trivial,trivial⟩⟩⟩,⟨e1 PB,⟨e1 abZ,trivial,trivial⟩,⟨e0,⟨e1 NX,trivial,trivial⟩,⟨e1 NN,trivial,trivial⟩⟩⟩⟩⟩⟩⟩,⟨e0,⟨e0,⟨e0,⟨e0,⟨e0,⟨e1 GB,⟨e0,⟨e1 NH,trivial,trivial⟩,trivial⟩,⟨e1 MO,trivial,trivial⟩⟩,⟨e1 Ph,trivial,⟨e1 Zh,trivial,trivial⟩⟩⟩,⟨e0,⟨e0,⟨e1 Y2,trivial,trivial⟩,trivial⟩,⟨e0,⟨e1 NF,trivial,trivial⟩,⟨e1 NY,trivial,trivial⟩⟩⟩⟩,⟨e0,⟨e0,⟨e1 abU,⟨e1 YX,trivial,trivial⟩,⟨e1 MT,trivial,trivial⟩⟩,⟨e0,⟨e1 NG,trivial,trivial⟩,⟨e1 Nv,trivial,trivial⟩⟩⟩,⟨e0,⟨e0,⟨e1 Y3,trivial,trivial⟩,trivial⟩,⟨e0,⟨e1 Nj,trivial,trivial⟩,trivial⟩⟩⟩⟩,⟨e0,⟨e1 Cb,⟨e1 PW,⟨e0,⟨e1 YT,⟨e1 Fu,trivial,trivial⟩,trivial⟩,⟨e1 NZ,trivial,trivial⟩⟩,⟨e1 YS,trivial,⟨e1 MN,trivial,trivial⟩⟩⟩,⟨e1 OG,⟨e1 Px,trivial,trivial⟩,⟨e1 NK,⟨e1 Y8,trivial,trivial⟩,⟨e1 N6,trivial,trivial⟩⟩⟩⟩,⟨e1 abM,⟨e0,⟨e0,⟨e1 Oa,trivial,trivial⟩,trivial⟩,⟨e0,trivial,⟨e1 FL,trivial,trivial⟩⟩⟩,⟨e1 PJ,⟨e0,⟨e1 MX,trivial,trivial⟩,trivial⟩,⟨e0,⟨e1 Ze,trivial,trivial⟩,⟨e1 Fs,trivial,trivial⟩⟩⟩⟩⟩⟩,⟨e0,⟨e0,⟨e1 Ga,⟨e0,⟨e1 abR,⟨e1 Fv,⟨e1 Nb,trivial,trivial⟩,trivial⟩,⟨e1 Nx,trivial,trivial⟩⟩,⟨e0,trivial,⟨e1 Zj,trivial,trivial⟩⟩⟩,⟨e1 abP,⟨e1 abW,trivial,trivial⟩,⟨e0,⟨e1 Nk,trivial,trivial⟩,⟨e1 MU,trivial,trivial⟩⟩⟩⟩,⟨e1 abL,⟨e0,⟨e0,⟨e1 YY,trivial,trivial⟩,⟨e1 MY,trivial,trivial⟩⟩,⟨e0,trivial,⟨e1 FJ,trivial,trivial⟩⟩⟩,⟨e0,⟨e1 wU,⟨e1 NB,trivial,trivial⟩,trivial⟩,⟨e0,⟨e1 Zc,trivial,trivial⟩,trivial⟩⟩⟩⟩,⟨e0,⟨e1 PV,⟨e0,⟨e1 abS,⟨e1 YV,trivial,trivial⟩,⟨e1 Nq,trivial,trivial⟩⟩,⟨e0,⟨e1 NW,trivial,trivial⟩,⟨e1 Nz,trivial,trivial⟩⟩⟩,⟨e1 Pu,trivial,⟨e1 Fw,⟨e1 Y',trivial,trivial⟩,⟨e1 Na,trivial,trivial⟩⟩⟩⟩,⟨e0,⟨e0,⟨e0,⟨e1 Y0,trivial,trivial⟩,trivial⟩,⟨e1 FH,⟨e1 Y5,trivial,trivial⟩,⟨e1 NU,trivial,trivial⟩⟩⟩,⟨e1 OP,⟨e1 PI,⟨e1 Y4,trivial,trivial⟩,⟨e1 Zf,trivial,trivial⟩⟩,⟨e0,⟨e1 Nw,trivial,trivial⟩,⟨e1 MP,trivial,trivial⟩⟩⟩⟩⟩⟩⟩⟩
theorem EP(f:FuncId)(fn:Func)(c:Code)(h:zu.get f=some (fn,c)):jz prog f fn c:=Ei VY f (fn,c) h
end Go.Proofs.Tryz.K
namespace Go.Abs
open Go.ChangeShapes Go.WideShapes
inductive Sh
 |int (k:IntKind)
 |bool
 |str
 |sl (s:Sh)
 |unit
 |pair (a b:Sh)
def Sh.val:Sh->Type
 | .int _=>Int
 | .bool=>Bool
 | .str=>ByteArray
 | .sl s=>List s.val
 | .unit=>Unit
 | .pair a b=>a.val×b.val
def Sh.size:Sh->Nat
 | .unit=>0
 | .pair a b=>a.size+b.size
 |_=>1
def Sh.enc:(s:Sh)->s.val->List D
 | .int k,n=>[.s (.int k n)]
 | .bool,b=>[.s (.bool b)]
 | .str,b=>[.s (.string b)]
 | .sl s,l=>[.sl (List.flatMap s.enc l) (List.length l)]
 | .unit,_=>[]
 | .pair a b,x=>a.enc x.1++b.enc x.2
def Sh.arg:(s:Sh)->s.val->D
 | .int k,n=>.s (.int k n)
 | .bool,b=>.s (.bool b)
 | .str,b=>.s (.string b)
 | .sl s,l=>.sl (List.flatMap s.enc l) (List.length l)
 | .unit,_=>.agg []
 | .pair a b,x=>.agg (a.enc x.1++b.enc x.2)
def Sh.ok:(s:Sh)->s.val->Prop
 | .int k,n=>(Lit.int k n).wf=true
 | .bool,_=>True
 | .str,b=>ByteArray.size b<=maxLen
 | .sl s,l=>∀ x:s.val,List.Mem x l->s.ok x
 | .unit,_=>True
 | .pair a b,x=>a.ok x.1/\b.ok x.2
theorem Sh.enc_length:∀ (s:Sh) (x:s.val),(s.enc x).length=s.size
 | .int _,_ | .bool,_ | .str,_ | .sl _,_ | .unit,_=>rfl
 | .pair a b,x=>by simp[Sh.enc,Sh.size,Sh.enc_length a,Sh.enc_length b]
section
variable(P:Program)
def shFs(C:TypeId->Option Sh):Nat->List Field->Option Sh
 |_,[]=>some .unit
 |off,f::fs=>if f.offset=off then match C f.type,shFs C (off+P.cellsOf f.type) fs with
  |some a,some b=>some (.pair a b)
  |_,_=>none
  else none
def shT:Nat->TypeId->Option Sh
 |0,_=>none
 |n+1,t=>match P.underlying t with
  |some .bool=>if P.cellsOf t=1 then some .bool else none
  |some (.int k)=>if P.cellsOf t=1 then some (.int k) else none
  |some .string=>if P.cellsOf t=1 then some .str else none
  |some (.slice e)=>if P.cellsOf t=1/\0<P.cellsOf e then(shT n e).map .sl else none
  |some (.struct fs)=>match shFs P (shT n) 0 fs.toList with
   |some s=>if s.size=P.cellsOf t then some s else none
   |none=>none
  |_=>none
end
section
variable{P:Program}{H:Type}{ec:TypeId×Value->H}{w:World}{base:Nat}{spare:Nat->Bool}{held:Bool}
def Holds(w:World)(ds:List D)(cs:List Value):Prop:=ds.length=cs.length/\∀ (k:Nat) (d:D) (u:Value),ds[k]? =some d->cs[k]? =some u->R (fun _=>False) noRows w d u/\u.oneCell'=true
theorem Holds.app{ds J:List D}{cs cs':List Value}(h:Holds w ds cs)(h':Holds w J cs'):Holds w (ds++J) (cs++cs'):=by
 refine⟨by simp[h.1,h'.1],fun k d u hd C=>?_⟩;by_cases hk:k<ds.length
 .rw[List.getElem?_append_left hk] at hd;rw[List.getElem?_append_left (by have:=h.1;omega)] at C;exact h.2 k d u hd C
 .rw[List.getElem?_append_right oG] at hd;rw[List.getElem?_append_right (by have:=h.1;omega), <- h.1] at C;exact h'.2 (k - ds.length) d u hd C
theorem Holds.one{d:D}{u:Value}(h:R (fun _=>False) noRows w d u)(h':u.oneCell'=true):Holds w [d] [u]:=⟨rfl,fun k d' J hd C=>by
 cases k with
 |zero=>simp at hd C;subst hd C;exact⟨h,h'⟩
 |succ k=>simp at hd⟩
theorem Holds.nil:Holds w [] []:=⟨rfl,oS⟩
theorem shFs_nil{C:TypeId->Option Sh}{off:Nat}{s:Sh}(h:shFs P C off []=some s):s=.unit:=by
 simp only[shFs,ay] at h;exact h.symm
theorem shFs_cons{C:TypeId->Option Sh}{off:Nat}{f:Field}{fs:List Field}{s:Sh}(h:shFs P C off (f::fs)=some s):
 f.offset=off/\∃ a b,C f.type=some a/\shFs P C (off+P.cellsOf f.type) fs=some b/\s=.pair a b:=by
 simp only[shFs] at h;split at h
 .rename_i J;split at h
  .rename_i a b ha hb;simp only[ay] at h;exact⟨J,a,b,ha,hb,h.symm⟩
  .cases h
 .cases h
theorem shT_size:∀ (n:Nat) (t:TypeId) (s:Sh),shT P n t=some s->s.size=P.cellsOf t
 |0,_,_,h=>by cases h
 |n+1,t,s,h=>by
  unfold shT at h;split at h
  .split at h
   .rename_i h1;simp only[ay] at h;subst h;exact h1.symm
   .cases h
  .split at h
   .rename_i h1;simp only[ay] at h;subst h;exact h1.symm
   .cases h
  .split at h
   .rename_i h1;simp only[ay] at h;subst h;exact h1.symm
   .cases h
  .split at h
   .rename_i h1;simp only[bY] at h;obtain⟨a,_,rfl⟩:=h;exact h1.1.symm
   .cases h
  .split at h
   .split at h
    .rename_i h1;simp only[ay] at h;subst h;exact h1
    .cases h
   .cases h
  .cases h
def Reads(P:Program)(w:World)(C:TypeId->Option Sh)(rd:TypeId->List Value->Option (DataW H×List MemPlace)):Prop:=
 ∀ t s cs x,C t=some s->cs.length=P.cellsOf t->rd t cs=some x->∃ v:s.val,s.ok v/\Holds w (s.enc v) cs
theorem reads_fs{J:TypeId->Option Sh}{rd:TypeId->List Value->Option (DataW H×List MemPlace)}(M:∀ t s,J t=some s->s.size=P.cellsOf t)(h:Reads P w J rd){cs:List Value}:∀ (fs:List Field) (off:Nat) (s:Sh),shFs P J off fs=some s->off+s.size<=cs.length->
 (∀ f∈fs,∃ x,rd f.type ((cs.drop f.offset).take (P.cellsOf f.type))=some x)->∃ v:s.val,s.ok v/\Holds w (s.enc v) ((cs.drop off).take s.size)
 |[],off,s,hs,_,_=>by
  obtain rfl:=shFs_nil hs;exact⟨(),trivial,by simp[Sh.enc,Sh.size,Holds]⟩
 |f::fs,off,s,hs,hl,hr=>by
  obtain⟨kG,a,b,ha,hb,rfl⟩:=shFs_cons hs;obtain⟨x,hx⟩:=hr f oS;have jB:off+(a.size+b.size)<=cs.length:=hl;have bt:=M _ _ ha;rw[kG] at hx;obtain⟨v,AG,hv⟩:=h f.type a _ x ha (by simp only[List.length_take,List.length_drop];omega) hx;rw[<- bt] at hb hv;obtain⟨X,C,GO⟩:=reads_fs M h fs (off+a.size) b hb oG fun g hg=>hr g (by simp[hg]);refine⟨(v,X),⟨AG,C⟩,?_⟩;have:=hv.app GO;show Holds w (a.enc v++b.enc X) ((cs.drop off).take (a.size+b.size));rw[List.take_add,List.drop_drop];exact this
theorem cells_get{a:Addr}{n:Nat}{cs:List Value}(h:w.cells? base a n=some cs):cs.length=n/\∀ k,k<n->w.cell? (a.add k)=cs[k]? /\k<cs.length:=by
 unfold World.cells? at h;split at h
 .have hl:cs.length=n:=by simpa using mapM_some_length h
  exact⟨hl,fun k hk=>⟨mapM_some_get h k k (by simp[hk]),oG⟩⟩
 .cases h
theorem choose_list{α β:Type}{p:Nat->α->β->Prop}:∀ (n:Nat) (l:Nat->α),(∀ i,i<n->∃ y,p i (l i) y)->∃ ys:List β,ys.length=n/\∀ i (h:i<n) y,ys[i]? =some y->p i (l i) y
 |0,_,_=>⟨[],rfl,fun i h=>by omega⟩
 |n+1,l,h=>by
  obtain⟨ys,h1,h2⟩:=choose_list n l fun i hi=>h i oG;obtain⟨y,hy⟩:=h n oG;refine⟨ys++[y],by simp[h1],fun i hi z C=>?_⟩;by_cases J:i<n
  .rw[List.getElem?_append_left oG] at C;exact h2 i J z C
  .have:i=n:=by omega
   subst this;rw[List.getElem?_append_right oG] at C;simp[h1] at C;subst C;exact hy
theorem flat_get{α:Type}{f:α->List D}{sz:Nat}(hs:∀ x,(f x).length=sz):∀ (l:List α) (i j:Nat),j<sz->(l.flatMap f)[i*sz+j]? =(l[i]?).bind fun x=>(f x)[j]?
 |[],i,j,_=>by simp
 |x::l,0,j,h=>by simp[List.getElem?_append_left (show j<(f x).length by rw[hs];exact h)]
 |x::l,i+1,j,h=>by
  rw[List.flatMap_cons,List.getElem?_append_right (by rw[hs,Nat.add_mul];omega)];have:(i+1)*sz+j - (f x).length=i*sz+j:=by rw[hs,Nat.add_mul];omega
  rw[this,flat_get hs l i j h];simp
theorem reads_T:∀ (jy n:Nat),Reads P w (shT P n) (DataW.trod ec P w base spare held jy)
 |jy,0,t,s,cs,x,h,_,_=>by cases h
 |jy,n+1,t,s,cs,x,h,hl,hr=>by
  have bt:=shT_size _ _ _ h;unfold shT at h;split at h
  .rename_i ht;split at h
   .simp only[ay] at h;subst h;obtain⟨b,rfl,_⟩:=DataW.trod_bool ht hr;exact⟨b,trivial,.one (.s _ rfl) rfl⟩
   .cases h
  .rename_i k ht;split at h
   .simp only[ay] at h;subst h;obtain⟨b,rfl,_,hw⟩:=DataW.trod_int ht hr;exact⟨b,hw,.one (.s _ rfl) rfl⟩
   .cases h
  .rename_i ht;split at h
   .simp only[ay] at h;subst h;obtain⟨b,rfl,_,hw⟩:=DataW.trod_string ht hr;exact⟨b,hw,.one (.s _ rfl) rfl⟩
   .cases h
  .rename_i e ht;split at h
   .rename_i hc;simp only[bY] at h;obtain⟨a,ha,rfl⟩:=h;have haz:=shT_size _ _ _ ha;rcases DataW.trod_slice ht hr with⟨rfl,_⟩|⟨M,len,cap,Og,rest,X,rfl,rfl,_,hb,hlc,hm,hlen,Aq,_,_⟩
    .exact⟨([]:List a.val),(fun x h=>nomatch h),.one (by exact .sln none 0) rfl⟩
    .have Qb:∀ i,i<len->∃ C:List Value,w.cells? base (M.add (i*P.cellsOf e)) (P.cellsOf e)=some C/\∃ y,DataW.trod ec P w base spare held X e C=some y:=fun i hi=>by
      have:=Aq i hi;have hg:Og[i]? =some Og[i]:=by simp[hlen,hi]
      rw[hg,Option.bind_eq_some_iff] at this;obtain⟨C,h1,h2⟩:=this;exact⟨C,h1,_,h2⟩
     have zL:∀ i,i<len->∃ v:a.val,a.ok v/\∃ C,w.cells? base (M.add (i*P.cellsOf e)) (P.cellsOf e)=some C/\Holds w (a.enc v) C:=fun i hi=>by
      obtain⟨C,h1,y,h2⟩:=Qb i hi;obtain⟨v,AG,hv⟩:=reads_T X n e a C y ha (cells_get h1).1 h2;exact⟨v,AG,C,h1,hv⟩
     obtain⟨vs,pK,RA⟩:=choose_list (p:=fun(i:Nat) (_:Nat) (v:a.val)=>a.ok v/\∃ C,w.cells? base (M.add (i*P.cellsOf e)) (P.cellsOf e)=some C/\Holds w (a.enc v) C) len (fun i=>i) zL
     have ab8:∀ x:a.val,x∈vs->a.ok x:=fun x hm=>by
      obtain⟨i,hx⟩:=cU hm;exact(RA i (by have:=(bj.1 hx).1;omega) x hx).1
     cases len with
     |zero=>
      have:vs=[]:=List.length_eq_zero_iff.1 pK;subst this;exact⟨([]:List a.val),(fun x h=>nomatch h),.one (by exact .sln _ cap) rfl⟩
     |succ l=>
      obtain⟨C,h0,_⟩:=Qb 0 oG;have uR:=(cells_get h0).2 0 hc.2;simp only[Nat.zero_mul,Addr.add,if_true] at uR;obtain⟨b,o,sp⟩:=M;have BK:∃ u,w.cell? ⟨b,o,sp⟩=some u:=⟨C[0],by rw[uR.1];simp[uR.2]⟩
      obtain⟨u0,J⟩:=BK;unfold World.cell? at J
      have ic:b<w.heap.size:=by
       cases hh:w.heap[b]? with
       |none=>rw[hh] at J;cases J
       |some x=>exact(Array.getElem?_eq_some_iff.1 hh).1
      have hsp:sp=none:=by
       cases sp with
       |none=>rfl
       |some q=>
        simp only at J;split at J
        .simp at J
        .cases J
      subst hsp
      have ab9:∀ i j,((⟨b,o,none⟩:Addr).add i).add j=⟨b,o+(i+j),none⟩:=fun i j=>by
       unfold Addr.add;split<;>split<;>simp_all;omega
      have hk:∀ k d,(vs.flatMap a.enc)[k]? =some d->∃ u,w.cell? ⟨b,o+k,none⟩=some u/\R (fun _=>False) noRows w d u/\u.oneCell'=true:=fun k d hd=>by
       have eT:0<a.size:=by omega
       have zX:k / a.size*a.size+k % a.size=k:=by rw[Nat.mul_comm];exact Nat.div_add_mod k a.size
       have hk2:=Nat.mod_lt k eT;rw[<- zX,flat_get a.enc_length _ _ _ hk2,Option.bind_eq_some_iff] at hd;obtain⟨x,hx,hd⟩:=hd
       have hi:k / a.size<l+1:=by
        have:=(bj.1 hx).1;omega
       obtain⟨_,C,iD,hho⟩:=RA _ hi x hx;obtain⟨h1,h2⟩:=(cells_get iD).2 (k % a.size) oG;rw[ab9, <- haz,zX] at h1;refine⟨C[k % a.size],by rw[h1];simp[h2],hho.2 _ d _ hd (by simp[h2])⟩
      refine⟨vs,fun x h=>ab8 x h,.one (by
       have uU:(List.length vs)=l+1:=pK;show R _ _ _ (.sl (List.flatMap a.enc vs) (List.length vs)) _;rw[uU];refine .sl _ _ b o cap (fun k=>(w.cell? ⟨b,o+k,none⟩).getD undef) oS (fun _ _ h=>by cases h) ic hlc hm (fun k ot=>?_) fun k d hd=>?_
       .obtain⟨u,h1,_,h3⟩:=hk k _ (aK ot);simp[h1,h3]
       .obtain⟨u,h1,h2,_⟩:=hk k d hd
        simpa[h1] using h2) rfl⟩
   .cases h
  .rename_i fs ht;obtain⟨xs,X,rfl,_,_,oB,xg⟩:=DataW.trod_struct ht hr;split at h
   .rename_i s' dc;split at h
    .rename_i hs;simp only[ay] at h;subst h
     obtain⟨v,AG,hv⟩:=reads_fs (P:=P) (w:=w) (fun t s=>shT_size n t s) (reads_T X n) (cs:=cs) fs.toList 0 s' dc oG fun f hf=>by
      obtain⟨i,hi,rfl⟩:=Array.getElem_of_mem (Array.mem_toList_iff.1 hf);have:=xg i fs[i] (by simp[hi]);exact⟨xs[i],by rw[this];simp[oB,hi]⟩
     refine⟨v,AG,?_⟩;rw[List.drop_zero,ez oG] at hv;exact hv
    .cases h
   .cases h
  .cases h
theorem arg_R{r:Reach}{b0:Nat}{t:TypeId}{v:Value}{d:DataW H}{ps:List MemPlace}{n:Nat}{s:Sh}(hs:shT P n t=some s)(hv:Value.okWide P w r b0 t v)(hd:DataW.Trod ec P w base spare held t v d ps):
 ∃ x:s.val,s.ok x/\R (fun _=>False) noRows w (s.arg x) v:=by
 cases n with
 |zero=>cases hs
 |succ n=>
  obtain⟨jy,hf⟩:=hd;have hz:=shT_size _ _ _ hs;have key:v.cells.toList.length=P.cellsOf t->∃ x:s.val,s.ok x/\Holds w (s.enc x) v.cells.toList:=fun hl=>reads_T jy (n+1) t s _ _ hs hl hf;unfold shT at hs;split at hs
  .rename_i ht;obtain⟨b,rfl⟩:=okWide_bool ht hv;split at hs
   .simp only[ay] at hs;subst hs;exact⟨b,trivial,.s _ rfl⟩
   .cases hs
  .rename_i k ht;obtain⟨b,rfl⟩:=okWide_int ht hv;split at hs
   .simp only[ay] at hs;subst hs;obtain⟨c,hc,_,M⟩:=DataW.trod_int ht hf;simp[Value.cells] at hc;subst hc;exact⟨b,M,.s _ rfl⟩
   .cases hs
  .rename_i ht;obtain⟨b,rfl⟩:=okWide_string ht hv;split at hs
   .simp only[ay] at hs;subst hs;obtain⟨c,hc,_,M⟩:=DataW.trod_string ht hf;simp[Value.cells] at hc;subst hc;exact⟨b,M,.s _ rfl⟩
   .cases hs
  .rename_i e ht;obtain⟨a,len,cap,rfl⟩:=okWide_slice ht hv;split at hs
   .rename_i h1;simp only[bY] at hs;obtain⟨q,_,rfl⟩:=hs;obtain⟨x,J,hx⟩:=key h1.1.symm;exact⟨x,J,(hx.2 0 _ _ rfl rfl).1⟩
   .cases hs
  .rename_i fs ht;obtain⟨cs,rfl,bt⟩:=okWide_struct ht hv;obtain⟨x,J,hx⟩:=key (by simpa[Value.cells] using bt);refine⟨x,J,?_⟩
   have ha:s.arg x=.agg (s.enc x):=by
    split at hs
    .rename_i s' C;split at hs
     .simp only[ay] at hs;subst hs;cases X:fs.toList with
      |nil=>
       rw[X] at C;obtain rfl:=shFs_nil C;rfl
      |cons f CZ=>
       rw[X] at C;obtain⟨_,a,b,_,_,rfl⟩:=shFs_cons C;rfl
     .cases hs
    .cases hs
   rw[ha];have:=hx.1;simp only[Value.cells] at this hx;have e:cs=cs.toList.toArray:=by simp
   rw[e];exact .agg _ cs.toList this.symm fun k d v h1 h2=>(hx.2 k d v h1 h2).1
  .cases hs
theorem flat_one{α β:Type}(f:α->β):∀ l:List α,(l.flatMap fun x=>[f x])=l.map f
 |[]=>rfl
 |x::l=>by rw[List.flatMap_cons,flat_one f l];rfl
theorem flat_congr{α β γ:Type}{f:α->List γ}{g:β->List γ}{h:α->β}(he:∀ x,f x=g (h x)):∀ l:List α,l.flatMap f=(l.map h).flatMap g
 |[]=>rfl
 |x::l=>by rw[List.flatMap_cons,List.map_cons,List.flatMap_cons,he,flat_congr he l]
end
end Go.Abs
namespace Go.Argus
open Go.Abs
abbrev jw:Sh:=.int .i64
abbrev zN:Sh:=.int .u8
abbrev zo:Sh:=.pair zN (.pair jw (.pair jw (.pair jw (.pair jw (.pair (.sl jw) .unit)))))
abbrev BC:Sh:=.pair .str (.pair jw .unit)
abbrev BX:Sh:=.pair zN (.pair jw (.pair jw (.pair jw (.pair jw (.pair .str (.pair zo (.pair (.sl jw) (.pair (.sl BC) (.pair jw .unit)))))))))
abbrev Bt:Sh:=.pair (.sl zo) (.pair BX .unit)
abbrev y5:Sh:=.pair .str (.pair .bool (.pair jw (.pair zN (.pair (.sl zN) (.pair (.sl zN) (.pair (.sl .str) (.pair (.sl Bt) .unit)))))))
def FQ(x:zo.val):bN:=⟨x.1,x.2.1,x.2.2.1,x.2.2.2.1,x.2.2.2.2.1,x.2.2.2.2.2.1⟩
def Mv(x:BC.val):hC:=⟨x.1,x.2.1⟩
def Oh(x:BX.val):End:=⟨x.1,x.2.1,x.2.2.1,x.2.2.2.1,x.2.2.2.2.1,x.2.2.2.2.2.1,FQ x.2.2.2.2.2.2.1,x.2.2.2.2.2.2.2.1,List.map Mv x.2.2.2.2.2.2.2.2.1,x.2.2.2.2.2.2.2.2.2.1⟩
def Lr(x:Bt.val):ca:=⟨List.map FQ x.1,Oh x.2.1⟩
def WV(x:y5.val):aC:=⟨x.1,x.2.1,x.2.2.1,x.2.2.2.1,x.2.2.2.2.1,x.2.2.2.2.2.1,x.2.2.2.2.2.2.1,List.map Lr x.2.2.2.2.2.2.2.1⟩
theorem wm{k:IntKind}(l:List Int):D.sl (List.flatMap (Sh.enc (.int k)) l) l.length=.sl (l.map fun n=>.s (.int k n)) l.length:=congrArg (D.sl · l.length) (flat_one (fun n=>D.s (.int k n)) l)
theorem WW(l:List ByteArray):D.sl (List.flatMap (Sh.enc .str) l) l.length=mE l:=congrArg (D.sl · l.length) (flat_one S l)
theorem FR{s:Sh}{β:Type}{g:β->List D}{h:s.val->β}(he:∀ x,s.enc x=g (h x))(l:List s.val):D.sl (List.flatMap s.enc l) l.length=.sl ((l.map h).flatMap g) (l.map h).length:=by
 rw[flat_congr he l,List.length_map]
theorem c1'{α β:Type}(f:α->β){a a':α}(h:a=a'):f a=f a':=by rw[h]
theorem c2'{α β γ:Type}(f:α->β->γ){a a':α}{b C:β}(h:a=a')(h2:b=C):f a b=f a' C:=by rw[h,h2]
theorem RB{α β γ δ:Type}(f:α->β->γ->δ){a a':α}{b C:β}{c J:γ}(h:a=a')(h2:b=C)(h3:c=J):f a b c=f a' C J:=by rw[h,h2,h3]
theorem c4'{α β γ δ ε:Type}(f:α->β->γ->δ->ε){a a':α}{b C:β}{c J:γ}{d d':δ}(h:a=a')(h2:b=C)(h3:c=J)(h4:d=d'):f a b c d=f a' C J d':=by rw[h,h2,h3,h4]
theorem Ls(x:zo.val):zo.enc x=b7 (FQ x):=
 c1' (fun q=>[U8 x.1,I x.2.1,I x.2.2.1,I x.2.2.2.1,I x.2.2.2.2.1,q]) (wm (k:=.i64) x.2.2.2.2.2.1)
theorem U1(x:BC.val):BC.enc x=jg (Mv x):=rfl
theorem VZ(x:BX.val):BX.enc x=bm (Oh x):=
 RB (fun a b c=>[U8 x.1,I x.2.1,I x.2.2.1,I x.2.2.2.1,I x.2.2.2.2.1,S x.2.2.2.2.2.1]++(a++[b,c,I x.2.2.2.2.2.2.2.2.2.1])) (Ls x.2.2.2.2.2.2.1) (wm (k:=.i64) x.2.2.2.2.2.2.2.1) (FR U1 x.2.2.2.2.2.2.2.2.1)
theorem TS(x:Bt.val):Bt.enc x=dt (Lr x):=by
 have:=c2' (fun a b=>a::(b++[])) (FR Ls x.1) (VZ x.2.1);refine Eq.trans this ?_;rw[List.append_nil];rfl
theorem US(x:y5.val):y5.arg x=.agg (aX (WV x)):=
 c4' (fun a b c d=>D.agg [S x.1,B x.2.1,I x.2.2.1,U8 x.2.2.2.1,a,b,c,d]) (wm (k:=.u8) x.2.2.2.2.1) (wm (k:=.u8) x.2.2.2.2.2.1) (WW x.2.2.2.2.2.2.1) (FR TS x.2.2.2.2.2.2.2.1)
end Go.Argus
