/- Part 2 of the proof; the last part says what is proved. -/
import Derived.Test.YtonoegleildfnaaGreatTrees1
import Derived.IntWalk
import Derived.RangeFuncRecord
import Derived.Scope
import Derived.Test.YtonoegleildfnaaGreatChecked
namespace Go.Abs
section
variable{P:Program}{F:Nat->Prop}
theorem Nh{β β':Pla}{w:World}{m:Mem}(hm:MSim P F m β w){i:Nat}{cs:List D}{e:TypeId}(av:m i=some (.cells cs e))(hβ:β'=up β i (some .dead)){d:D}{v:Value}(h:R F β w d v):
 R F β' w (fz0 i cs (P.cellsOf e) d) v:=by
 have hs:Step β w β' w:=by rw[hβ];exact step_dead β w i
 have bH:=h.step hs
 obtain⟨p,hp,hr⟩:=hm.row i _ av
 unfold fz0
 split
 .rename_i j off n
  split
  .rename_i cB
   subst cB
   cases h with
   |rsd _ _ _ _ h1 _=>
    rw[h1] at hp
    cases hp
    cases hr
   |rsn _ a h1=>
    rw[h1] at hp
    cases hp
    cases hr
    simp only[List.drop_nil,List.take_nil]
    exact .sln a 0
   |rsz _ _ a b o len room sz h1=>
    simp only[Nat.zero_mul,List.take_zero]
    exact .sln a 0
   |rs _ _ _ cap b o len room sz h1 hn eY h2 h3=>
    rw[h1] at hp
    cases hp
    have Ji:β j=some (.cells b o len room sz):=h1
    obtain⟨cQ,hl,bL,_⟩:=hr.rd
    have ajR:=(cQ.drop off).take (n*P.cellsOf e)
    obtain⟨us,u1,u2⟩:=ajR
    refine .sl _ n b (o+off) cap us (hm.nf j _ b Ji rfl) ?_ (hm.lt j _ b Ji rfl) hn eY u1 fun k d hk=>(u2 k d hk).step hs
    rw[hβ]
    intro k q hq
    by_cases fW:k=j
    .subst fW
     rw[up_same] at hq
     cases hq
     simp[Pl.blk]
    .rw[up_ne _ _ fW] at hq
     exact hm.free_other Ji rfl hq fW
  .exact bH
 .rename_i j off
  split
  .rename_i cB
   subst cB
   cases h with
   |rpd _ _ _ h1 _=>
    rw[h1] at hp
    cases hp
    cases hr
   |rp _ _ b o len room sz h1=>
    rw[h1] at hp
    cases hp
    obtain⟨cQ,hl,bL,_⟩:=hr.rd
    obtain⟨us,u1,u2⟩:=cQ.drop off
    refine .pt _ b (o+off) us (hm.nf j _ b h1 rfl) ?_ (hm.lt j _ b h1 rfl) u1 fun k d hk=>(u2 k d hk).step hs
    rw[hβ]
    intro k q hq
    by_cases fW:k=j
    .subst fW
     rw[up_same] at hq
     cases hq
     simp[Pl.blk]
    .rw[up_ne _ _ fW] at hq
     exact hm.free_other h1 rfl hq fW
  .exact bH
 .exact bH
theorem Zy{β β':Pla}{w:World}{m:Mem}(hm:MSim P F m β w){i:Nat}{es:List (Value×D)}(av:m i=some (.map es))(hβ:β'=up β i (some .dead)){d:D}{v:Value}(h:R F β w d v):R F β' w (fm0 i es d) v:=by
 have hs:Step β w β' w:=by rw[hβ];exact step_dead β w i
 unfold fm0
 split
 .rename_i j
  split
  .rename_i cB
   subst cB
   obtain⟨r,ms,clock,h1,rfl,h3,h4,h5,h6⟩:=h.mp_inv hm av
   refine .im es r ms clock (hm.nf j _ r h1 rfl) ?_ h3 h4 h5 (fun k x m hx hm=>(h6 k x m hx hm).1) fun k x m hx hm=>(h6 k x m hx hm).2.step hs
   rw[hβ]
   intro k q hq
   by_cases fW:k=j
   .subst fW
    rw[up_same] at hq
    cases hq
    simp[Pl.blk]
   .rw[up_ne _ _ fW] at hq
    exact hm.free_other h1 rfl hq fW
  .exact h.step hs
 .exact h.step hs
section subst
variable{σ:D->D}{β β':Pla}{w:World}
theorem MA(hσ:∀ {d v},R F β w d v->R F β' w (σ d) v){d:D}{v:Value}(h:R F β w d v):R F β' w (sub1 σ d) v:=by
 unfold sub1
 split
 .rename_i ds
  obtain⟨vs,rfl,hl,hh⟩:=h.agg_inv
  refine .agg _ vs (by simpa using hl) fun k d v hd hv=>?_
  simp only[List.getElem?_map,Option.map_eq_some_iff] at hd
  obtain⟨d',q9,rfl⟩:=hd
  exact hσ (hh k d' v q9 hv)
 .cases h with
  |opt c d _ h1 h2=>exact .opt _ _ v (fun hc=>hσ (h1 hc)) h2
 .exact hσ h
theorem Hd(hσ:∀ {d v},R F β w d v->R F β' w (σ d) v){d:D}{v:Value}(h:R F β w d v):R F β' w (sub σ d) v:=by
 have map:∀ (ds:List D) (vs:List Value),(∀ (k:Nat) (d:D) (v:Value),ds[k]? =some d->vs[k]? =some v->R F β w d v)->
  ∀ (k:Nat) (d:D) (v:Value),(ds.map (sub1 σ))[k]? =some d->vs[k]? =some v->R F β' w d v:=fun ds vs hh k d v hd hv=>by
  simp only[List.getElem?_map,Option.map_eq_some_iff] at hd
  obtain⟨d',q9,rfl⟩:=hd
  exact MA hσ (hh k d' v q9 hv)
 unfold sub
 split
 .rename_i ds
  obtain⟨vs,rfl,hl,hh⟩:=h.tup_inv
  exact .tup _ vs (by simpa using hl) (map ds vs hh)
 .rename_i f fs ds
  cases h with
  |fn _ _ _ us vs hl iJ h1 h2=>exact .fn f _ _ us vs (by simpa using hl) (by simpa using iJ) (map fs us h1) (map ds vs h2)
 .exact MA hσ h
theorem aaN(hσ:∀ {d v},R F β w d v->R F β' w (σ d) v)(hs:Step β w β' w){r:Row}{p:Pl}(h:RowR P F β w r p):RowR P F β' w (r.sub σ) p:=by
 cases h with
 |nil e'=>exact .nil e'
 |cells ds e' b o room sz c hc hr hlen bL hh=>
  have:=RowR.cells (P:=P) (F:=F) (β:=β') (w:=w) (ds.map (Abs.sub σ)) e' b o room sz c hc hr (by simpa using hlen) bL fun k d hk=>by
   simp only[List.getElem?_map,Option.map_eq_some_iff] at hk
   obtain⟨d',q9,rfl⟩:=hk
   obtain⟨v,h1,h2,h3⟩:=hh k d' q9
   exact⟨v,h1,Hd hσ h2,h3⟩
  simpa[Row.sub] using this
 |map es r ms clock hc hl dA hh=>
  refine .map _ r ms clock hc (by simpa using hl) (by simpa[List.map_map,Function.comp_def] using dA) fun k x mm hk hmk=>?_
  simp only[List.getElem?_map,Option.map_eq_some_iff] at hk
  obtain⟨x',sM,rfl⟩:=hk
  obtain⟨h1,h2⟩:=hh k x' mm sM hmk
  exact⟨h1,Hd hσ h2⟩
 |raw r o hc=>exact .raw r o hc
 |ren f r _ F₂ h1 h2 h=>exact(RowR.ren f r p F₂ h1 h2 h).step hs fun _ _=>rfl
end subst
theorem L6{σ:D->D}{env:Env}{m:Mem}{nx i:Nat}{row:Row}(h:m i=some row){w:World}{a:Act}{β:Pla}(hs:eU P F ⟨env,m,nx⟩ β w a)(hσ:∀ {d v},R F β w d v->R F (up β i (some .dead)) w (σ d) v):
 ∃ β',eU P F ⟨fun t=>sub σ (env t),fun j=>if j=i then none else(m j).map (Row.sub σ),nx⟩ β' w a/\gV nx β w a ⟨fun t=>sub σ (env t),fun j=>if j=i then none else(m j).map (Row.sub σ),nx⟩ β' w a:=by
 have bH:=step_dead β w i
 have hm:=hs.m
 simp only at hm
 have mH:∀ j q b,up β i (some .dead) j=some q->q.blk=some b->j≠i/\β j=some q:=fun j q b hq e=>by
  by_cases hj:j=i
  .subst hj
   rw[up_same] at hq
   cases hq
   simp[Pl.blk] at e
  .rw[up_ne _ _ hj] at hq
   exact⟨hj,hq⟩
 have hi:∃ p,β i=some p:=by
  obtain⟨p,hp,_⟩:=hm.row i _ h
  exact⟨p,hp⟩
 refine⟨up β i (some .dead),⟨fun t=>Hd hσ (hs.e t),⟨fun j r hj=>?_,fun j k q q' b hq gE e1 e2=>hm.inj j k q q' b (mH j q b hq e1).2 (mH k q' b gE e2).2 e1 e2,
  fun j q b hq e1=>hm.lt j q b (mH j q b hq e1).2 e1,fun j q b hq e1=>hm.nf j q b (mH j q b hq e1).2 e1,hm.fb⟩,fun j hj=>?_⟩,⟨bH,Nat.le_refl _,fun j hj hn=>?_,rfl,rfl⟩⟩
 .simp only at hj
  by_cases cB:j=i
  .rw[if_pos cB] at hj;cases hj
  .rw[if_neg cB] at hj
   simp only[Option.map_eq_some_iff] at hj
   obtain⟨r',hD,rfl⟩:=hj
   obtain⟨q,hq,av⟩:=hm.row j r' hD
   exact⟨q,by rw[up_ne _ _ cB];exact hq,aaN hσ bH av⟩
 .have cB:j≠i:=fun e1=>by
   subst e1
   obtain⟨p,hp⟩:=hi
   rw[hs.n j hj] at hp
   cases hp
  rw[up_ne _ _ cB];exact hs.n j hj
 .have cB:j≠i:=fun e1=>by
   subst e1
   obtain⟨p,hp⟩:=hi
   rw[hn] at hp
   cases hp
  rw[up_ne _ _ cB];exact hn
theorem Zz{β:Pla}{w:World}{cs cs':List D}{e:TypeId}{p:Pl}(hl:cs'.length=cs.length)(hw:∀ (k:Nat) (d d':D),cs[k]? =some d->cs'[k]? =some d'->Wk d d')(h:RowR P F β w (.cells cs e) p):RowR P F β w (.cells cs' e) p:=by
 cases h with
 |nil _=>
  have:cs'=[]:=List.length_eq_zero_iff.1 (by simpa using hl)
  subst this
  exact .nil e
 |cells _ _ b o room sz c hc hr hlen bL hh=>
  rw[<- hl]
  refine .cells cs' e b o room sz c hc hr oG bL fun k d' q9=>?_
  have hk:k<cs.length:=by rw[<- hl];exact(List.getElem?_eq_some_iff.1 q9).1
  obtain⟨v,h1,h2,h3⟩:=hh k cs[k] (by simp[hk])
  exact⟨v,h1,hw k cs[k] d' (by simp[hk]) q9 _ _ _ _ h2,h3⟩
theorem L7{st st':St}(h:Ghost P st st'){w:World}{a:Act}:∀ {β:Pla},eU P F st β w a->∃ β',eU P F st' β' w a/\gV st.nx β w a st' β' w a:=by
 induction h with
 |refl st=>exact fun {β} hs=>⟨β,hs,gV.refl st β w a⟩
 |trans _ _ ih₁ ih₂=>
  intro β hs
  obtain⟨β₁,h1,h2⟩:=ih₁ hs
  obtain⟨β₂,h3,h4⟩:=ih₂ h1
  exact⟨β₂,h3,h2.trans h4⟩
 |forget env env' m nx h=>
  intro β hs
  refine⟨β,⟨fun t=>?_,hs.m,hs.n⟩,⟨Step.refl β w,Nat.le_refl _,fun _ _ h=>h,rfl,rfl⟩⟩
  rcases h t with h1|h1
  .simp only[h1];exact hs.e t
  .simp only[h1];exact .u _
 |drop env m m' nx h=>
  intro β hs
  refine⟨β,⟨hs.e,⟨fun i r hi=>?_,hs.m.inj,hs.m.lt,hs.m.nf,hs.m.fb⟩,hs.n⟩,⟨Step.refl β w,Nat.le_refl _,fun _ _ h=>h,rfl,rfl⟩⟩
  rcases h i with h1|h1
  .exact hs.m.row i r (h1.symm.trans hi)
  .simp only at hi;rw[h1] at hi;cases hi
 |weak env env' m m' nx h fh=>
  intro β hs
  refine⟨β,⟨fun t=>h t _ _ _ _ (hs.e t),⟨fun i r hi=>?_,hs.m.inj,hs.m.lt,hs.m.nf,hs.m.fb⟩,hs.n⟩,⟨Step.refl β w,Nat.le_refl _,fun _ _ h=>h,rfl,rfl⟩⟩
  rcases fh i with h1|⟨cs,cs',e,h1,h2,h3,h4⟩
  .exact hs.m.row i r (h1.symm.trans hi)
  .simp only at hi
   rw[h2] at hi
   cases hi
   obtain⟨p,hp,hr⟩:=hs.m.row i _ h1
   exact⟨p,hp,Zz h3 h4 hr⟩
 |freeze env m nx i cs e h=>
  intro β hs
  exact L6 h hs fun hr=>Nh hs.m h rfl hr
 |freezeM env m nx i es h=>
  intro β hs
  exact L6 h hs fun hr=>Zy hs.m h rfl hr
 |nilrow env m nx t e h=>
  intro β hs
  have hm:=hs.m
  have hn:β nx=none:=hs.n nx (Nat.le_refl _)
  simp only at hm
  have mH:∀ j q b,up β nx (some .nil) j=some q->q.blk=some b->j≠nx/\β j=some q:=fun j q b hq e=>by
   by_cases hj:j=nx
   .subst hj
    rw[up_same] at hq
    cases hq
    simp[Pl.blk] at e
   .rw[up_ne _ _ hj] at hq
    exact⟨hj,hq⟩
  have bH:Step β w (up β nx (some .nil)) w:=by
   refine⟨Nat.le_refl _,fun b _ hf=>⟨rfl,fun j q hq e1=>?_⟩,fun j q hq=>.inl ?_,rfl,rfl⟩
   .exact hf j q (mH j q b hq e1).2 e1
   .rw[up_ne _ _ (fun e1=>by rw[e1,hn] at hq;cases hq)];exact hq
  refine⟨up β nx (some .nil),⟨fun u=>?_,⟨fun j r hj=>?_,fun j k q q' b hq gE e1 e2=>hm.inj j k q q' b (mH j q b hq e1).2 (mH k q' b gE e2).2 e1 e2,
   fun j q b hq e1=>hm.lt j q b (mH j q b hq e1).2 e1,fun j q b hq e1=>hm.nf j q b (mH j q b hq e1).2 e1,hm.fb⟩,fun j hj=>?_⟩,⟨bH,Nat.le_succ _,fun j hj hb=>?_,rfl,rfl⟩⟩
  .by_cases hu:u=t
   .subst hu
    have h1:=hs.e u
    simp only at h1
    rw[h] at h1
    obtain⟨x,hx⟩:=h1.z_inv
    simp only[up_same,hx]
    exact .rsn nx x (up_same _ _ _)
   .simp only[up_ne _ _ hu]
    exact(hs.e u).step bH
  .simp only at hj
   by_cases cB:j=nx
   .subst cB
    rw[up_same] at hj
    cases hj
    exact⟨.nil,up_same _ _ _,.nil e⟩
   .rw[up_ne _ _ cB] at hj
    obtain⟨q,hq,av⟩:=hm.row j r hj
    exact⟨q,by rw[up_ne _ _ cB];exact hq,av.step bH fun _ _=>rfl⟩
  .simp only at hj
   rw[up_ne _ _ (show j≠nx by omega)]
   exact hs.n j (by simp only;omega)
  .simp only at hj
   rw[up_ne _ _ (show j≠nx by omega)]
   exact hb
def jN(N:Nat):Code->Bool
 | .region _ ops _=>xC N ops
 | .seq a b=>jN N a&&jN N b
 | .cond _ a b=>jN N a&&jN N b
 | .block _ b=>jN N b
 | .loop b=>jN N b
 | .scope b=>jN N b
 | .rangeFunc _ ps a b=>(ps.toList.all fun t=>Nat.blt t N)&&(jN N a&&jN N b)
 |_=>true
theorem Xg{Fc:Fence}{n:Nat}{Q:Exit->Act->World->Prop}{c:Code}(J:Nat->Act->World->Prop){j₀:Nat}{a:Act}{w:World}(h₀:J j₀ a w)
 (round:∀ j a w,J j a w->c.wpIn Fc n P (Exit.then (fun a' w'=>∃ j',j'<j/\J j' a' w') Q) a w):(Code.loop c).wpIn Fc n P Q a w:=by
 intro b k cs KC hb hr
 have key:∀ j a w,J j a w->
  ∃ e a' w',Q e a' w'/\ArrivesIn (Machine.fenced P Fc) P (lone (b.atR a (.code c::.inLoop c::k)) cs w) b k cs e a' w':=by
  intro j
  induction j using Nat.strongRecOn with
  |_ j ih=>
   intro a w hI
   obtain⟨e,a₁,w₁,hq,lS⟩:=round j a w hI b (.inLoop c::k) cs KC hb hr
   cases e with
   |normal=>
    obtain⟨j',aj,hI₁⟩:=hq
    obtain⟨e₂,a₂,w₂,hq₂,acQ⟩:=ih j' aj a₁ w₁ hI₁
    exact⟨e₂,a₂,w₂,hq₂,.of_steps (StepsIn.trans lS (.one (fenced_calm hb hr rfl) stepR_inLoop)) acQ⟩
   |exit id=>exact⟨_,a₁,w₁,hq,.pass (x:=.inLoop c) rfl (fun _ _=>.inl (by simp)) lS⟩
   |goto l=>exact⟨_,a₁,w₁,hq,.pass (x:=.inLoop c) rfl (fun _ _=>.inl (by simp)) lS⟩
   |ret=>exact⟨_,a₁,w₁,hq,.pass (x:=.inLoop c) rfl (fun _ _=>.inl (by simp)) lS⟩
   |panic ch=>exact⟨_,a₁,w₁,hq,.pass (x:=.inLoop c) rfl (fun _ _=>.inl (by simp)) lS⟩
   |outgrown=>exact⟨_,a₁,w₁,hq,.pass (x:=.inLoop c) rfl (fun _ _=>.inl (by simp)) lS⟩
 obtain⟨e,a',w',hq,lS⟩:=key _ a w h₀
 exact⟨e,a',w',hq,.of_steps (.one (fenced_calm hb hr rfl) stepR_loop) lS⟩
def mark(b:Nat):Deferred:={ target:=.collected b,args:= #[] }
def Marks(β:Pla)(w:World)(lo:Nat):List Deferred->Nat->Prop
 |[],_=>True
 |d::ds,hi=>∃ b,d=mark b/\lo<=b/\b<hi/\w.heap[b]? =some (.deferred (some []))/\β.free b/\Marks β w lo ds b
theorem Marks.step{β β':Pla}{w w':World}(hs:Step β w β' w'){lo:Nat}:∀ {ds:List Deferred} {hi:Nat},hi<=w.heap.size->Marks β w lo ds hi->Marks β' w' lo ds hi
 |[],_,_,_=>trivial
 |d::ds,hi,hle,⟨b,h1,h2,h3,h4,h5,h6⟩=>by
  obtain⟨g1,g2⟩:=hs.imm b oG h5
  exact⟨b,h1,h2,h3,g1.trans h4,g2,Marks.step hs oG h6⟩
theorem Marks.mono{β:Pla}{w:World}{lo hi dC:Nat}(h:hi<=dC):∀ {ds:List Deferred},Marks β w lo ds hi->Marks β w lo ds dC
 |[],_=>trivial
 |_::_,⟨b,h1,h2,h3,h4⟩=>⟨b,h1,h2,by omega,h4⟩
theorem Marks.append{β:Pla}{w:World}{lo mid:Nat}(tZ:lo<=mid){v8:List Deferred}:∀ {ds:List Deferred} {hi:Nat},mid<=hi->Marks β w mid ds hi->Marks β w lo v8 mid->Marks β w lo (ds++v8) hi
 |[],_,hle,_,h'=>Marks.mono hle h'
 |_::_,_,_,⟨b,h1,h2,h3,h4,h5,h6⟩,h'=>⟨b,h1,by omega,h3,h4,h5,Marks.append tZ h2 h6 h'⟩
structure p0(N:Nat)(β:Pla)(w:World)(a:Act)(st':St)(β':Pla)(w':World)(a':Act):Prop where
 step:Step β w β' w'
 le:N<=st'.nx
 grow:∀ i,i<N->β i=none->β' i=none
 size:a'.tmps.size=a.tmps.size
 defers:∃ ds,a'.defers=ds++a.defers/\Marks β' w' w.heap.size ds w'.heap.size
theorem gV.FJ{N:Nat}{β β':Pla}{w w':World}{a a':Act}{st':St}(h:gV N β w a st' β' w' a'):p0 N β w a st' β' w' a':=
 ⟨h.step,h.le,h.grow,h.size,[],h.defers,trivial⟩
theorem p0.trans{N:Nat}{β β₁ β₂:Pla}{w w₁ w₂:World}{a a₁ a₂:Act}{v9 wc:St}(h:p0 N β w a v9 β₁ w₁ a₁)(k:p0 v9.nx β₁ w₁ a₁ wc β₂ w₂ a₂):p0 N β w a wc β₂ w₂ a₂:=by
 obtain⟨ds,e1,h1⟩:=h.defers
 obtain⟨v8,e2,h2⟩:=k.defers
 exact⟨h.step.trans k.step,Nat.le_trans h.le k.le,fun i hi hn=>k.grow i (Nat.lt_of_lt_of_le hi h.le) (h.grow i hi hn),k.size.trans h.size,v8++ds,by rw[e2,e1,List.append_assoc],
  Marks.append h.step.size k.step.size h2 (h1.step k.step (Nat.le_refl _))⟩
theorem p0.since{N:Nat}{β β₁ β₂:Pla}{w w₁ w₂:World}{a a₁ a₂:Act}{v9 wc:St}(h:p0 N β w a v9 β₁ w₁ a₁)(k:gV v9.nx β₁ w₁ a₁ wc β₂ w₂ a₂):p0 N β w a wc β₂ w₂ a₂:=h.trans k.FJ
def acR(P:Program)(F:Nat->Prop)(N:Nat)(β:Pla)(w:World)(a:Act)(Q:Exit->St->Prop)(e:Exit)(a':Act)(w':World):Prop:=
 ∃ st' β',Q e st'/\eU P F st' β' w' a'/\p0 N β w a st' β' w' a'
theorem YCall.base{βb:Pla}{wb:World}{β:Pla}{w:World}(hs:Step βb wb β w){l:Nat}{args:List D}{m:Mem}{nx:Nat}{K:D->Mem->Nat->Prop}(h:YCall P F βb wb l args m nx K):YCall P F β w l args m nx K:=
 fun β' w' us dZ=>h β' w' us (hs.trans dZ)
theorem free_other{β:Pla}{i:Nat}{p:Option Pl}{b:Nat}(h:β.free b)(hp:∀ q,p=some q->q.blk≠some b):Pla.free (up β i p) b:=fun j q hq=>by
 by_cases hj:j=i
 .subst hj;rw[up_same] at hq;exact hp q hq
 .rw[up_ne _ _ hj] at hq;exact h j q hq
theorem R.sw{β:Pla}{w:World}{l:Nat}(hF:F l)(o:Obj){d:D}{v:Value}(h:R F β w d v):R F β (w.putObj l o) d v:=
 h.gen (by simp) (fun b _ hb hf=>⟨same_of (World.putObj_heap_other fun e=>hb (e▸hF)),hf,hb⟩) fun _ _ _ h=>.inl h
theorem RowR.sw{β:Pla}{w:World}{l:Nat}(hF:F l)(o:Obj){r:Row}{p:Pl}(hp:∀ b,p.blk=some b->b≠l)(h:RowR P F β w r p):RowR P F β (w.putObj l o) r p:=
 h.gen (by simp) (fun b _ hb hf=>⟨same_of (World.putObj_heap_other fun e=>hb (e▸hF)),hf,hb⟩) (fun _ _ _ h=>.inl h) fun b hb=>World.putObj_heap_other (hp b hb)
theorem MSim.sw{m:Mem}{β:Pla}{w:World}{l:Nat}(hF:F l)(o:Obj)(h:MSim P F m β w):MSim P F m β (w.putObj l o):=
 ⟨fun i r hi=>by
  obtain⟨p,hp,hr⟩:=h.row i r hi
  exact⟨p,hp,hr.sw hF o fun b hb e=>h.nf i p b hp hb (e▸hF)⟩,h.inj,fun i p b hp hb=>by simpa using h.lt i p b hp hb,h.nf,fun b hb=>by simpa using h.fb b hb⟩
theorem eU.sw{st:St}{β:Pla}{w:World}{a:Act}{l:Nat}(hF:F l)(o:Obj)(h:eU P F st β w a):eU P F st β (w.putObj l o) a:=
 ⟨fun t=>(h.e t).sw hF o,h.m.sw hF o,h.n⟩
theorem R.weak{F':Nat->Prop}(hF:∀ b,F' b->F b){β:Pla}{w:World}{d:D}{v:Value}(h:R F β w d v):R F' β w d v:=
 h.gen (Nat.le_refl _) (fun b _ hb hf=>⟨SameB.refl w b,hf,fun e=>hb (hF b e)⟩) fun _ _ _ h=>.inl h
theorem MSim.weak{F':Nat->Prop}(hF:∀ b,F' b->F b){m:Mem}{β:Pla}{w:World}(h:MSim P F m β w):MSim P F' m β w:=
 ⟨fun i r hi=>by
  obtain⟨p,hp,hr⟩:=h.row i r hi
  exact⟨p,hp,hr.gen (Nat.le_refl _) (fun b _ hb hf=>⟨SameB.refl w b,hf,fun e=>hb (hF b e)⟩) (fun _ _ _ h=>.inl h) fun _ _=>rfl⟩,h.inj,h.lt,fun i p b hp hb e=>h.nf i p b hp hb (hF b e),fun b hb=>h.fb b (hF b hb)⟩
theorem Ni{β:Pla}{b:Nat}(h:¬ β.free b):∃ i p,β i=some p/\p.blk=some b:=by
 unfold Pla.free at h
 simp only[Classical.not_forall] at h
 obtain⟨i,p,hp,hb⟩:=h
 exact⟨i,p,hp,Decidable.not_not.1 hb⟩
structure View(il n₀:Nat)(f:Nat->Option Nat)(mc:Mem)(nc:Nat)(m:Mem)(nx:Nat):Prop where
 low:n₀<=nc
 lt:il<nx
 id:∀ i,i<n₀->f i=some i
 z6:∀ i,i<nc->∃ j,f i=some j/\j<nx/\j≠il
 out:∀ i,nc<=i->f i=none
 inj:∀ i i' j,f i=some j->f i'=some j->i=i'
 rows:∀ i r,mc i=some r->∃ j,f i=some j/\m j=some (r.renB f)
theorem View.vF{il n₀:Nat}{f:Nat->Option Nat}{mc:Mem}{nc:Nat}{m:Mem}{nx:Nat}(h:View il n₀ f mc nc m nx){i j:Nat}(hf:f i=some j):i<nc/\j<nx/\j≠il:=by
 rcases Nat.lt_or_ge i nc with aj|aZ
 .obtain⟨j',h1,h2,h3⟩:=h.z6 i aj
  rw[hf] at h1;cases h1
  exact⟨aj,h2,h3⟩
 .rw[h.out i aZ] at hf;cases hf
theorem View.ext{il n₀:Nat}{f:Nat->Option Nat}{mc:Mem}{nc:Nat}{m m':Mem}{nx nx':Nat}(h:View il n₀ f mc nc m nx)(hle:nx<=nx')(he:∀ i,i<nx->m' i=m i):View il n₀ f mc nc m' nx':=
 ⟨h.low,Nat.lt_of_lt_of_le h.lt hle,h.id,fun i hi=>by
  obtain⟨j,h1,h2,h3⟩:=h.z6 i hi
  exact⟨j,h1,by omega,h3⟩,h.out,h.inj,fun i r hi=>by
  obtain⟨j,h1,h2⟩:=h.rows i r hi
  exact⟨j,h1,(he j (h.vF h1).2.1).trans h2⟩⟩
theorem Yu{f:Nat->Option Nat}{m:Mem}{β:Pla}{w:World}(hm:MSim P F m β w){b:Nat}(h:hidden F β f b):b<w.heap.size:=by
 rcases h with h|⟨h,_⟩
 .exact hm.fb b h
 .obtain⟨i,p,hp,hb⟩:=Ni h
  exact hm.lt i p b hp hb
theorem View.enter{il n₀:Nat}{f:Nat->Option Nat}{mc:Mem}{nc:Nat}{m:Mem}{nx:Nat}(h:View il n₀ f mc nc m nx){β:Pla}{w:World}(hm:MSim P F m β w):
 MSim P (hidden F β f) mc (β.via f) w/\∀ i,nc<=i->(β.via f) i=none:=by
 have look:∀ i p,(β.via f) i=some p->∃ j,f i=some j/\β j=some p:=fun i p hp=>Option.bind_eq_some_iff.1 hp
 refine⟨⟨fun i r hi=>?_,fun i i' p q b hp hq e e'=>?_,fun i p b hp e=>?_,fun i p b hp e hF=>?_,fun b hb=>Yu hm hb⟩,fun i hi=>?_⟩
 .obtain⟨j,h1,h2⟩:=h.rows i r hi
  obtain⟨p,hp,hr⟩:=hm.row j _ h2
  exact⟨p,by simp[Pla.via,h1,hp],hr.seen⟩
 .obtain⟨j,h1,h2⟩:=look i p hp
  obtain⟨j',h3,h4⟩:=look i' q hq
  have:=hm.inj j j' p q b h2 h4 e e'
  subst this
  exact h.inj i i' j h1 h3
 .obtain⟨j,h1,h2⟩:=look i p hp
  exact hm.lt j p b h2 e
 .obtain⟨j,h1,h2⟩:=look i p hp
  rcases hF with hF|⟨_,hF⟩
  .exact hm.nf j p b h2 e hF
  .exact hF i p hp e
 .simp[Pla.via,h.out i hi]
theorem MSim.zd{m:Mem}{β:Pla}{w:World}{i l:Nat}{o:Obj}(h:MSim P F m β w)(hm:m i=some (.raw l o)):β i=some (.raw l)/\w.heap[l]? =some o/\¬ F l/\l<w.heap.size:=by
 obtain⟨p,hp,hr⟩:=h.row i _ hm
 cases hr with
 |raw _ _ hc=>exact⟨hp,hc,h.nf i _ l hp rfl,h.lt i _ l hp rfl⟩
theorem View.D7{il n₀:Nat}{f:Nat->Option Nat}{mc:Mem}{nc:Nat}{m:Mem}{nx:Nat}(h:View il n₀ f mc nc m nx){β:Pla}{w:World}(hm:MSim P F m β w){j:Nat}{p:Pl}{b:Nat}(hj:∀ i,f i≠some j)(hp:β j=some p)(hb:p.blk=some b):
 (β.via f).free b/\hidden F β f b:=by
 have lL:(β.via f).free b:=fun i q hq e=>by
  obtain⟨j',h1,h2⟩:=Option.bind_eq_some_iff.1 hq
  exact hj i (hm.inj j' j q p b h2 hp e hb▸h1)
 exact⟨lL,.inr ⟨fun e=>e j p hp hb,lL⟩⟩
structure sj(l:Nat)(β:Pla)(w:World)(β':Pla)(w':World):Prop where
 size:w.heap.size<=w'.heap.size
 imm:∀ b,b<w.heap.size->b≠l->β.free b->w'.heap[b]? =w.heap[b]? /\β'.free b
 keep:∀ i p,β i=some p->β' i=some p\/β' i=some .dead
 out:Out w w'
theorem Step.x{β β':Pla}{w w':World}(h:Step β w β' w')(l:Nat):sj l β w β' w':=⟨h.size,fun b hb _=>h.imm b hb,h.keep,h.out⟩
theorem sj.trans{l:Nat}{β₁ β₂ β₃:Pla}{w₁ w₂ w₃:World}(h:sj l β₁ w₁ β₂ w₂)(k:sj l β₂ w₂ β₃ w₃):sj l β₁ w₁ β₃ w₃:=by
 refine⟨Nat.le_trans h.size k.size,fun b hb aA hf=>?_,fun i p hp=>?_,h.out.trans k.out⟩
 .obtain⟨h1,h2⟩:=h.imm b hb aA hf
  obtain⟨k1,k2⟩:=k.imm b (Nat.lt_of_lt_of_le hb h.size) aA h2
  exact⟨k1.trans h1,k2⟩
 .rcases h.keep i p hp with h1|h1
  .exact k.keep i p h1
  .right
   rcases k.keep i _ h1 with h2|h2<;>exact h2
theorem sj.put(l:Nat)(β:Pla)(w:World)(o:Obj):sj l β w β (w.putObj l o):=⟨by simp,fun b _ aA hf=>⟨World.putObj_heap_other aA,hf⟩,fun _ _ h=>.inl h,rfl,rfl⟩
theorem MB{n j:Nat}{f:Nat->Option Nat}(ajS:∀ i i' j,f i=some j->f i'=some j->i=i'):
 (∀ i,(List.range n).find? (fun i=>f i==some j)=some i->f i=some j/\i<n)/\(∀ i,i<n->f i=some j->(List.range n).find? (fun i=>f i==some j)=some i):=by
 refine⟨fun i hi=>⟨by simpa using List.find?_some hi,by simpa using List.mem_of_find?_eq_some hi⟩,fun i hi hf=>?_⟩
 cases h:(List.range n).find? (fun i=>f i==some j) with
 |none=>
  have:=List.find?_eq_none.1 h i (by simpa using hi)
  simp[hf] at this
 |some k=>rw[ajS i k j hf (by simpa using List.find?_some h)]
theorem View.acS{il n₀:Nat}{f:Nat->Option Nat}{mc:Mem}{nc:Nat}{m:Mem}{nx:Nat}(h:View il n₀ f mc nc m nx){β:Pla}{w:World}(hm:MSim P F m β w)(hn:∀ i,nx<=i->β i=none){l:Nat}{o o':Obj}(hl:m il=some (.raw l o))
 {m':Mem} {oQ:Nat} {β':Pla} {w':World} (je:MSim P (hidden F β f) m' β' w') (hs:sj l (β.via f) w β' w') (cM:∀ i,oQ<=i->β' i=none) (hle:nc<=oQ) (hg:∀ i,i<nc->(β.via f) i=none->β' i=none) (ho:w'.heap[l]? =some o'):
 ∃ f' jY pM jf,View il n₀ f' m' oQ jY pM/\jY il=some (.raw l o')/\MSim P F jY jf w'/\(∀ i,pM<=i->jf i=none)/\Step β w jf w'/\nx<=pM/\∀ i,i<nx->β i=none->jf i=none:=by
 obtain⟨KD,nL,hFl,aj⟩:=hm.zd hl
 let f':Nat->Option Nat:=fun i=>if i<nc then f i else if i<oQ then some (nx+(i - nc)) else none
 have BN:∀ i,i<nc->f' i=f i:=fun i hi=>by simp[f',hi]
 have Iv:∀ i,nc<=i->i<oQ->f' i=some (nx+(i - nc)):=fun i h1 h2=>by simp[f',h2,Nat.not_lt.2 h1]
 have R6:∀ i,oQ<=i->f' i=none:=fun i h1=>by simp[f',Nat.not_lt.2 h1,Nat.not_lt.2 (Nat.le_trans hle h1)]
 have wY:∀ i j,f' i=some j->(f i=some j/\i<nc/\j<nx)\/(nc<=i/\i<oQ/\j=nx+(i - nc)):=fun i j hf=>by
  rcases Nat.lt_or_ge i nc with h1|h1
  .rw[BN i h1] at hf;exact .inl ⟨hf,h.vF hf |>.1,(h.vF hf).2.1⟩
  .rcases Nat.lt_or_ge i oQ with h2|h2
   .rw[Iv i h1 h2] at hf;cases hf;exact .inr ⟨h1,h2,rfl⟩
   .rw[R6 i h2] at hf;cases hf
 have Iw:∀ i i' j,f' i=some j->f' i'=some j->i=i':=fun i i' j h1 h2=>by
  rcases wY i j h1 with⟨a1,a2,a3⟩|⟨a1,a2,a3⟩<;>rcases wY i' j h2 with⟨b1,b2,b3⟩|⟨b1,b2,b3⟩
  .exact h.inj i i' j a1 b1
  .omega
  .omega
  .omega
 let inv:Nat->Option Nat:=fun j=>(List.range oQ).find? fun i=>f' i==some j
 have xI:∀ i j,inv j=some i->f' i=some j:=fun i j hi=>((MB Iw).1 i hi).1
 have Jj:∀ i j,f' i=some j->inv j=some i:=fun i j hf=>(MB Iw).2 i (by rcases wY i j hf with h1|h1<;>omega) hf
 have ajT:∀ j,inv j=none->∀ i,f i≠some j:=fun j hj i hf=>by
  have:=Jj i j (by rw[BN i (h.vF hf).1];exact hf)
  rw[hj] at this;cases this
 let jf:Pla:=fun j=>match inv j with|some i=>β' i|none=>β j
 let jY:Mem:=fun j=>match inv j with|some i=>(m' i).map (Row.renB f')|none=>if j=il then some (.raw l o') else m j
 have βs:∀ i j,f' i=some j->jf j=β' i:=fun i j hf=>by simp[jf,Jj i j hf]
 have βn:∀ j,inv j=none->jf j=β j:=fun j hj=>by simp[jf,hj]
 have abL:inv il=none:=by
  cases hi:inv il with
  |none=>rfl
  |some i=>
   rcases wY i il (xI i il hi) with⟨a1,a2,a3⟩|⟨a1,a2,a3⟩
   .exact absurd rfl (h.vF a1).2.2
   .have:=h.lt;omega
 have via:jf.via f'=β':=by
  funext i
  simp only[Pla.via]
  cases hf:f' i with
  |some j=>exact βs i j hf
  |none=>
   rcases Nat.lt_or_ge i oQ with h1|h1
   .rcases Nat.lt_or_ge i nc with h2|h2
    .obtain⟨j,h3,_⟩:=h.z6 i h2
     rw[BN i h2,h3] at hf;cases hf
    .rw[Iv i h2 h1] at hf;cases hf
   .exact(cM i h1).symm
 have look:∀ j p,jf j=some p->(∃ i,inv j=some i/\f' i=some j/\β' i=some p)\/(inv j=none/\β j=some p):=fun j p hp=>by
  cases hi:inv j with
  |some i=>exact .inl ⟨i,rfl,xI i j hi,by rw[<- βs i j (xI i j hi)];exact hp⟩
  |none=>exact .inr ⟨rfl,by rw[<- βn j hi];exact hp⟩
 have ajU:∀ b,β.free b->b≠l:=fun b hb e=>hb il _ KD (e▸rfl)
 have imm:∀ b,b<w.heap.size->β.free b->w'.heap[b]? =w.heap[b]? /\jf.free b:=fun b hb hf=>by
  obtain⟨h1,h2⟩:=hs.imm b hb (ajU b hf) (Pla.free_via hf f)
  refine⟨h1,fun j p hp=>?_⟩
  rcases look j p hp with⟨i,_,_,h4⟩|⟨_,h4⟩
  .exact h2 i p h4
  .exact hf j p h4
 have keep:∀ j p,β j=some p->jf j=some p\/jf j=some .dead:=fun j p hp=>by
  cases hi:inv j with
  |none=>exact .inl ((βn j hi).trans hp)
  |some i=>
   have hf:=xI i j hi
   rw[βs i j hf]
   rcases wY i j hf with⟨a1,a2,a3⟩|⟨a1,a2,a3⟩
   .exact hs.keep i p (by simp[Pla.via,a1,hp])
   .rw[hn j oG] at hp;cases hp
 have own:∀ j p b,inv j=none->β j=some p->p.blk=some b->hidden F β f b/\(b≠l->b<w.heap.size/\w'.heap[b]? =w.heap[b]?):=fun j p b hj hp hb=>by
  obtain⟨h1,h2⟩:=h.D7 hm (ajT j hj) hp hb
  exact⟨h2,fun aA=>⟨hm.lt j p b hp hb,(hs.imm b (hm.lt j p b hp hb) aA h1).1⟩⟩
 refine⟨f',jY,nx+(oQ - nc),jf,⟨Nat.le_trans h.low hle,by have:=h.lt;omega,fun i hi=>?_,fun i hi=>?_,R6,Iw,fun i r hi=>?_⟩,?_,⟨fun j r hj=>?_,fun i j p q b hp hq e e'=>?_,fun j p b hp e=>?_,fun j p b hp e hF=>?_,fun b hb=>?_⟩,fun i hi=>?_,⟨hs.size,imm,keep,hs.out⟩,by omega,fun i hi hb=>?_⟩
 .rw[BN i (Nat.lt_of_lt_of_le hi h.low)];exact h.id i hi
 .rcases Nat.lt_or_ge i nc with h1|h1
  .obtain⟨j,h2,h3,h4⟩:=h.z6 i h1
   exact⟨j,by rw[BN i h1];exact h2,by omega,h4⟩
  .exact⟨_,Iv i h1 hi,by omega,by have:=h.lt;omega⟩
 .obtain⟨p,hp,_⟩:=je.row i r hi
  have:∃ j,f' i=some j:=by
   rw[<- via] at hp
   obtain⟨j,h1,_⟩:=Option.bind_eq_some_iff.1 hp
   exact⟨j,h1⟩
  obtain⟨j,hj⟩:=this
  exact⟨j,hj,by simp[jY,Jj i j hj,hi]⟩
 .simp[jY,abL]
 .cases hi:inv j with
  |some i=>
   simp only[jY,hi,Option.map_eq_some_iff] at hj
   obtain⟨r0,x9,rfl⟩:=hj
   obtain⟨p,hp,hr⟩:=je.row i r0 x9
   refine⟨p,(βs i j (xI i j hi)).trans hp,RowR.hide (F':=hidden F β f) (by rw[via];exact hr) (fun b hb=>.inl hb) fun b g1 g2=>?_⟩
   obtain⟨k,q,hq,VG⟩:=Ni g1
   rcases look k q hq with⟨i',_,_,h4⟩|⟨h3,h4⟩
   .exact absurd VG (g2 i' q (by rw[via];exact h4))
   .exact(own k q b h3 h4 VG).1
  |none=>
   simp only[jY,hi] at hj
   split at hj
   .rename_i e
    subst e
    cases hj
    exact⟨.raw l,(βn j hi).trans KD,.raw l o' ho⟩
   .rename_i aA
    obtain⟨p,hp,hr⟩:=hm.row j r hj
    refine⟨p,(βn j hi).trans hp,hr.gen hs.size (fun b hb g1 g2=>⟨same_of (imm b hb g2).1,(imm b hb g2).2,g1⟩) (fun i p _=>keep i p) fun b hb=>?_⟩
    exact((own j p b hi hp hb).2 fun e=>aA (hm.inj j il p _ b hp KD hb (e▸rfl))).2
 .rcases look i p hp with⟨i',a1,a2,a3⟩|⟨a1,a2⟩<;>rcases look j q hq with⟨j',b1,b2,b3⟩|⟨b1,b2⟩
  .have:=je.inj i' j' p q b a3 b3 e e'
   subst this
   rw[a2] at b2;cases b2;rfl
  .exact absurd (own j q b b1 b2 e').1 (je.nf i' p b a3 e)
  .exact absurd (own i p b a1 a2 e).1 (je.nf j' q b b3 e')
  .exact hm.inj i j p q b a2 b2 e e'
 .rcases look j p hp with⟨i',a1,a2,a3⟩|⟨a1,a2⟩
  .exact je.lt i' p b a3 e
  .exact Nat.lt_of_lt_of_le (hm.lt j p b a2 e) hs.size
 .rcases look j p hp with⟨i',a1,a2,a3⟩|⟨a1,a2⟩
  .exact je.nf i' p b a3 e (.inl hF)
  .exact hm.nf j p b a2 e hF
 .exact Nat.lt_of_lt_of_le (hm.fb b hb) hs.size
 .cases dC:inv i with
  |none=>exact(βn i dC).trans (hn i oG)
  |some i0=>
   rcases wY i0 i (xI i0 i dC) with⟨a1,a2,a3⟩|⟨a1,a2,a3⟩<;>omega
 .cases dC:inv i with
  |none=>exact(βn i dC).trans hb
  |some i0=>
   have hf:=xI i0 i dC
   rw[βs i0 i hf]
   rcases wY i0 i hf with⟨a1,a2,a3⟩|⟨a1,a2,a3⟩
   .exact hg i0 a2 (by simp[Pla.via,a1,hb])
   .omega
theorem Mg{β:Pla}{w:World}:∀ (ts:List Tmp) (ds:List D) (vs:List Value) (env:Env) (tmps:Array Value),vs.length=ds.length->(∀ (k:Nat) (d:D) (v:Value),ds[k]? =some d->vs[k]? =some v->R F β w d v)->
 (∀ t,t∈ts->t<tmps.size)->ESim F β w env { tmps:=tmps,defers:=[] }->
 ESim F β w (setAll env ts ds) { tmps:=(ts.zip vs).foldl (fun tmps (t,a)=>tmps.setIfInBounds t a) tmps,defers:=[] }/\((ts.zip vs).foldl (fun tmps (t,a)=>tmps.setIfInBounds t a) tmps).size=tmps.size
 |[],_,_,env,tmps,_,_,_,h=>by simpa[setAll] using h
 |_::_,[],[],env,tmps,_,_,_,h=>by simpa[setAll] using h
 |_::_,[],_::_,_,_,hl,_,_,_=>by simp at hl
 |_::_,_::_,[],_,_,hl,_,_,_=>by simp at hl
 |t::ts,d::ds,v::vs,env,tmps,hl,hR,aj,h=>by
  have h1:ESim F β w (up env t d) { tmps:=tmps.setIfInBounds t v,defers:=[] }:=by
   have:=h.put (some t) d v (hR 0 d v rfl rfl) (fun u hu=>by cases hu;exact aj t (by simp))
   simpa[Act.put,up] using this
  have:=Mg ts ds vs (up env t d) (tmps.setIfInBounds t v) (by simpa using hl) (fun k d v hd hv=>hR (k+1) d v (by simpa using hd) (by simpa using hv)) (fun u hu=>by simpa using aj u (by simp[hu])) h1
  simp only[setAll,List.zip_cons_cons,List.foldl_cons]
  exact⟨this.1,by rw[this.2];simp⟩
theorem AJ{c:Code}{b:Frame}{a:Act}{k:List Item}{cs:List Frame}{w:World}:step P (lone (b.atR a (.code (.scope c)::k)) cs w)=.next (lone (b.atR a (.code c::.inScope c::k)) cs w):=
 step_lone_go (by simp[stepG,stepG.exec,Frame.atR])
theorem Xh{c:Code}{b:Frame}{a:Act}{k:List Item}{cs:List Frame}{w:World}:step P (lone (b.atR a (.inScope c::k)) cs w)=.next (lone (b.atR a k) cs w):=
 step_lone_go (by simp[stepG,stepG.exec,Frame.atR])
theorem Du{I:Machine->Prop}{m:Machine}{b:Frame}{c:Code}{k:List Item}{cs:List Frame}{e:Exit}{a:Act}{w:World}
 (hn:e≠ .normal) (hg:∀ l,e≠ .goto l) (h:ArrivesIn I P m b (.inScope c::k) cs e a w):ArrivesIn I P m b k cs e a w:=by
 cases e with
 |normal=>exact absurd rfl hn
 |exit id=>exact⟨fun k' hk=>h.1 k' (by simp[exitTo,hk]),fun hr hk=>h.2 hr (by simp[exitTo,hk])⟩
 |goto l=>exact absurd rfl (hg l)
 |ret=>exact h
 |panic chain=>exact h
 |outgrown=>exact h
theorem XK{Fc:Fence}{n:Nat}{Q:Exit->Act->World->Prop}{a:Act}{w:World}{c:Code}(h:c.wpIn Fc n P (Exit.noGoto Q) a w):(Code.scope c).wpIn Fc n P Q a w:=by
 intro b k cs KC hb hr
 have h0:(lone (b.atR a (.code (.scope c)::k)) cs w).fenced P Fc:=fenced_calm hb hr rfl
 obtain⟨e,a₁,w₁,hq,lS⟩:=h b (.inScope c::k) cs KC hb hr
 cases e with
 |normal=>exact⟨.normal,a₁,w₁,hq,.head h0 AJ (StepsIn.trans lS (.one (fenced_calm hb hr rfl) Xh))⟩
 |goto l=>exact hq.elim
 |exit id=>exact⟨.exit id,a₁,w₁,hq,.of_steps (.one h0 AJ) (Du (c:=c) (by simp) (by simp) lS)⟩
 |ret=>exact⟨.ret,a₁,w₁,hq,.of_steps (.one h0 AJ) (Du (c:=c) (by simp) (by simp) lS)⟩
 |panic ch=>exact⟨.panic ch,a₁,w₁,hq,.of_steps (.one h0 AJ) (Du (c:=c) (by simp) (by simp) lS)⟩
 |outgrown=>exact⟨.outgrown,a₁,w₁,hq,.of_steps (.one h0 AJ) (Du (c:=c) (by simp) (by simp) lS)⟩
def Jump(env:Env)(Q:Exit->St->Prop):Code->Mem->Nat->Prop
 | .ret,m,nx=>Q .ret ⟨env,m,nx⟩
 | .exit id,m,nx=>Q (.exit id) ⟨env,m,nx⟩
 |_,_,_=>False
def y8(il l:Nat)(n₀:Nat)(o:Obj)(I:Mem->Nat->Prop)(m:Mem)(nx:Nat):Prop:=∃ f mc nc,View il n₀ f mc nc m nx/\m il=some (.raw l o)/\I mc nc
theorem y8.closed{il l n₀:Nat}{o:Obj}{I:Mem->Nat->Prop}:Closed (y8 il l n₀ o I):=by
 rintro m nx m' nx' ⟨f,mc,nc,h1,h2,h3⟩ hle he
 exact⟨f,mc,nc,h1.ext hle he,(he il h1.lt).trans h2,h3⟩
theorem Yv(ps:Array Tmp)(us:Array Value)(tmps:Array Value):
 (ps.zip us).foldl (fun tmps (t,a)=>tmps.setIfInBounds t a) tmps=(ps.toList.zip us.toList).foldl (fun tmps (t,a)=>tmps.setIfInBounds t a) tmps:=by
 rw[<- Array.foldl_toList]
 simp
theorem Xi{β:Pla}{w:World}{a:Act}{g:Operand}{f:FuncId}{fs cs:List D}(hR:R F β w (.fn (.func f) fs cs) (a.eval g))(he:enterOk P f=true)(l:Nat)(w':World):
 ∃ (us vs:List Value) (d:Deferred),us.length=fs.length/\vs.length=cs.length/\(∀ (k:Nat) (d:D) (v:Value),fs[k]? =some d->us[k]? =some v->R F β w d v)/\(∀ (k:Nat) (d:D) (v:Value),cs[k]? =some d->vs[k]? =some v->R F β w d v)/\
  (resolve a.eval (rangeCall g l) 0).run P w'=.ok d w'/\(invoke d.target d.args).run P w'=.ok (.enter f (us.toArray++ #[.func (.yield l) #[] #[]]++vs.toArray)) w':=by
 generalize hv:a.eval g=v at hR
 cases hR with
 |fn _ _ _ us vs hl iJ hh FI=>
 refine⟨us,vs,{ target:=.fn (.func f) vs.toArray,args:=us.toArray++ #[.func (.yield l) #[] #[]] },hl,iJ,hh,FI,?_,?_⟩
 .simp only[resolve,hv,Sem.run_bind,Deferred.ofValue]
  simp[go_sem]
 .simp only[invoke]
  unfold callFunc
  unfold enterOk at he
  simp only[Sem.run_bind,run_program,Result.andThen_ok]
  split at he
  .rename_i fn pZ
   simp only[Bool.and_eq_true,Bool.not_eq_true'] at he
   have hb:fn.body.isNone=false:=by
    cases hbb:fn.body<;>simp_all
   rw[pZ]
   simp only[he.1,hb,Bool.false_eq_true,if_false,Sem.run_pure]
  .cases he
theorem Rs.append{β:Pla}{w:World}{aS bs:List D}{xs ys:Array Value}(h:Rs F β w aS xs)(k:Rs F β w bs ys):Rs F β w (aS++bs) (xs++ys):=by
 refine⟨by simp[h.1,k.1],fun j d v hd hv=>?_⟩
 rcases Nat.lt_or_ge j aS.length with hj|hj
 .rw[List.getElem?_append_left hj] at hd
  rw[Array.getElem?_append_left (by rw[h.1];exact hj)] at hv
  exact h.2 j d v hd hv
 .rw[List.getElem?_append_right hj] at hd
  rw[Array.getElem?_append_right (by rw[h.1];exact hj),h.1] at hv
  exact k.2 _ d v hd hv
theorem ZA(mI:P.follows .mixedOrders=true):∀ (c:Code) (F:Nat->Prop) (r:Option Nat) (n:Nat) (Y:YSpec) (rf:Bool) (N₀:Nat) (β₀:Pla) (w₀:World) (a₀:Act),(rf=true->r=none)->
 (∀ l args m nx K,Y l args m nx K->YCall P F β₀ w₀ l args m nx K)->jN a₀.tmps.size c=true->∀ (Q:Exit->St->Prop) (st:St) (β:Pla) (w:World) (a:Act),
 AW P Y rf c Q st->eU P F st β w a->p0 N₀ β₀ w₀ a₀ st β w a->c.wpIn (Fe r) n P (acR P F N₀ β₀ w₀ a₀ Q) a w:=by
 intro c
 induction c with
 |skip=>exact fun F r n Y rf N₀ β₀ w₀ a₀ iK hY _ Q st β w a h hs cC=>wpIn_skip ⟨st,β,h,hs,cC⟩
 |ret=>exact fun F r n Y rf N₀ β₀ w₀ a₀ iK hY _ Q st β w a h hs cC=>wpIn_ret ⟨st,β,h,hs,cC⟩
 |exit id=>exact fun F r n Y rf N₀ β₀ w₀ a₀ iK hY _ Q st β w a h hs cC=>wpIn_exit ⟨st,β,h,hs,cC⟩
 |label l=>exact fun F r n Y rf N₀ β₀ w₀ a₀ iK hY _ Q st β w a h hs cC=>wpIn_label ⟨st,β,h,hs,cC⟩
 |region id ops draw=>
  intro F r n Y rf N₀ β₀ w₀ a₀ iK hY aj Q st β w a h hs cC
  have xJ:xC a.tmps.size ops=true:=by rw[cC.size];exact aj
  cases draw with
  |false=>
   refine wpIn_mono (Xv (N:=st.nx) (β₀:=β) (w₀:=w) (a₀:=a) (fun l args m nx K hy=>(hY l args m nx K hy).base cC.step) xJ h hs (gV.refl st β w a)) fun e a' w' hp=>?_
   obtain⟨st',β',hq,dZ,gA⟩:=hp
   exact⟨st',β',hq,dZ,cC.since gA⟩
  |true=>
   simp only[AW] at h
   split at h
   .rename_i cf rh
    refine wpIn_mono (Xw (N₀:=st.nx) (β₀:=β) (w₀:=w) (a₀:=a) mI rh xJ h hs (gV.refl st β w a)) fun e a' w' hp=>?_
    obtain⟨st',β',hq,dZ,gA⟩:=hp
    exact⟨st',β',hq,dZ,cC.since gA⟩
   .exact h.elim
 |seq x y FK FL=>
  intro F r n Y rf N₀ β₀ w₀ a₀ iK hY aj Q st β w a h hs cC
  simp only[jN,Bool.and_eq_true] at aj
  refine wpIn_seq (wpIn_mono (FK F r n Y rf N₀ β₀ w₀ a₀ iK hY aj.1 _ st β w a h hs cC) fun e a' w' hp=>?_)
  obtain⟨st',β',hq,dZ,gA⟩:=hp
  cases e with
  |normal=>
   obtain⟨iE,hg,hy⟩:=hq
   obtain⟨jf,xK,Ix⟩:=L7 hg dZ
   exact FL F r n Y rf N₀ β₀ w₀ a₀ iK hY aj.2 Q iE jf w' a' hy xK (gA.since Ix)
  |_=>exact⟨st',β',hq,dZ,gA⟩
 |cond c x y FK FL=>
  intro F r n Y rf N₀ β₀ w₀ a₀ iK hY aj Q st β w a h hs cC
  simp only[jN,Bool.and_eq_true] at aj
  obtain⟨ha,h⟩:=h
  have hR:=(hs.e.opd c).core_of _ ha
  split at h
  .rename_i t ht
   rw[ht] at hR
   exact wpIn_cond_split hR.s_inv.1 (fun e=>FK F r n Y rf N₀ β₀ w₀ a₀ iK hY aj.1 Q st β w a (h.1 e) hs cC) fun e=>FL F r n Y rf N₀ β₀ w₀ a₀ iK hY aj.2 Q st β w a (h.2 e) hs cC
  .rename_i ht
   rw[ht] at hR
   obtain⟨b,hb⟩:=hR.ub_inv
   exact wpIn_cond_split hb (fun _=>FK F r n Y rf N₀ β₀ w₀ a₀ iK hY aj.1 Q st β w a h.1 hs cC) fun _=>FL F r n Y rf N₀ β₀ w₀ a₀ iK hY aj.2 Q st β w a h.2 hs cC
  .exact h.elim
 |scope b ih=>
  intro F r n Y rf N₀ β₀ w₀ a₀ iK hY aj Q st β w a h hs cC
  refine XK (wpIn_mono (ih F r n Y rf N₀ β₀ w₀ a₀ iK hY aj _ st β w a h hs cC) fun e a' w' hp=>?_)
  obtain⟨st',β',hq,dZ,gA⟩:=hp
  cases e with
  |goto l=>exact hq.elim
  |_=>exact⟨st',β',hq,dZ,gA⟩
 |block id b ih=>
  intro F r n Y rf N₀ β₀ w₀ a₀ iK hY aj Q st β w a h hs cC
  refine wpIn_block (wpIn_mono (ih F r n Y rf N₀ β₀ w₀ a₀ iK hY aj _ st β w a h hs cC) fun e a' w' hp=>?_)
  obtain⟨st',β',hq,dZ,gA⟩:=hp
  cases e with
  |exit i=>
   simp only[blockQ] at hq
   simp only[Exit.inBlock]
   split at hq
   .rename_i hi
    rw[if_pos hi]
    exact⟨st',β',hq,dZ,gA⟩
   .rename_i hi
    rw[if_neg hi]
    exact⟨st',β',hq,dZ,gA⟩
  |_=>exact⟨st',β',hq,dZ,gA⟩
 |loop b ih=>
  intro F r n Y rf N₀ β₀ w₀ a₀ iK hY aj Q st β w a h hs cC
  obtain⟨I,μ,hI,y9⟩:=h
  refine Xg (fun j a w=>∃ st β,I st/\μ st=j/\eU P F st β w a/\p0 N₀ β₀ w₀ a₀ st β w a) ⟨st,β,hI,rfl,hs,cC⟩ ?_
  rintro j a w ⟨st,β,hI,hμ,hs,cC⟩
  refine wpIn_mono (ih F r n Y rf N₀ β₀ w₀ a₀ iK hY aj _ st β w a (y9 st hI) hs cC) fun e a' w' hp=>?_
  obtain⟨st',β',hq,dZ,gA⟩:=hp
  cases e with
  |normal=>
   obtain⟨jA,hg,oR,atH⟩:=hq
   obtain⟨jf,xK,Ix⟩:=L7 hg dZ
   exact⟨μ jA,by omega,jA,jf,oR,rfl,xK,gA.since Ix⟩
  |_=>exact⟨st',β',hq,dZ,gA⟩
 |rangeFunc g ps assign body we wg=>
  intro F r n Y rf N₀ β₀ w₀ a₀ iK hY aj Q st β w a h hs cC
  obtain⟨env,mem,nx⟩:=st
  obtain⟨Jk,nH,f,fs,cs,xs,I,ze,EW,Ey,FM,y9,Ez⟩:=h
  simp only at nH ze FM y9 Ez
  have hr:=iK Jk
  subst hr
  simp only[jN,Bool.and_eq_true,List.all_eq_true,Nat.blt_eq] at aj
  obtain⟨yc,ajV,ajW⟩:=aj
  have bL:a.tmps.size=a₀.tmps.size:=cC.size
  have hR:=(hs.e.opd g).core_of _ nH
  simp only[ze] at hR
  refine wpIn_rangeFunc fun fn pZ=>?_
  obtain⟨rec,tJ⟩:∃ rec:LoopState->Option Code->Loop,rec=fun st pe=>{ state:=st,pending:=pe,fn,tmps:=a.tmps,params:=ps,assign,body,defers:=w.heap.size }:=⟨_,rfl⟩
  obtain⟨W1,Cv⟩:∃ W1,(w.alloc (.deferred (some []))).alloc (.loop (rec .ready none))=W1:=⟨_,rfl⟩
  obtain⟨us,vs,d,KE,sN,hu,hv,fR,hinv⟩:=Xi (P:=P) hR EW.1 (w.heap.size+1) W1
  have hn:∀ i,nx<=i->β i=none:=hs.n
  have hFl:¬ F (w.heap.size+1):=fun e=>by have:=hs.m.fb _ e;omega
  let f₀:Nat->Option Nat:=fun i=>if i<nx then some i else none
  have T7:β.via f₀=β:=by
   funext i
   simp only[Pla.via,f₀]
   split
   .rfl
   .exact(hn i oG).symm
  have yd:MSim P F (fun i=>(mem i).map (Row.renB f₀)) β w:=⟨fun i r hi=>by
   simp only[Option.map_eq_some_iff] at hi
   obtain⟨r0,h1,rfl⟩:=hi
   obtain⟨p,hp,hr⟩:=hs.m.row i r0 h1
   exact⟨p,hp,RowR.hide (F':=F) (by rw[T7];exact hr) (fun _ h=>h) fun b g1 g2=>absurd (T7▸g2) g1⟩,hs.m.inj,hs.m.lt,hs.m.nf,hs.m.fb⟩
  have wi:Step β w β (w.alloc (.deferred (some []))):=step_ext (by simp) fun b hb=>heap_alloc_old w _ hb
  have z7:MSim P F (fun i=>(mem i).map (Row.renB f₀)) β (w.alloc (.deferred (some []))):=yd.ext (by simp) fun b hb=>heap_alloc_old w _ hb
  have hm1:MSim P F (up (fun i=>(mem i).map (Row.renB f₀)) nx (some (.raw (w.heap.size+1) (.loop (rec .ready none))))) (up β nx (some (.raw (w.heap.size+1)))) W1:=by
   rw[<- Cv]
   refine z7.alloc (hn nx (Nat.le_refl _)) _ _ _ (fun b hb=>by simp only[Pl.blk,Option.some.injEq] at hb;simp;omega) (.raw _ _ ?_)
   have:=World.alloc_heap_new (w.alloc (.deferred (some []))) (.loop (rec .ready none))
   rwa[World.size_alloc] at this
  have sO:Step β w (up β nx (some (.raw (w.heap.size+1)))) W1:=by
   rw[<- Cv]
   exact wi.trans (step_alloc z7 _ (hn nx (Nat.le_refl _)) _ (fun b hb=>by simp only[Pl.blk,Option.some.injEq] at hb;simp;omega))
  have hD1:W1.heap[w.heap.size]? =some (.deferred (some [])):=by
   rw[<- Cv]
   rw[heap_alloc_old _ _ (by simp)]
   exact World.alloc_heap_new w _
  have Qb:Pla.free (up β nx (some (.raw (w.heap.size+1)))) w.heap.size:=
   free_other (fun i p hp e=>by have:=hs.m.lt i p _ hp e;omega) (by rintro q hq;cases hq;simp[Pl.blk])
  have atI:W1.heap.size=w.heap.size+2:=by rw[<- Cv];simp
  have aaO:∀ i,nx<=i->mem i=none:=fun i hi=>by
   cases hm:mem i with
   |none=>rfl
   |some row=>
    obtain⟨p,hp,_⟩:=hs.m.row i row hm
    rw[hn i hi] at hp
    cases hp
  have own:∀ {f:Nat->Option Nat} {mc:Mem} {nc:Nat} {m:Mem} {ix:Nat} {β2:Pla} {w2:World},View nx nx f mc nc m ix->Step (up β nx (some (.raw (w.heap.size+1)))) W1 β2 w2->
   ∀ {d:D} {v:Value},R F β w d v->R (hidden F β2 f) (β2.via f) w2 d v:=fun {_ _ _ _ _ _ _} iU aN {d v} h=>by
   have qT:=sO.trans aN
   refine h.gen qT.size (fun b hb hf lL=>?_) fun i p _ hp=>?_
   .obtain⟨g1,g2⟩:=qT.imm b hb lL
    exact⟨same_of g1,Pla.free_via g2 _,fun e=>e.elim hf fun e=>e.1 g2⟩
   .have hi:i<nx:=by
     rcases Nat.lt_or_ge i nx with h1|h1
     .exact h1
     .rw[hn i h1] at hp;cases hp
    simp only[Pla.via,iU.id i hi,Option.bind_some]
    exact qT.keep i p hp
  refine⟨w.heap.size+1,[mark w.heap.size],W1,d,W1,f,_,W1,?_,fR,fun f' _=>trivial,hinv,fun hd=>by simp at hd,Nj ?_⟩
  .rw[<- Cv,tJ];exact run_enterLoop_outer _ _ _ _ _
  refine(EW.2 F (w.heap.size+1) (fun k=>y8 nx (w.heap.size+1) nx (.loop (rec .ready none)) (I k)) (fun m k=>∃ c,y8 nx (w.heap.size+1) nx (.loop (rec .done (some c))) (Jump env Q c) m k)
   (up (fun i=>(mem i).map (Row.renB f₀)) nx (some (.raw (w.heap.size+1) (.loop (rec .ready none))))) (nx+1) (up β nx (some (.raw (w.heap.size+1)))) W1 _ (fun k=>y8.closed) ?_ hm1 ?_ ?_ ?_ ?_).mono ?_
  .rintro m k m' k' ⟨c,hc⟩ hle he
   exact⟨c,y8.closed m k m' k' hc hle he⟩
  .intro i hi
   rw[up_ne _ _ (show i≠nx by omega)]
   exact hn i oG
  .refine Rs.append (Rs.append ?_ ?_) ?_
   .exact⟨by simp[KE],fun k d v hd hv=>(hu k d v hd (by simpa using hv)).step sO⟩
   .refine⟨rfl,fun k d v hd hv=>?_⟩
    cases k with
    |zero=>
     simp only[List.getElem?_cons_zero,Option.some.injEq] at hd
     simp only[List.getElem?_toArray,List.getElem?_cons_zero,Option.some.injEq] at hv
     subst hd;subst hv
     exact .fn _ [] [] [] [] rfl rfl (by simp) (by simp)
    |succ k=>simp at hd
   .exact⟨by simp[sN],fun k d v hd KF=>(hv k d v hd (by simpa using KF)).step sO⟩
  .rintro k x m k' hx ⟨g,mc,nc,iU,jZ,hIk⟩ β2 w2 FN ajX mP z8 Cw
   obtain⟨VH,zf,_,Jl⟩:=mP.zd jZ
   have ajY:FN.size=ps.size:=by rw[Cw.1];exact(Ey x (List.mem_of_getElem? hx)).1
   have hy:=run_yield (P:=P) (args:=FN) zf (by rw[tJ];exact ajY)
   simp only[tJ,Yv] at hy
   refine⟨fn,_,assign,body,hy,fun n'=>?_⟩
   obtain⟨KG,kC⟩:=iU.enter mP
   have Cx:hidden F β2 g (w.heap.size+1):=(iU.D7 mP (fun i e=>(iU.vF e).2.2 rfl) VH rfl).2
   have Qc:(β2.via g).free (w.heap.size+1):=(iU.D7 mP (fun i e=>(iU.vF e).2.2 rfl) VH rfl).1
   have hE2:ESim (hidden F β2 g) (β2.via g) w2 env { tmps:=a.tmps,defers:=[] }:=fun t=>own iU ajX (hs.e t)
   obtain⟨hE3,T8⟩:=Mg ps.toList x FN.toList env a.tmps (by simp[Cw.1]) (fun j d v hd hv=>
    ((Ey x (List.mem_of_getElem? hx)).2 d (List.mem_of_getElem? hd) F β2 w2 v (Cw.2 j d v hd (by simpa using hv))).gen (Nat.le_refl _)
     (fun b _ hb _=>⟨SameB.refl _ b,Pla.free_via (owned_free hb).2 _,fun e=>e.elim (owned_free hb).1 fun e=>e.1 (owned_free hb).2⟩) (fun i p _ hp=>by cases hp)) (fun t ht=>by rw[bL];exact yc t ht) hE2
   have ajZ:=we (hidden F β2 g) (some (w.heap.size+1)) n' noY false nc (β2.via g) w2
    { tmps:=(ps.toList.zip FN.toList).foldl (fun tmps (t,a)=>tmps.setIfInBounds t a) a.tmps,defers:=[] } (by simp) (fun _ _ _ _ _ h=>h.elim) (by show jN (Array.size _) assign=true;rw[T8,bL];exact ajV) _ ⟨setAll env ps.toList x,mc,nc⟩ (β2.via g) w2 _
    (y9 k mc nc x hx hIk) ⟨hE3,KG,kC⟩ (gV.refl ⟨setAll env ps.toList x,mc,nc⟩ _ _ _).FJ
   refine roundIn_of_wpIn trivial (wpIn_mono ajZ fun e a3 w3 hp=>?_)
   obtain⟨jA,β3,VJ,FP,wj⟩:=hp
   cases e with
   |normal=>
    have Iy:w.heap.size+1<w3.heap.size:=Nat.lt_of_lt_of_le Jl wj.step.size
    have acT:w3.heap[w.heap.size+1]? =some (.loop (rec .ready none)):=(wj.step.imm _ Jl Qc).1.trans zf
    refine⟨_,run_beginRound acT (by rw[tJ]),?_⟩
    have aj0:=FP.sw (l:=w.heap.size+1) Cx (.loop { rec .ready none with state:=.busy })
    have acU:=wg (hidden F β2 g) (some (w.heap.size+1)) n' noY false jA.nx β3 _ a3 (by simp) (fun _ _ _ _ _ h=>h.elim) (by rw[wj.size];show jN (Array.size _) body=true;rw[T8,bL];exact ajW) _ jA β3 _ a3 VJ aj0 (gV.refl jA _ _ _).FJ
    refine wpIn_mono acU fun e a4 w4 hp4=>?_
    obtain⟨VK,β4,FQ,VL,Cy⟩:=hp4
    have acV:w.heap.size+1<w4.heap.size:=Nat.lt_of_lt_of_le (by simpa using Iy) Cy.step.size
    have acW:w4.heap[w.heap.size+1]? =some (.loop { rec .ready none with state:=.busy }):=
     (Cy.step.imm _ (by simpa using Iy) (wj.step.imm _ Jl Qc).2).1.trans (World.putObj_heap_same Iy)
    have fin:∀ (jump:Option Code) (K:D->Mem->Nat->Prop),(∀ f' jY pM,View nx nx f' VK.mem VK.nx jY pM->jY nx=some (.raw (w.heap.size+1) (.loop (rec (if jump.isNone then .ready else .done) jump)))->K (.s (.bool jump.isNone)) jY pM)->
     ∃ v w',(Instr.endRound (w.heap.size+1) jump).run P w4=.ok v w'/\∃ v' d m' nx' β',Ending.returned v=.returned v'/\K d m' nx'/\MSim P F m' β' w'/\(∀ i,nx'<=i->β' i=none)/\R F β' w' d v'/\Step β2 w2 β' w'/\k'<=nx'/\∀ i,i<k'->β2 i=none->β' i=none:=fun jump K hK=>by
     have fH:=run_endRound (P:=P) jump acW
     have e1:∀ s p,({ ({ rec .ready none with state:=.busy }:Loop) with state:=s,pending:=p }:Loop)=rec s p:=fun s p=>by rw[tJ]
     rw[e1] at fH
     obtain⟨f',jY,pM,jf,v1,v2,v3,v4,v5,v6,v7⟩:=iU.acS mP z8 jZ (o':=.loop (rec (if jump.isNone then .ready else .done) jump)) (VL.m.sw Cx _)
      (((wj.step.x _).trans (sj.put _ β3 w3 _)).trans ((Cy.step.x _).trans (sj.put _ β4 w4 _))) VL.n (Nat.le_trans wj.le Cy.le) (fun i hi hb=>Cy.grow i (Nat.lt_of_lt_of_le hi wj.le) (wj.grow i hi hb)) (World.putObj_heap_same acV)
     exact⟨_,_,fH,.bool jump.isNone,_,jY,pM,jf,rfl,hK f' jY pM v1 v2,v3,v4,.s _ rfl,v5,v6,v7⟩
    cases e with
    |normal=>exact fin none _ fun f' jY pM v1 v2=>.inl ⟨rfl,f',_,_,v1,v2,FQ⟩
    |ret=>exact fin (some .ret) _ fun f' jY pM v1 v2=>.inr ⟨rfl,.ret,f',_,_,v1,v2,FQ⟩
    |exit id=>exact fin (some (.exit id)) _ fun f' jY pM v1 v2=>.inr ⟨rfl,.exit id,f',_,_,v1,v2,FQ⟩
    |_=>exact FQ.elim
   |_=>exact VJ.elim
  .refine⟨f₀,mem,nx,⟨Nat.le_refl _,by omega,fun i hi=>by simp[f₀,hi],fun i hi=>⟨i,by simp[f₀,hi],by omega,by omega⟩,fun i hi=>by simp[f₀,Nat.not_lt.2 hi],fun i i' j h1 h2=>?_,fun i r hi=>?_⟩,up_same _ _ _,FM⟩
   .simp only[f₀,Option.ite_none_right_eq_some,Option.some.injEq] at h1 h2
    omega
   .have aj:i<nx:=by
     rcases Nat.lt_or_ge i nx with h1|h1
     .exact h1
     .rw[aaO i h1] at hi;cases hi
    exact⟨i,by simp[f₀,aj],by rw[up_ne _ _ (show i≠nx by omega),hi];rfl⟩
  .rintro e w6 ⟨v,d6,m6,nx6,β6,rfl,T9,ua,hn6,_,tK,atJ,aj1⟩
   have fin:∀ {g:Nat->Option Nat} {mc:Mem} {nc:Nat} (o':Obj),View nx nx g mc nc m6 nx6->
    eU P F ⟨env,mc,nc⟩ (β6.via g) (w6.putObj (w.heap.size+1) o') { a with defers:=[mark w.heap.size]++a.defers }/\
    p0 N₀ β₀ w₀ a₀ ⟨env,mc,nc⟩ (β6.via g) (w6.putObj (w.heap.size+1) o') { a with defers:=[mark w.heap.size]++a.defers }:=fun {g mc nc} o' iU=>by
    obtain⟨KG,kC⟩:=iU.enter ua
    have Cx:hidden F β6 g (w.heap.size+1):=by
     have hβ:β6 nx=some (.raw (w.heap.size+1))\/β6 nx=some .dead:=tK.keep nx _ (up_same _ _ _)
     rcases hβ with hβ|hβ
     .exact(iU.D7 ua (fun i e=>(iU.vF e).2.2 rfl) hβ rfl).2
     .exfalso
      rcases T9 with⟨f',mc',oQ,_,Jm,_⟩|⟨c,f',mc',oQ,_,Jm,_⟩
      .rw[(ua.zd Jm).1] at hβ;cases hβ
      .rw[(ua.zd Jm).1] at hβ;cases hβ
    refine⟨⟨fun t=>((own iU tK (hs.e t)).sw Cx o').weak fun b hb=>.inl hb,(KG.sw Cx o').weak fun b hb=>.inl hb,kC⟩,cC.trans ⟨⟨?_,fun b hb hf=>?_,fun i p hp=>?_,(sO.out.trans tK.out).trans ⟨rfl,rfl⟩⟩,iU.low,fun i hi hb=>?_,rfl,[mark w.heap.size],rfl,?_⟩⟩
    .have:=tK.size
     simp;omega
    .obtain⟨g1,g2⟩:=sO.imm b hb hf
     obtain⟨g3,g4⟩:=tK.imm b oG g2
     exact⟨(World.putObj_heap_other oG).trans (g3.trans g1),Pla.free_via g4 _⟩
    .have hi:i<nx:=by
      rcases Nat.lt_or_ge i nx with h1|h1
      .exact h1
      .rw[hn i h1] at hp;cases hp
     simp only[Pla.via,iU.id i hi,Option.bind_some]
     exact(sO.trans tK).keep i p hp
    .have hi:i<nx:=hi
     simp only[Pla.via,iU.id i hi,Option.bind_some]
     exact aj1 i oG (by rw[up_ne _ _ oG];exact hb)
    .refine⟨w.heap.size,rfl,Nat.le_refl _,?_,?_,?_,trivial⟩
     .have:=tK.size
      simp;omega
     .exact(World.putObj_heap_other oG).trans ((tK.imm _ oG Qb).1.trans hD1)
     .exact Pla.free_via (tK.imm _ oG Qb).2 _
   rcases T9 with⟨g,mc,nc,iU,jZ,hI⟩|⟨c,g,mc,nc,iU,jZ,hj⟩
   .have fH:(Instr.endLoop (w.heap.size+1)).run P w6=.ok none (w6.putObj (w.heap.size+1) (.loop (rec .exhausted none))):=by
     have:=run_endLoop (P:=P) (ua.zd jZ).2.1 (by rw[tJ];simp)
     rw[tJ] at this ⊢
     exact this
    obtain⟨g1,g2⟩:=fin (.loop (rec .exhausted none)) iU
    exact⟨none,_,fH,⟨env,mc,nc⟩,_,Ez mc nc hI,g1,g2⟩
   .have fH:(Instr.endLoop (w.heap.size+1)).run P w6=.ok (some c) (w6.putObj (w.heap.size+1) (.loop (rec .exhausted (some c)))):=by
     have:=run_endLoop (P:=P) (ua.zd jZ).2.1 (by rw[tJ];simp)
     rw[tJ] at this ⊢
     exact this
    obtain⟨g1,g2⟩:=fin (.loop (rec .exhausted (some c))) iU
    refine⟨some c,_,fH,?_⟩
    cases c with
    |ret=>exact wpIn_ret ⟨⟨env,mc,nc⟩,_,hj,g1,g2⟩
    |exit id=>exact wpIn_exit ⟨⟨env,mc,nc⟩,_,hj,g1,g2⟩
    |_=>exact hj.elim
 |_=>intro F r n Y rf N₀ β₀ w₀ a₀ iK hY aj Q st β w a h;exact h.elim
end
section
variable{P:Program}{F:Nat->Prop}{fn:Func}
def zr(tmps:Array Value):ResultVar->Sem Value
 | .tmp t=>pure (tmps.getD t undef)
 | .cell x t=>do loadVar t (<- asAddr (tmps.getD x undef))
theorem XN(fn:Func)(tmps:Array Value):results fn tmps=(do
 let vs<- fn.results.mapM (zr tmps)
 pure (if h:vs.size=1 then vs[0] else .tuple vs)):=by
 unfold results
 congr 1
theorem aaV{st:St}{β:Pla}{w:World}{a:Act}(hs:eU P F st β w a){r:ResultVar}{p:Prop}{d:D}(h:resD P st r=some (p,d))(hp:p):
 ∃ v,(zr a.tmps r).run P w=.ok v w/\R F β w d v:=by
 unfold resD at h
 split at h
 .cases h
  exact⟨_,by simp[zr],hs.e _⟩
 .rename_i x t
  have hx:=hs.e x
  split at h
  .rename_i i off sM
   rw[sM] at hx
   split at h
   .rename_i cs e hm
    cases h
    obtain⟨b,o,room,sz,hβ,hv,av⟩:=hx.rp_inv hs.m hm
    obtain⟨u,hu,hr⟩:=run_load_rd (P:=P) hp.1 (av.rd.1.drop off) (by simp;omega)
    refine⟨u,?_,hr⟩
    simp only[zr,hv,Sem.run_bind]
    simp[asAddr,hu]
   .cases h
  .rename_i cs sM
   rw[sM] at hx
   cases h
   obtain⟨b,o,hv,_,_,_,cQ⟩:=hx.pt_inv
   obtain⟨u,hu,hr⟩:=run_load_rd (P:=P) hp.1 cQ hp.2
   refine⟨u,?_,hr⟩
   simp only[zr,hv,Sem.run_bind]
   simp[asAddr,hu]
  .cases h
theorem Np{st:St}{β:Pla}{w:World}{a:Act}(hs:eU P F st β w a){K:List D->Prop}:∀ (rs:List ResultVar) (acc:List D),retL P st rs acc K->
 ∃ vs ds,(rs.mapM (zr a.tmps)).run P w=.ok vs w/\vs.length=ds.length/\K (acc++ds)/\
  ∀ (k:Nat) (d:D) (v:Value),ds[k]? =some d->vs[k]? =some v->R F β w d v
 |[],acc,h=>⟨[],[],by simp,rfl,by simpa[retL] using h,by simp⟩
 |r::rs,acc,h=>by
  simp only[retL] at h
  split at h
  .rename_i p d hr
   obtain⟨v,h1,h2⟩:=aaV hs hr h.1
   obtain⟨vs,ds,h3,h4,h5,h6⟩:=Np hs rs _ h.2
   refine⟨v::vs,d::ds,?_,by simp[h4],by simpa using h5,fun k d' v' hd hv=>?_⟩
   .rw[List.mapM_cons]
    simp only[Sem.run_bind]
    rw[h1]
    simp only[Result.andThen_ok,Sem.run_bind]
    rw[h3]
    simp
   .cases k with
    |zero=>simp at hd hv;subst hd;subst hv;exact h2
    |succ k=>exact h6 k d' v' (by simpa using hd) (by simpa using hv)
  .exact h.elim
theorem Xx{st:St}{β:Pla}{w:World}{a:Act}(hs:eU P F st β w a){K:D->Prop}(h:retL P st fn.results.toList [] fun ds=>K (one1 ds)):
 ∃ v d,(results fn a.tmps).run P w=.ok v w/\K d/\R F β w d v:=by
 obtain⟨vs,ds,h1,h2,h3,h4⟩:=Np hs _ _ h
 simp only[List.nil_append] at h3
 refine⟨if h:vs.toArray.size=1 then vs.toArray[0] else .tuple vs.toArray,one1 ds,?_,h3,?_⟩
 .rw[XN,Array.mapM_eq_mapM_toList]
  simp only[Sem.run_bind,map_eq_pure_bind,bind_assoc]
  rw[h1]
  simp
 .split
  .rename_i bL
   simp only[List.size_toArray] at bL
   obtain⟨v,rfl⟩:=List.length_eq_one_iff.1 bL
   obtain⟨d,rfl⟩:=List.length_eq_one_iff.1 (show ds.length=1 by simpa using h2.symm)
   exact h4 0 d v rfl rfl
  .rename_i bL
   simp only[List.size_toArray] at bL
   have:one1 ds=.tup ds:=by
    unfold one1
    split
    .rename_i d
     simp at h2
     exact absurd h2 bL
    .rfl
   rw[this]
   exact .tup ds vs h2 h4
theorem Xk{w:World}{b:Nat}{x:Option (List Deferred)}(h:w.heap[b]? =some (.deferred x))(o:Nat):w.cell? ⟨b,o,none⟩=none:=by
 simp[World.cell?,h]
theorem R.Nq{w:World}{b:Nat}{x:Option (List Deferred)}(hb:w.heap[b]? =some (.deferred x))(o:Obj)(b':Nat):SameB w (w.putObj b o) b':=by
 refine⟨fun k u hu=>?_,fun ms c hm=>?_⟩
 .have aA:b'≠b:=fun e=>by rw[e,Xk hb] at hu;cases hu
  exact(cell_of_heap (World.putObj_heap_other aA)).trans hu
 .have aA:b'≠b:=fun e=>by rw[e,hb] at hm;cases hm
  exact(World.putObj_heap_other aA).trans hm
theorem eU.putD{st:St}{β:Pla}{w:World}{a:Act}{b:Nat}{x:Option (List Deferred)}(hb:w.heap[b]? =some (.deferred x))(hf:β.free b)(o:Obj)(h:eU P F st β w a):eU P F st β (w.putObj b o) a:=
 ⟨fun t=>(h.e t).gen (by simp) (fun b' _ h1 h2=>⟨R.Nq hb o b',h2,h1⟩) fun _ _ _ h=>.inl h,⟨fun i r hi=>by
  obtain⟨p,hp,hr⟩:=h.m.row i r hi
  exact⟨p,hp,hr.gen (by simp) (fun b' _ h1 h2=>⟨R.Nq hb o b',h2,h1⟩) (fun _ _ _ h=>.inl h) fun c hc=>World.putObj_heap_other fun e=>hf i p hp (e▸hc)⟩,
  h.m.inj,fun i p c hp hc=>by simpa using h.m.lt i p c hp hc,h.m.nf,fun c hc=>by simpa using h.m.fb c hc⟩,h.n⟩
theorem Marks.put{β:Pla}{w:World}{lo b:Nat}(o:Obj):∀ {ds:List Deferred} {hi:Nat},hi<=b->Marks β w lo ds hi->Marks β (w.putObj b o) lo ds hi
 |[],_,_,_=>trivial
 |_::_,_,hle,⟨c,h1,h2,h3,h4,h5,h6⟩=>⟨c,h1,h2,h3,(World.putObj_heap_other oG).trans h4,h5,Marks.put o oG h6⟩
theorem L3{n:Nat}{tmps:Array Value}{R:Ending->World->Prop}{st:St}{β₀ β:Pla}{w₀:World}{a:Act}:∀ (ds:List Deferred) (hi:Nat) (w:World),Marks β w w₀.heap.size ds hi->eU P F st β w a->Step β₀ w₀ β w->
 (∀ w',eU P F st β w' a->Step β₀ w₀ β w'->∃ v,(results fn tmps).run P w'=.ok v w'/\R (.returned v) w')->LeavesInM (Fe none) n P fn tmps R ds .returning w
 |[],_,w,_,hs,aN,K=>K w hs aN
 |d::ds,hi,w,⟨b,h1,h2,h3,h4,h5,h6⟩,hs,aN,K=>by
  subst h1
  refine⟨by simp,.inl ⟨b,_,rfl,run_takeDeferred h4,L3 ds b _ (h6.put _ (Nat.le_refl _)) (hs.putD h4 h5 _) ?_ K⟩⟩
  refine⟨by simpa using aN.size,fun c hc hf=>?_,aN.keep,aN.out.trans ⟨rfl,rfl⟩⟩
  obtain⟨g1,g2⟩:=aN.imm c hc hf
  exact⟨(World.putObj_heap_other oG).trans g1,g2⟩
theorem AT(mI:P.follows .mixedOrders=true){Y:YSpec}{f:FuncId}{c:Code}(hf:P.funcs[f]? =some fn)(hb:fn.body=some c)(aj:jN fn.ntmps c=true){args:List D}(hn:Nat.ble args.length fn.ntmps=true){m:Mem}{nx:Nat}{K:D->St->Prop}
 (h:AW P Y true c (retQ P fn.results.toList K) ⟨envOf args,m,nx⟩) {β:Pla} {w:World} {vs:Array Value} (hY:∀ l args m nx K,Y l args m nx K->YCall P F β w l args m nx K) (hm:MSim P F m β w) (gj:∀ i,nx<=i->β i=none) (hR:Rs F β w args vs):
 Calls P f vs w fun e w'=>∃ v d st' β',e=.returned v/\K d st'/\R F β' w' d v/\MSim P F st'.mem β' w'/\(∀ i,st'.nx<=i->β' i=none)/\Step β w β' w'/\nx<=st'.nx/\∀ i,i<nx->β i=none->β' i=none:=by
 have hle:args.length<=fn.ntmps:=by simpa using hn
 refine(callsIn_wide (n:=0)).1 (callsIn_of_wp_marks hf hb trivial ?_)
 have bL:(vs++Array.replicate (fn.ntmps - vs.size) undef).size=fn.ntmps:=by
  simp only[Array.size_append,Array.size_replicate,hR.1]
  omega
 let a₀:Act:={ tmps:=vs++Array.replicate (fn.ntmps - vs.size) undef,defers:=[] }
 have hE:ESim F β w (envOf args) a₀:=fun t=>by
  unfold envOf
  rcases Nat.lt_or_ge t args.length with aj|aZ
  .have h1:args.getD t .u=args[t]:=by simp[aj]
   have h2:a₀.tmps.getD t undef=vs[t]'(by rw[hR.1];exact aj):=by
    show(vs++Array.replicate (fn.ntmps - vs.size) undef).getD t undef=_
    have h3:t<vs.size:=by rw[hR.1];exact aj
    simp[Array.getD_eq_getD_getElem?,Array.getElem?_append_left h3,h3]
   rw[h1,h2]
   exact hR.2 t _ _ (by simp[aj]) (by simp[hR.1,aj])
  .have h1:args.getD t .u=.u:=by simp[aZ]
   rw[h1];exact .u _
 have:=ZA mI c F none 0 Y true nx β w a₀ (fun _=>rfl) hY (by show jN (vs++Array.replicate (fn.ntmps - vs.size) undef).size c=true;rw[bL];exact aj) _ ⟨envOf args,m,nx⟩ β w a₀ h ⟨hE,hm,gj⟩ (gV.refl ⟨envOf args,m,nx⟩ β w a₀).FJ
 refine wpIn_mono this fun e a' w' hp=>?_
 obtain⟨st',β',hq,dZ,gA⟩:=hp
 have qU:(retL P st' fn.results.toList [] fun ds=>K (one1 ds) st')->LeavesInM (Fe none) 0 P fn a'.tmps (fun e w'=>∃ v d st' β',e=.returned v/\K d st'/\R F β' w' d v/\MSim P F st'.mem β' w'/\(∀ i,st'.nx<=i->β' i=none)/\Step β w β' w'/\nx<=st'.nx/\∀ i,i<nx->β i=none->β' i=none) a'.defers .returning w':=fun hq=>by
  obtain⟨ds,h1,h2⟩:=gA.defers
  rw[h1,show a₀.defers=[] from rfl,List.append_nil]
  refine L3 ds _ w' h2 dZ gA.step fun w'' xK ac2=>?_
  obtain⟨v,d,g1,g2,g3⟩:=Xx (K:=fun d=>K d st') xK hq
  exact⟨v,g1,v,d,st',β',rfl,g2,g3,xK.m,xK.n,ac2,gA.le,gA.grow⟩
 cases e with
 |normal=>exact qU hq
 |ret=>exact qU hq
 |_=>exact hq.elim
theorem GY{w:World}(hF:∀ b,F b->b<w.heap.size):MSim P F (fun _=>none) noRows w:=
 ⟨fun i r h=>(by cases h),fun i j p q b h=>(by cases h),fun i p b h=>(by cases h),fun i p b h=>(by cases h),hF⟩
theorem Gy{β':Pla}{w w':World}(h:Step noRows w β' w'):Kept w w':=
 ⟨h.size,fun b hb=>(h.imm b hb fun i p hp=>by cases hp).1,h.out⟩
theorem Tr.BO{d:D}(h:Tr d){β:Pla}{w:World}{v:Value}(hv:R F β w d v):R F noRows w d v:=
 (h F β w v hv).lift fun b hb=>⟨fun e=>hb (.inl e),fun i p hp=>by cases hp⟩
structure pO(P:Program)(f:FuncId)(fn:Func)(c:Code):Prop where
 hf:P.funcs[f]? =some fn
 hb:fn.body=some c
 aj:jN fn.ntmps c=true
 he:enterOk P f=true
theorem uU(mI:P.follows .mixedOrders=true){f:FuncId}{c:Code}(hf:pO P f fn c){args:List D}(hn:Nat.ble args.length fn.ntmps=true){m:Mem}{nx:Nat}{eD:D->Mem->Nat->Prop}
 (h:AW P noY true c (retQ P fn.results.toList fun d st=>eD d st.mem st.nx) ⟨envOf args,m,nx⟩):ACalls P f args m nx eD:=
 ⟨hf.he,fun F β w vs hm gj hR=>(AT mI hf.hf hf.hb hf.aj hn h (fun _ _ _ _ _ h=>h.elim) hm gj hR).mono fun e w' ⟨v,d,st',β',h1,h2,h3,h4,h5,h6,h7,h8⟩=>⟨v,d,st'.mem,st'.nx,β',h1,h2,h4,h5,h3,h6,h7,h8⟩⟩
theorem aY(mI:P.follows .mixedOrders=true){f:FuncId}{c:Code}(hf:pO P f fn c){args:List D}(hn:Nat.ble args.length fn.ntmps=true)(ht:∀ a∈args,Tr a){r:D}(hr:Tr r)
 (h:AW P noY true c (retQ P fn.results.toList fun d _=>d=r) ⟨envOf args,fun _=>none,0⟩):PCall P f args r:=
 ⟨hf.he,ht,fun F w vs hF hR=>(AT mI hf.hf hf.hb hf.aj hn h (fun _ _ _ _ _ h=>h.elim) (GY hF) (fun _ _=>rfl) hR).mono fun e w' hp=>by
  obtain⟨v,d,st',β',h1,rfl,h3,h4,h5,h6,h7,h8⟩:=hp
  exact⟨v,h1,hr.BO h3,Gy h6⟩⟩
theorem tf (mI:P.follows .mixedOrders=true){f:FuncId}{c:Code}(hf:pO P f fn c){args:List D}(hn:Nat.ble args.length fn.ntmps=true)(ht:∀ a∈args,Tr a){es:List D}(lh:∀ a∈es,Tr a){k:Nat}{t:TypeId}
 (h:AW P noY true c (retQ P fn.results.toList fun d st=>∃ i,d=.rs i 0 k/\st.mem i=some (.cells es t)) ⟨envOf args,fun _=>none,0⟩):OCall P f args es k t:=
 ⟨hf.he,ht,fun F w vs hF hR=>(AT mI hf.hf hf.hb hf.aj hn h (fun _ _ _ _ _ h=>h.elim) (GY hF) (fun _ _=>rfl) hR).mono fun e w' hp=>by
  obtain⟨v,d,st',β',h1,⟨i,rfl,hi⟩,h3,h4,h5,h6,h7,h8⟩:=hp
  obtain⟨p,hp,av⟩:=h4.row i _ hi
  refine⟨v,p,h1,?_,fun b hb=>⟨?_,h4.lt i p b hp hb⟩,?_,?_,Gy h6⟩
  .rintro rfl;cases av
  .rcases Nat.lt_or_ge b w.heap.size with aj|aZ
   .exact absurd hb ((h6.imm b aj fun i p hp=>by cases hp).2 i p hp)
   .exact aZ
  .have lift:∀ d∈es,∀ u,R F β' w' d u->R (fun x=>F x\/p.blk=some x) noRows w' d u:=fun d hd u hu=>
    (lh d hd F β' w' u hu).lift fun b hb=>⟨fun e=>hb (by
     rcases e with e|e
     .exact .inl e
     .exact .inr fun lL=>lL i p hp e),fun i p hp=>by cases hp⟩
   cases av with
   |nil _=>exact .nil _
   |cells _ _ b o room sz c q1 q2 q3 q4 q5=>
    refine .cells es t b o room sz c q1 q2 q3 q4 fun j d hd=>?_
    obtain⟨u,u1,u2,u3⟩:=q5 j d hd
    exact⟨u,u1,lift d (List.mem_of_getElem? hd) u u2,u3⟩
  .cases h3 with
   |rsd _ _ _ _ g0 _=>rw[g0] at hp;cases hp;cases av
   |rsn _ a g0=>rw[g0] at hp;cases hp;exact .rsn 0 a (up_same _ _ _)
   |rsz _ _ a b o len room sz g0=>rw[g0] at hp;cases hp;exact .rsz 0 0 a b o len room sz (up_same _ _ _)
   |rs _ _ _ cap b o len room sz g0 g1 g2 g3 g4=>rw[g0] at hp;cases hp;exact .rs 0 0 k cap b o len room sz (up_same _ _ _) g1 g2 g3 g4⟩
def Uc(l₀:Nat)(xs:List (List D))(I:Nat->Mem->Nat->Prop)(Stop:Mem->Nat->Prop):YSpec:=fun l args m nx eD=>
 l=l₀/\∃ k,xs[k]? =some args/\I k m nx/\∀ d m' nx',SeqPost I Stop k d m' nx'->eD d m' nx'
theorem YCall.mono{β:Pla}{w:World}{l:Nat}{args:List D}{m:Mem}{nx:Nat}{K K':D->Mem->Nat->Prop}(hk:∀ d m nx,K d m nx->K' d m nx)(h:YCall P F β w l args m nx K):YCall P F β w l args m nx K':=
 fun β' w' us h1 h2 h3 h4=>by
  obtain⟨f,tmps,assign,body,g1,g2⟩:=h β' w' us h1 h2 h3 h4
  exact⟨f,tmps,assign,body,g1,fun n=>RoundIn.mono (F:=Fence.wide) (g2 n) fun e w' ⟨v,d,m',nx',β',q1,q2,q3⟩=>⟨v,d,m',nx',β',q1,hk _ _ _ q2,q3⟩⟩
theorem Ia(mI:P.follows .mixedOrders=true){f:FuncId}{c:Code}(hf:pO P f fn c){fs cs:List D}(hn:Nat.ble (fs.length+1+cs.length) fn.ntmps=true){xs:List (List D)}
 (h:∀ (l:Nat) (I:Nat->Mem->Nat->Prop) (Stop:Mem->Nat->Prop) (m:Mem) (nx:Nat),(∀ k,Closed (I k))->Closed Stop->I 0 m nx->
  AW P (Uc l xs I Stop) true c (retQ P fn.results.toList fun _ st=>I xs.length st.mem st.nx\/Stop st.mem st.nx) ⟨envOf (fs++[.fn (.yield l) [] []]++cs),m,nx⟩):SeqA P f fs cs xs:=
 ⟨hf.he,fun F l I Stop m nx β w vs hI EB hm gj hR hy h0=>
  (AT mI hf.hf hf.hb hf.aj (by simpa[Nat.add_assoc,Nat.add_comm,Nat.add_left_comm] using hn) (h l I Stop m nx hI EB h0) (fun l' args m' nx' K hK=>by
   obtain⟨rfl,k,h1,h2,h3⟩:=hK
   exact(hy k args m' nx' h1 h2).mono h3) hm gj hR).mono fun e w' ⟨v,d,st',β',h1,h2,h3,h4,h5,h6,h7,h8⟩=>⟨v,d,st'.mem,st'.nx,β',h1,h2,h4,h5,h3,h6,h7,h8⟩⟩
end
section
variable{P:Program}{Y:YSpec}{rf:Bool}{Q:Exit->St->Prop}{st:St}
theorem N9(c a b):AW P Y rf (.cond c a b) Q st=((opd st.env c).ask/\match (opd st.env c).core with
 | .s (.bool t)=>(t=true->AW P Y rf a Q st)/\(t=false->AW P Y rf b Q st)
 | .ub=>AW P Y rf a Q st/\AW P Y rf b Q st
 |_=>False):=rfl
theorem Oa{b:Code}(I:St->Prop)(μ:St->Nat)(h0:I st)(h:∀ st',I st'->AW P Y rf b (seqQ (fun iE=>∃ jA,Ghost P iE jA/\I jA/\μ jA<μ st') Q) st'):AW P Y rf (.loop b) Q st:=⟨I,μ,h0,h⟩
theorem ACalls.mono{f:FuncId}{args:List D}{m:Mem}{nx:Nat}{eD Sd:D->Mem->Nat->Prop}(h:ACalls P f args m nx eD)(hp:∀ d m' nx',eD d m' nx'->Sd d m' nx'):ACalls P f args m nx Sd:=
 ⟨h.1,fun F β w vs hm hn hR=>(h.2 F β w vs hm hn hR).mono fun e w' ⟨v,d,m',nx',β',h1,h2,h3⟩=>⟨v,d,m',nx',β',h1,hp _ _ _ h2,h3⟩⟩
theorem CallOp.mono{dr:Bool}{f:FuncId}{args:List D}{K K':D->Mem->Nat->List Nat->List Nat->Prop}(hk:∀ d m nx rd wr,K d m nx rd wr->K' d m nx rd wr)(h:CallOp P dr st f args K):CallOp P dr st f args K':=by
 rcases h with⟨r,h1,h2⟩|⟨args',rds,r,h1,h2,h3,h4⟩|⟨es,n,t,h1,h2⟩|⟨h1,h2⟩|⟨r,ups,rds,h1,h2,h3⟩|⟨es,n,t,ups,rds,h1,h2,h3,h4⟩
 .exact .inl ⟨r,h1,hk _ _ _ _ _ h2⟩
 .exact .inr (.inl ⟨args',rds,r,h1,h2,h3,hk _ _ _ _ _ h4⟩)
 .exact .inr (.inr (.inl ⟨es,n,t,h1,hk _ _ _ _ _ h2⟩))
 .exact .inr (.inr (.inr (.inl ⟨h1,h2.mono fun d m nx h=>hk _ _ _ _ _ h⟩)))
 .exact .inr (.inr (.inr (.inr (.inl ⟨r,ups,rds,h1,h2,hk _ _ _ _ _ h3⟩))))
 .exact .inr (.inr (.inr (.inr (.inr ⟨es,n,t,ups,rds,h1,h2,h3,hk _ _ _ _ _ h4⟩))))
class dR(Y:YSpec):Prop where
 mono:∀ l args m nx K K',(∀ d m nx,K d m nx->K' d m nx)->Y l args m nx K->Y l args m nx K'
instance:dR noY:=⟨fun _ _ _ _ _ _ _ h=>h⟩
instance{l:Nat}{xs:List (List D)}{I:Nat->Mem->Nat->Prop}{Stop:Mem->Nat->Prop}:dR (Uc l xs I Stop):=⟨fun _ _ _ _ _ _ hk ⟨h1,k,h2,h3,h4⟩=>⟨h1,k,h2,h3,fun d m nx h=>hk _ _ _ (h4 d m nx h)⟩⟩
theorem AOp.mono[dR Y]{ops:Array Oper}{dr:Bool}{o:Oper}{K K':St->List Nat->List Nat->Prop}(hk:∀ st rd wr,K st rd wr->K' st rd wr)(h:AOp P Y ops dr o st K):AOp P Y ops dr o st K':=by
 unfold AOp at h ⊢
 split at h
 .refine⟨h.1,?_⟩
  have h:=h.2
  split at h
  .exact h.mono fun _ _ _ _ _ h=>hk _ _ _ h
  .split at h
   .exact⟨h.1,dR.mono _ _ _ _ _ _ (fun _ _ _ h=>hk _ _ _ h) h.2⟩
   .split at h
    .exact⟨h.1,hk _ _ _ h.2⟩
    .exact h
 .split at h
  .exact h
  .split at h
   .rcases h with⟨r,h1,h2⟩|⟨h1,h2⟩
    .exact .inl ⟨r,h1,hk _ _ _ h2⟩
    .exact .inr ⟨fun hc=>⟨(h1 hc).1,(h1 hc).2.mono fun _ _ _ _ _ h=>hk _ _ _ h⟩,fun hc=>hk _ _ _ (h2 hc)⟩
   .split at h
    .exact⟨fun hc=>⟨(h.1 hc).1,(h.1 hc).2.1,dR.mono _ _ _ _ _ _ (fun _ _ _ h=>hk _ _ _ h) (h.1 hc).2.2⟩,fun hc=>hk _ _ _ (h.2 hc)⟩
    split at h
    .split at h
     .rename_i hc
      rw[if_pos hc]
      exact⟨h.1,hk _ _ _ h.2⟩
     .rename_i hc
      rw[if_neg hc]
      exact⟨fun hc=>⟨(h.1 hc).1,(h.1 hc).2.1,hk _ _ _ (h.1 hc).2.2⟩,fun hc=>hk _ _ _ (h.2 hc)⟩
    .exact⟨h.1,hk _ _ _ h.2⟩
theorem AOps.mono[dR Y]{ops:Array Oper}{dr:Bool}{cf:List (Nat×Nat)}{Q Q':Exit->St->Prop}(hq:∀ st,Q .normal st->Q' .normal st):∀ (l:List Oper) (st:St) (tr:Tra),AOps P Y ops dr cf Q l st tr->AOps P Y ops dr cf Q' l st tr
 |[],st,tr,h=>⟨h.1,hq _ h.2⟩
 |o::l,st,tr,h=>AOp.mono (fun st' rd wr h=>AOps.mono hq l st' _ h) h
theorem tm:∀ (c:Code) {Y:YSpec} [dR Y] {rf:Bool} {Q Q':Exit->St->Prop} {st:St},(∀ e st,Q e st->Q' e st)->AW P Y rf c Q st->AW P Y rf c Q' st:=by
 intro c
 induction c with
 |skip=>intro Y _ rf;exact fun hq h=>hq _ _ h
 |ret=>intro Y _ rf;exact fun hq h=>hq _ _ h
 |exit id=>intro Y _ rf;exact fun hq h=>hq _ _ h
 |region id ops draw=>
  intro Y _ rf Q Q' st hq h
  cases draw with
  |false=>exact AOps.mono (hq .normal) _ _ _ h
  |true=>
   simp only[AW] at h ⊢
   split at h
   .exact AOps.mono (hq .normal) _ _ _ h
   .exact h
 |seq a b we wg=>
  intro Y _ rf Q Q' st hq h
  refine we (fun e st' h=>?_) h
  cases e with
  |normal=>obtain⟨iE,hg,hb⟩:=h;exact⟨iE,hg,wg hq hb⟩
  |_=>exact hq _ _ h
 |cond c a b we wg=>
  intro Y _ rf Q Q' st hq h
  refine⟨h.1,?_⟩
  have h:=h.2
  split at h
  .exact⟨fun ht=>we hq (h.1 ht),fun ht=>wg hq (h.2 ht)⟩
  .exact⟨we hq h.1,wg hq h.2⟩
  .exact h
 |block id b ih=>
  intro Y _ rf Q Q' st hq h
  refine ih (fun e st' h=>?_) h
  cases e with
  |exit i=>
   simp only[blockQ] at h ⊢
   split at h
   .rename_i hi;rw[if_pos hi];exact hq _ _ h
   .rename_i hi;rw[if_neg hi];exact hq _ _ h
  |_=>exact hq _ _ h
 |scope b ih=>
  intro Y _ rf Q Q' st hq h
  refine ih (fun e st' h=>?_) h
  cases e with
  |goto l=>exact h
  |_=>exact hq _ _ h
 |loop b ih=>
  intro Y _ rf Q Q' st hq h
  obtain⟨I,μ,h0,h1⟩:=h
  refine⟨I,μ,h0,fun st' hi=>ih (fun e iE h=>?_) (h1 st' hi)⟩
  cases e with
  |normal=>exact h
  |_=>exact hq _ _ h
 |label l=>intro Y _ rf;exact fun hq h=>hq _ _ h
 |rangeFunc g ps assign body we wg=>
  intro Y _ rf Q Q' st hq h
  obtain⟨Jk,nH,f,fs,cs,xs,I,ze,EW,Ey,FM,y9,Ez⟩:=h
  refine⟨Jk,nH,f,fs,cs,xs,I,ze,EW,Ey,FM,fun k m nx x hx hI=>we (fun e s h=>?_) (y9 k m nx x hx hI),fun m nx h=>hq _ _ (Ez m nx h)⟩
  cases e with
  |normal=>
   refine wg (fun e s h=>?_) h
   cases e with
   |normal=>exact h
   |ret=>exact hq _ _ h
   |exit id=>exact hq _ _ h
   |_=>exact h
  |_=>exact h
 |_=>intro Y _ rf;exact fun _ h=>h.elim
theorem least{p:Nat->Prop}:∀ j,p j->∃ i,p i/\∀ k,p k->i<=k:=by
 intro j
 induction j using Nat.strongRecOn with
 |_ j ih=>
  intro hj
  by_cases h:∃ k,k<j/\p k
  .obtain⟨k,hk,hp⟩:=h
   exact ih k hk hp
  .exact⟨j,hj,fun k hk=>Nat.le_of_not_lt fun aj=>h ⟨k,aj,hk⟩⟩
open Classical in
theorem Nu[dR Y]{b:Code}(J:Nat->St->Prop){j₀:Nat}(h0:J j₀ st)(h:∀ j st',J j st'->AW P Y rf b (seqQ (fun iE=>∃ jA,Ghost P iE jA/\∃ j',j'<j/\J j' jA) Q) st'):AW P Y rf (.loop b) Q st:=by
 have hex:∀ st,(∃ j,J j st)->∃ i,J i st/\∀ k,J k st->i<=k:=fun st ⟨j,hj⟩=>least j hj
 let μ:St->Nat:=fun st=>if h:∃ j,J j st then Classical.choose (hex st h) else 0
 have hμ:∀ st,(hj:∃ j,J j st)->J (μ st) st/\∀ k,J k st->μ st<=k:=fun st hj=>by
  have:μ st=Classical.choose (hex st hj):=by simp only[μ];rw[dif_pos hj]
  rw[this]
  exact Classical.choose_spec (hex st hj)
 refine Oa (fun st=>∃ j,J j st) μ ⟨j₀,h0⟩ fun st' hj=>tm b (fun e iE hq=>?_) (h (μ st') st' (hμ st' hj).1)
 cases e with
 |normal=>
  obtain⟨jA,hg,j',aj,mT⟩:=hq
  exact⟨jA,hg,⟨j',mT⟩,Nat.lt_of_le_of_lt ((hμ jA ⟨j',mT⟩).2 j' mT) aj⟩
 |_=>exact hq
end
section
variable{P:Program}{F:Nat->Prop}{β:Pla}{w:World}
theorem Tr.opt{c:Bool}{d:D}(h:Tr d):Tr (.opt c d):=fun F β w v hv=>by
 cases hv with
 |opt _ _ _ h1 h2=>exact .opt c d v (fun hc=>h F β w v (h1 hc)) h2
theorem Tr.agg{cs:List D}(h:∀ d∈cs,Tr d):Tr (.agg cs):=fun F β w v hv=>by
 obtain⟨vs,rfl,hl,hh⟩:=hv.agg_inv
 exact .agg cs vs hl fun k d u hd hu=>h d (List.mem_of_getElem? hd) F β w u (hh k d u hd hu)
theorem Tr.tup{cs:List D}(h:∀ d∈cs,Tr d):Tr (.tup cs):=fun F β w v hv=>by
 obtain⟨vs,rfl,hl,hh⟩:=hv.tup_inv
 exact .tup cs vs hl fun k d u hd hu=>h d (List.mem_of_getElem? hd) F β w u (hh k d u hd hu)
theorem Tr.sl{cs:List D}{n:Nat}(h:∀ d∈cs,Tr d):Tr (.sl cs n):=fun F β w v hv=>by
 cases hv with
 |sln a cap=>exact .sln a cap
 |sl _ _ b o cap us hf hb aj pN eY hc hh=>
  exact .sl cs n b o cap us (fun e=>e.elim hf fun e=>e hb) (fun i p hp=>by cases hp) aj pN eY hc fun k d hd=>h d (List.mem_of_getElem? hd) F β w _ (hh k d hd)
theorem Tr.pt{cs:List D}(h:∀ d∈cs,Tr d):Tr (.pt cs):=fun F β w v hv=>by
 cases hv with
 |pt _ b o us hf hb aj hc hh=>
  exact .pt cs b o us (fun e=>e.elim hf fun e=>e hb) (fun i p hp=>by cases hp) aj hc fun k d hd=>h d (List.mem_of_getElem? hd) F β w _ (hh k d hd)
theorem Tr.fn{f:Fn}{fs cs:List D}(h:∀ d∈fs,Tr d)(h':∀ d∈cs,Tr d):Tr (.fn f fs cs):=fun F β w v hv=>by
 cases hv with
 |fn _ _ _ us vs hl iJ h1 h2=>
  exact .fn f fs cs us vs hl iJ (fun k d u hd hu=>h d (List.mem_of_getElem? hd) F β w u (h1 k d u hd hu)) fun k d u hd hu=>h' d (List.mem_of_getElem? hd) F β w u (h2 k d u hd hu)
theorem Tr.im{es:List (Value×D)}(h:∀ x∈es,Tr x.2):Tr (.im es):=fun F β w v hv=>by
 cases hv with
 |im _ r ms clock hf hb hc hl dA hk hh=>
  exact .im es r ms clock (fun e=>e.elim hf fun e=>e hb) (fun i p hp=>by cases hp) hc hl dA hk fun k x m hx hm=>h x (List.mem_of_getElem? hx) F β w _ (hh k x m hx hm)
theorem Tr.s(x:Value):Tr (.s x):=fun F β w v hv=>by
 obtain⟨rfl,h⟩:=hv.s_inv;exact .s _ h
theorem Tr.ub:Tr .ub:=fun F β w v hv=>by
 obtain⟨b,rfl⟩:=hv.ub_inv;exact .ub b
theorem Tr.u:Tr .u:=fun F β w v _=>.u v
theorem Tr.z:Tr .z:=fun F β w v hv=>by
 obtain⟨a,rfl⟩:=hv.z_inv;exact .z a
theorem Tr.nil:∀ a∈([]:List D),Tr a:=fun _ h=>by cases h
theorem Tr.cons{d:D}{l:List D}(h:Tr d)(hl:∀ a∈l,Tr a):∀ a∈d::l,Tr a:=fun a ha=>by
 cases ha with
 |head=>exact h
 |tail _ ha=>exact hl a ha
theorem Tr.map{α:Type}{f:α->D}{l:List α}(h:∀ x,Tr (f x)):∀ a∈l.map f,Tr a:=fun a ha=>by
 obtain⟨x,_,rfl⟩:=List.mem_map.1 ha;exact h x
theorem Tr.flat{α:Type}{f:α->List D}{l:List α}(h:∀ x,∀ a∈f x,Tr a):∀ a∈l.flatMap f,Tr a:=fun a ha=>by
 obtain⟨x,_,hx⟩:=List.mem_flatMap.1 ha;exact h x a hx
end
instance(d:D):Decidable d.ask:=match d with
 | .opt c _=>inferInstanceAs (Decidable (c=true))
 | .u | .s _ | .ub | .agg _ | .tup _ | .z | .sl _ _ | .pt _ | .rs _ _ _ | .rp _ _ | .mp _ | .im _ | .fn _ _ _=>isTrue trivial
structure eZ where
 pre:Prop
 [dec:Decidable pre]
 val:D
 ups:List (Nat×Option Row):=[]
 rd:List Nat:=[]
 new:Nat:=0
structure PD(α:Type) where
 p:Prop
 [dec:Decidable p]
 d:α
def eZ.hZ(e:eZ):Eff:=⟨e.pre,e.val,e.ups,e.rd,e.new⟩
def EC(op:BinOp)(x y:Value):Option (PD Value):=
 match op,x,y with
 | .shl,.int k a,.int _ b=>some ⟨0<=b,.int k (k.wrap (a*2 ^ (min b.toNat k.bits)))⟩
 | .shr,.int k a,.int _ b=>some ⟨0<=b,.int k (a.fdiv (2 ^ (min b.toNat k.bits)))⟩
 | .add,.int k a,.int k' b=>some ⟨k=k',.int k (k.wrap (a+b))⟩
 | .sub,.int k a,.int k' b=>some ⟨k=k',.int k (k.wrap (a - b))⟩
 | .mul,.int k a,.int k' b=>some ⟨k=k',.int k (k.wrap (a*b))⟩
 | .quo,.int k a,.int k' b=>some ⟨k=k'/\b≠0,.int k (k.wrap (a.tdiv b))⟩
 | .rem,.int k a,.int k' b=>some ⟨k=k'/\b≠0,.int k (a.tmod b)⟩
 | .and,.int k a,.int k' b=>some ⟨k=k',.int k (intBitsV .and k a b)⟩
 | .or,.int k a,.int k' b=>some ⟨k=k',.int k (intBitsV .or k a b)⟩
 | .xor,.int k a,.int k' b=>some ⟨k=k',.int k (intBitsV .xor k a b)⟩
 | .andNot,.int k a,.int k' b=>some ⟨k=k',.int k (intBitsV .andNot k a b)⟩
 | .eql,.int k a,.int k' b=>some ⟨k=k',.bool (a==b)⟩
 | .neq,.int k a,.int k' b=>some ⟨k=k',.bool (a !=b)⟩
 | .lss,.int k a,.int k' b=>some ⟨k=k',.bool (decide (a<b))⟩
 | .leq,.int k a,.int k' b=>some ⟨k=k',.bool (decide (a<=b))⟩
 | .gtr,.int k a,.int k' b=>some ⟨k=k',.bool (decide (b<a))⟩
 | .geq,.int k a,.int k' b=>some ⟨k=k',.bool (decide (b<=a))⟩
 | .eql,.string a,.string b=>some ⟨True,.bool (a.toList==b.toList)⟩
 | .neq,.string a,.string b=>some ⟨True,.bool !(a.toList==b.toList)⟩
 | .lss,.string a,.string b=>some ⟨True,.bool (Op.bytesLess a.toList b.toList)⟩
 | .geq,.string a,.string b=>some ⟨True,.bool !(Op.bytesLess a.toList b.toList)⟩
 |_,_,_=>none
def HJ(P:Program)(op:BinOp)(t:TypeId)(xs ys:List D):Option (PD D):=
 match op,flatT P t,zipV xs ys with
 | .eql,some ks,some q=>some ⟨q.1.map kindV=ks/\P.eqGuardType P.depth t=false,.s (.bool (veqs q.1 q.2))⟩
 | .neq,some ks,some q=>some ⟨q.1.map kindV=ks/\P.eqGuardType P.depth t=false,.s (.bool !(veqs q.1 q.2))⟩
 |_,_,_=>none
def IK(P:Program)(op:BinOp)(t:TypeId)(x y:D):Option (PD D):=
 match x,y with
 | .s (.bool a),.s (.bool b)=>match op with
  | .eql=>some ⟨boT P t=true,.s (.bool (a==b))⟩
  | .neq=>some ⟨boT P t=true,.s (.bool !(a==b))⟩
  |_=>none
 | .s a,.s b=>(EC op a b).map fun r=> @PD.mk _ r.p r.dec (.s r.d)
 | .agg xs,.agg ys=>HJ P op t xs ys
 |_,_=>none
def ED(P:Program)(m:Mem)(op:BinOp)(t:TypeId)(x:D)(y:Operand):Option eZ:=
 match y,op,x with
 | .const (.slice none 0 0),.eql,.sl _ n=>some { pre:=slT P t=true,val:=if n=0 then .ub else .s (.bool false) }
 | .const (.pointer none),.eql,.rp i _=>match m i with
  |some _=>some { pre:=ptT P t=true,val:=.s (.bool false),rd:=[i] }
  |none=>none
 | .const (.pointer none),.neq,.rp i _=>match m i with
  |some _=>some { pre:=ptT P t=true,val:=.s (.bool true),rd:=[i] }
  |none=>none
 |_,_,_=>none
def IM(P:Program)(m:Mem)(t:TypeId):D->Option eZ
 | .sl _ n=>some { pre:=slT P t=true,val:=.s (.int .i64 n) }
 | .rs i _ n=>match m i with
  |some _=>some { pre:=slT P t=true,val:=.s (.int .i64 n),rd:=[i] }
  |none=>none
 | .z=>some { pre:=slT P t=true,val:=.s (.int .i64 0) }
 | .s (.string b)=>some { pre:=stT P t=true,val:=.s (.int .i64 b.size) }
 | .agg _=>some { pre:=arT P t=true,val:=.s (.int .i64 (lenP P t)) }
 |_=>none
def Dw(m:Mem)(sz:Nat):D->Option (PD (List Nat×Nat×List D))
 | .sl es n=>some ⟨n*sz<=es.length,([],n,es.take (n*sz))⟩
 | .z=>some ⟨True,([],0,[])⟩
 | .rs i off n=>match m i with
  |some (.cells cs _)=>some ⟨off+n*sz<=cs.length,([i],n,(cs.drop off).take (n*sz))⟩
  |_=>none
 |_=>none
def Hg(P:Program)(m:Mem)(nx:Nat)(t:TypeId)(s x:D):Option eZ:=
 let e:=elemP P t
 let sz:=P.cellsOf e
 match Dw m sz x with
 |none=>none
 |some (@PD.mk _ p _ (rd,k,news))=>
  match s with
  | .z=>some { pre:=slT P t=true/\p/\0<sz/\k<=maxLen/\k*P.bytesOf e<=140737488355328,val:=.rs nx 0 k,ups:=[(nx,some (.cells news e))],rd:=rd,new:=1 }
  | .rs i off n=>match m i with
   |some (.cells cs e')=>some { pre:=slT P t=true/\e'=e/\p/\0<sz/\off+n*sz=cs.length/\n+k<=maxLen/\(n+k)*P.bytesOf e<=140737488355328/\i∉rd,val:=.rs nx 0 (n+k),ups:=[(i,none),(nx,some (.cells (cs.drop off++news) e))],rd:=i::rd,new:=1 }
   |_=>none
  |_=>none
def Hh(P:Program)(m:Mem)(t:TypeId)(x k:D)(ok:Bool):Option eZ:=match keyV k,x with
 |some key,.mp i=>match m i with
  |some (.map es)=>some { pre:=mapT P t=true/\keyP P (mkeyP P t) key=true/\es.all (fun e=>keyP P (mkeyP P t) e.1)=true,val:=gotD P t ok (lookD key es),rd:=[i] }
  |_=>none
 |some key,.im es=>some { pre:=mapT P t=true/\keyP P (mkeyP P t) key=true/\es.all (fun e=>keyP P (mkeyP P t) e.1)=true,val:=gotD P t ok (lookD key es) }
 |some key,.s (.map none)=>some { pre:=mapT P t=true/\keyP P (mkeyP P t) key=true,val:=gotD P t ok none }
 |_,_=>none
def DW(P:Program)(m:Mem)(t:TypeId)(x k v:D):Option eZ:=match keyV k,x with
 |some key,.mp i=>match m i with
  |some (.map es)=>some { pre:=mapT P t=true/\keyP P (mkeyP P t) key=true/\es.all (fun e=>keyP P (mkeyP P t) e.1)=true,val:=.tup [],ups:=[(i,some (.map (putD key v es)))],rd:=[i] }
  |_=>none
 |_,_=>none
def Hi(P:Program)(m:Mem)(t:TypeId)(x k:D):Option eZ:=match keyV k,x with
 |some key,.mp i=>match m i with
  |some (.map es)=>some { pre:=mapT P t=true/\keyP P (mkeyP P t) key=true/\es.all (fun e=>keyP P (mkeyP P t) e.1)=true,val:=.tup [],ups:=[(i,some (.map (delD key es)))],rd:=[i] }
  |_=>none
 |_,_=>none
def DG(P:Program)(m:Mem)(nx:Nat)(b:Builtin)(ts:Array TypeId)(args:List D):Option eZ:=
 match b,args with
 | .len,[x]=>IM P m (ts.getD 0 0) x
 | .append,[s,x]=>if ts.getD 0 0=ts.getD 1 0 then Hg P m nx (ts.getD 0 0) s x else none
 | .min,[.s (.int k a),.s (.int k' b)]=>some { pre:=k=k',val:=.s (.int k (if b<a then b else a)) }
 | .clear,[.rs i off n]=>match m i with
  |some (.cells cs e)=>some { pre:=slT P (ts.getD 0 0)=true/\off+n*P.cellsOf e<=cs.length/\e=elemP P (ts.getD 0 0),val:=.tup [],ups:=[(i,some (.cells (splice cs off (replD n (zeroP P e))) e))],rd:=[i] }
  |_=>none
 | .delete,[x,k]=>Hi P m (ts.getD 0 0) x k
 |_,_=>none
def HK(P:Program)(m:Mem)(t:TypeId)(x:D)(lo hi mx:Option D):Option eZ:=
 match x with
 | .sl es n=>match bndD lo 0,bndD hi n,mx with
  |some l,some h,none=>some { pre:=slT P t=true/\0<=l/\l<=h/\h<=n,val:=.sl ((es.drop (l.toNat*P.cellsOf (elemP P t))).take ((h - l).toNat*P.cellsOf (elemP P t))) (h - l).toNat }
  |some l,some h,some d=>match d.int? with
   |some k=>some { pre:=slT P t=true/\hi.isSome=true/\0<=l/\l<=h/\h<=k/\k<=n,val:=.sl ((es.drop (l.toNat*P.cellsOf (elemP P t))).take ((h - l).toNat*P.cellsOf (elemP P t))) (h - l).toNat }
   |none=>none
  |_,_,_=>none
 | .rs i off n=>match m i with
  |some (.cells _ e)=>match bndD lo 0,bndD hi n,mx with
   |some l,some h,none=>some { pre:=(slT P t=true/\P.cellsOf e=P.cellsOf (elemP P t))/\0<=l/\l<=h/\h<=n,val:=.rs i (off+l.toNat*P.cellsOf (elemP P t)) (h - l).toNat,rd:=[i] }
   |_,_,_=>none
  |_=>none
 | .s (.string b)=>match bndD lo 0,bndD hi b.size,mx with
  |some l,some h,none=>some { pre:=stT P t=true/\0<=l/\l<=h/\h<=b.size,val:=.s (.string (b.extract l.toNat h.toNat)) }
  |_,_,_=>none
 |_=>none
def iW(P:Program)(o:Op)(ρ:Operand->D)(m:Mem)(nx:Nat):Option eZ:=
 match o with
 | .move x=>some { pre:=True,val:=ρ x }
 | .assign x=>some { pre:=True,val:=ρ x }
 | .pick c a b=>match (ρ c).core.bool? with
  |some t=>some { pre:=(t=true->(ρ a).ask/\(ρ a).core.bool?.isSome=true)/\(t=false->(ρ b).ask/\(ρ b).core.bool?.isSome=true),val:=.s (.bool (if t then(ρ a).core.bool?.getD false else(ρ b).core.bool?.getD false)) }
  |none=>none
 | .alloc t=>some { pre:=tyOk P t=true,val:=.rp nx 0,ups:=[(nx,some (.cells (zeroP P t) t))],new:=1 }
 | .box t x=>some { pre:=(ρ x).cells.all D.one=true,val:=.rp nx 0,ups:=[(nx,some (.cells (ρ x).cells t))],new:=1 }
 | .build t ps=>match P.underlying t with
  |some (.struct fs)=>(fillD (fun i=>(fs[i]?).map fun f=>(f.offset,P.cellsOf f.type)) (zeroP P t) (ps.toList.map fun q=>(q.1,ρ q.2))).map fun cs=>{ pre:=tyOk P t=true/\fs.toList.all (fun f=>(P.info? f.type).isSome)=true,val:=.agg cs }
  |some (.array _ e)=>(fillD (fun i=>some (i*P.cellsOf e,P.cellsOf e)) (zeroP P t) (ps.toList.map fun q=>(q.1,ρ q.2))).map fun cs=>{ pre:=tyOk P t=true/\tyOk P e=true,val:=.agg cs }
  |_=>none
 | .buildSlice t n ps=>(fillD (fun i=>some (i*P.cellsOf (elemP P t),P.cellsOf (elemP P t))) (replD n (zeroP P (elemP P t))) (ps.toList.map fun q=>(q.1,ρ q.2))).map fun cs=>
   { pre:=cs.all D.one=true/\n*P.cellsOf (elemP P t)<=2 ^ 24/\slT P t=true/\n<=maxLen,val:=.rs nx 0 n,ups:=[(nx,some (.cells cs (elemP P t)))],new:=1 }
 | .load t a=>match ρ a with
  | .pt cs=>some { pre:=tyOk P t=true/\P.cellsOf t<=cs.length,val:=takeV P t cs }
  | .rp i off=>match m i with
   |some (.cells cs _)=>some { pre:=tyOk P t=true/\off+P.cellsOf t<=cs.length,val:=takeV P t (cs.drop off),rd:=[i] }
   |_=>none
  |_=>none
 | .store t a x=>match ρ a with
  | .rp i off=>match m i with
   |some (.cells cs e)=>some { pre:=tyOk P t=true/\(ρ x).cells.length=P.cellsOf t/\off+P.cellsOf t<=cs.length/\(ρ x).cells.all D.one=true,val:=.tup [],ups:=[(i,some (.cells (splice cs off (ρ x).cells) e))],rd:=[i] }
   |_=>none
  |_=>none
 | .nilCheck x=>match ρ x with
  | .pt cs=>some { pre:=True,val:=.pt cs }
  | .rp i off=>match m i with
   |some _=>some { pre:=True,val:=.rp i off,rd:=[i] }
   |none=>none
  |_=>none
 | .binOp op t x y _=>match ED P m op t (ρ x) y with
  |some e=>some e
  |none=>(IK P op t (ρ x) (ρ y)).map fun r=> @eZ.mk r.p r.dec r.d [] [] 0
 | .unOp op _ x=>match ρ x with
  | .s v=>(unV op v).map fun r=>{ pre:=True,val:=.s r }
  |_=>none
 | .convert src dst x=>match P.underlying dst,ρ x with
  |some (.int k),.s (.int _ n)=>some { pre:=tyOk P src=true,val:=.s (.int k (k.wrap n)) }
  |some (.slice e),.s (.string b)=>match P.underlying e with
   |some (.int .u8)=>some { pre:=stT P src=true/\b.size<=maxLen,val:=.sl (b.data.toList.map fun c=>.s (.int .u8 c.toNat)) b.size }
   |_=>none
  |_,_=>none
 | .makeFunc f fs cs=>some { pre:=True,val:=.fn f (fs.toList.map ρ) (cs.toList.map ρ) }
 | .makeMap _ r=>match r with
  |none=>some { pre:=True,val:=.mp nx,ups:=[(nx,some (.map []))],new:=1 }
  |some _=>none
 | .makeSlice t l c=>match ρ l,ρ c with
  | .s (.int .i64 n),.s (.int .i64 k)=>some { pre:=0<=n/\n=k/\n<=9223372036854775807/\P.bytesOf (elemP P t)*n<=281474976710656/\slT P t=true,val:=.rs nx 0 n.toNat,ups:=[(nx,some (.cells (replD n.toNat (zeroP P (elemP P t))) (elemP P t)))],new:=1 }
  |_,_=>none
 | .lookup t x k ok=>Hh P m t (ρ x) (ρ k) ok
 | .mapUpdate t x k v=>DW P m t (ρ x) (ρ k) (ρ v)
 | .insert t x k v=>DW P m t (ρ x) (ρ k) (ρ v)
 | .slice t x lo hi mx=>HK P m t (ρ x) (lo.map ρ) (hi.map ρ) (mx.map ρ)
 | .fieldAddr t x k=>match fieldP P t k,ρ x with
  |some (off,ft),.pt cs=>some { pre:=0<P.cellsOf ft,val:=.pt (cs.drop off) }
  |some (off,ft),.rp i o=>match m i with
   |some _=>some { pre:=0<P.cellsOf ft,val:=.rp i (o+off),rd:=[i] }
   |none=>none
  |_,_=>none
 | .field t x k=>match fieldP P t k,ρ x with
  |some (off,ft),.agg cs=>some { pre:=tyOk P ft=true/\off+P.cellsOf ft<=cs.length,val:=takeV P ft (cs.drop off) }
  |_,_=>none
 | .indexAddr t x i=>match ρ x,ρ i with
  | .sl es n,.s (.int _ k)=>some { pre:=slT P t=true/\0<=k/\k<n/\(k.toNat+1)*P.cellsOf (elemP P t)<=es.length,val:=.pt (es.drop (k.toNat*P.cellsOf (elemP P t))) }
  | .rs j off n,.s (.int _ k)=>match m j with
   |some _=>some { pre:=slT P t=true/\0<=k/\k<n,val:=.rp j (off+k.toNat*P.cellsOf (elemP P t)),rd:=[j] }
   |none=>none
  | .rp j off,.s (.int _ k)=>match m j with
   |some _=>some { pre:=arT P t=true/\0<=k/\k<lenP P t,val:=.rp j (off+k.toNat*P.cellsOf (elemP P t)),rd:=[j] }
   |none=>none
  |_,_=>none
 | .index t x i=>match ρ x,ρ i with
  | .s (.string b),.s (.int _ k)=>some { pre:=stT P t=true/\0<=k/\k<b.size,val:=.s (.int .u8 (b.data.toList.getD k.toNat 0).toNat) }
  | .agg cs,.s (.int _ k)=>some { pre:=arT P t=true/\0<=k/\k<lenP P t/\(k.toNat+1)*P.cellsOf (elemP P t)<=cs.length,val:=takeV P (elemP P t) (cs.drop (k.toNat*P.cellsOf (elemP P t))) }
  |_,_=>none
 | .extract x k=>match ρ x with
  | .tup cs=>some { pre:=k<cs.length,val:=cs.getD k .u }
  |_=>none
 | .call c=>match c.callee with
  | .builtin b=>if c.argTypes.size=c.args.size then DG P m nx b c.argTypes (c.args.toList.map ρ) else none
  |_=>none
 |_=>none
theorem ZD(op:BinOp)(x y:Value):binV op x y=(EC op x y).map fun r=>(r.p,r.d):=by
 cases op<;>cases x<;>first|rfl|(cases y<;>rfl)
theorem XO(P:Program)(op:BinOp)(t:TypeId)(xs ys:List D):aggEqD P op t xs ys=(HJ P op t xs ys).map fun r=>(r.p,r.d):=by
 unfold aggEqD HJ
 cases op<;>first|rfl|skip
 all_goals cases flatT P t<;>first|rfl|skip
 all_goals cases zipV xs ys<;>rfl
theorem ZE(P:Program)(op:BinOp)(t:TypeId)(x y:D):binD P op t x y=(IK P op t x y).map fun r=>(r.p,r.d):=by
 have hs:∀ a b,(binV op a b).map (fun r=>(r.1,D.s r.2))=((EC op a b).map fun r=> @PD.mk _ r.p r.dec (D.s r.d)).map fun r=>(r.p,r.d):=fun a b=>by
  rw[ZD]
  cases EC op a b<;>rfl
 cases x with
 |s a=>
  cases y with
  |s b=>
   cases a with
   |bool a=>
    cases b with
    |bool b=>cases op<;>rfl
    |_=>exact hs _ _
   |_=>exact hs _ _
  |_=>cases a<;>rfl
 |agg xs=>
  cases y with
  |agg ys=>exact XO P op t xs ys
  |_=>rfl
 |_=>rfl
theorem ZF(P:Program)(m:Mem)(op:BinOp)(t:TypeId)(x:D)(y:Operand):nilD P m op t x y=(ED P m op t x y).map eZ.hZ:=by
 unfold nilD ED
 split<;>split<;>simp_all[eZ.hZ]
 all_goals split<;>simp_all[eZ.hZ]
theorem ZG(P:Program)(m:Mem)(t:TypeId)(x:D):lenD P m t x=(IM P m t x).map eZ.hZ:=by
 unfold lenD IM
 split<;>first|rfl|skip
 all_goals split<;>simp_all[eZ.hZ]
theorem Xe(m:Mem)(sz:Nat)(x:D):sliceCells m sz x=(Dw m sz x).map fun r=>(r.p,r.d):=by
 unfold sliceCells Dw
 split<;>first|rfl|skip
 all_goals split<;>simp_all
theorem Xy(P:Program)(m:Mem)(nx:Nat)(t:TypeId)(s x:D):appendD P m nx t s x=(Hg P m nx t s x).map eZ.hZ:=by
 unfold appendD Hg
 simp only[Xe]
 cases Dw m (P.cellsOf (elemP P t)) x with
 |none=>rfl
 |some r=>
  obtain⟨p,rd,k,news⟩:=r
  simp only[Option.map_some]
  split<;>first|rfl|skip
  all_goals split<;>simp_all[eZ.hZ]
theorem Xz(P:Program)(m:Mem)(t:TypeId)(x k:D)(ok:Bool):lookupD P m t x k ok=(Hh P m t x k ok).map eZ.hZ:=by
 unfold lookupD Hh
 split<;>first|rfl|skip
 all_goals split<;>simp_all[eZ.hZ]
theorem L9(P:Program)(m:Mem)(t:TypeId)(x k v:D):mapPutD P m t x k v=(DW P m t x k v).map eZ.hZ:=by
 unfold mapPutD DW
 split<;>first|rfl|skip
 all_goals split<;>simp_all[eZ.hZ]
theorem XA(P:Program)(m:Mem)(t:TypeId)(x k:D):mapDelD P m t x k=(Hi P m t x k).map eZ.hZ:=by
 unfold mapDelD Hi
 split<;>first|rfl|skip
 all_goals split<;>simp_all[eZ.hZ]
theorem Xn(P:Program)(m:Mem)(nx:Nat)(b:Builtin)(ts:Array TypeId)(args:List D):builtinD P m nx b ts args=(DG P m nx b ts args).map eZ.hZ:=by
 cases b with
 |len=>
  match args with
  |[]=>rfl
  |[x]=>exact ZG _ _ _ _
  |_::_::_=>rfl
 |append=>
  match args with
  |[]=>rfl
  |[x]=>rfl
  |[s,x]=>
   simp only[builtinD,DG]
   split
   .exact Xy _ _ _ _ _ _
   .rfl
  |_::_::_::_=>rfl
 |min=>
  match args with
  |[]=>rfl
  |[x]=>
   cases x with
   |s a=>cases a<;>rfl
   |_=>rfl
  |[x,y]=>
   cases x with
   |s a=>
    cases a with
    |int k a=>
     cases y with
     |s b=>cases b<;>rfl
     |_=>rfl
    |_=>rfl
   |_=>rfl
  |x::y::_::_=>
   cases x with
   |s a=>
    cases a with
    |int k a=>
     cases y with
     |s b=>cases b<;>rfl
     |_=>rfl
    |_=>rfl
   |_=>rfl
 |clear=>
  match args with
  |[]=>rfl
  |[x]=>
   cases x with
   |rs i off n=>
    simp only[builtinD,DG]
    cases m i with
    |none=>rfl
    |some r=>cases r<;>rfl
   |_=>rfl
  |x::_::_=>cases x<;>rfl
 |delete=>
  match args with
  |[]=>rfl
  |[x]=>rfl
  |[x,k]=>exact XA _ _ _ _ _
  |_::_::_::_=>rfl
 |_=>rfl
theorem XP(P:Program)(m:Mem)(t:TypeId)(x:D)(lo hi mx:Option D):sliceD P m t x lo hi mx=(HK P m t x lo hi mx).map eZ.hZ:=by
 unfold sliceD HK
 cases x with
 |sl es n=>
  simp only
  cases bndD lo 0<;>first|rfl|skip
  cases bndD hi n<;>first|rfl|skip
  cases mx with
  |none=>rfl
  |some d=>
   simp only
   cases d.int? <;>rfl
 |rs i off n=>
  simp only
  cases m i with
  |none=>rfl
  |some r=>
   cases r<;>first|rfl|skip
   simp only
   cases bndD lo 0<;>first|rfl|skip
   cases bndD hi n<;>first|rfl|skip
   cases mx<;>rfl
 |s v=>
  cases v<;>first|rfl|skip
  simp only
  cases bndD lo 0<;>first|rfl|skip
  rename_i b _
  cases bndD hi b.size<;>first|rfl|skip
  cases mx<;>rfl
 |_=>rfl
theorem N6(P:Program)(o:Op)(ρ:Operand->D)(m:Mem)(nx:Nat):aop P o ρ m nx=(iW P o ρ m nx).map eZ.hZ:=by
 cases o with
 |call c=>
  simp only[aop,iW]
  cases c.callee with
  |builtin b=>
   simp only
   split
   .exact Xn _ _ _ _ _ _
   .rfl
  |_=>rfl
 |binOp op t x y _=>
  simp only[aop,iW,ZF,ZE]
  cases ED P m op t (ρ x) y with
  |some e=>rfl
  |none=>
   cases IK P op t (ρ x) (ρ y) with
   |some r=>rfl
   |none=>rfl
 |lookup t x k ok=>exact Xz _ _ _ _ _ _
 |mapUpdate t x k v=>exact L9 _ _ _ _ _ _
 |insert t x k v=>exact L9 _ _ _ _ _ _
 |slice t x lo hi mx=>exact XP _ _ _ _ _ _ _
 |build t ps=>
  simp only[aop,iW]
  cases P.underlying t with
  |none=>rfl
  |some u=>
   cases u with
   |struct fs=>simp only;cases fillD _ _ _<;>rfl
   |array n e=>simp only;cases fillD _ _ _<;>rfl
   |_=>rfl
 |buildSlice t n ps=>
  simp only[aop,iW]
  cases fillD _ _ _<;>rfl
 |unOp op t x=>
  simp only[aop,iW]
  cases ρ x with
  |s v=>simp only;cases unV op v<;>rfl
  |_=>rfl
 |load t a=>
  simp only[aop,iW]
  cases ρ a with
  |rp i off=>simp only;cases m i with
   |none=>rfl
   |some r=>cases r<;>rfl
  |_=>rfl
 |store t a x=>
  simp only[aop,iW]
  cases ρ a with
  |rp i off=>simp only;cases m i with
   |none=>rfl
   |some r=>cases r<;>rfl
  |_=>rfl
 |pick c a b=>
  simp only[aop,iW]
  cases (ρ c).core.bool? <;>rfl
 |nilCheck x=>
  simp only[aop,iW]
  cases ρ x with
  |rp i off=>simp only;cases m i<;>rfl
  |_=>rfl
 |makeMap t r=>cases r<;>rfl
 |makeSlice t l c=>
  simp only[aop,iW]
  cases ρ l with
  |s v=>
   cases v with
   |int k n=>
    cases k with
    |i64=>
     cases ρ c with
     |s v=>cases v with
      |int k n=>cases k<;>rfl
      |_=>rfl
     |_=>rfl
    |_=>rfl
   |_=>rfl
  |_=>rfl
 |convert src dst x=>
  simp only[aop,iW]
  cases P.underlying dst with
  |none=>rfl
  |some u=>
   cases u with
   |int k=>cases ρ x with
    |s v=>cases v<;>rfl
    |_=>rfl
   |slice e=>cases ρ x with
    |s v=>cases v with
     |string b=>
      simp only
      cases P.underlying e with
      |none=>rfl
      |some u=>
       cases u with
       |int k=>cases k<;>rfl
       |_=>rfl
     |_=>rfl
    |_=>rfl
   |_=>rfl
 |fieldAddr t x k=>
  simp only[aop,iW]
  cases fieldP P t k with
  |none=>rfl
  |some q=>
   obtain⟨off,ft⟩:=q
   cases ρ x with
   |rp i o=>simp only;cases m i<;>rfl
   |_=>rfl
 |field t x k=>
  simp only[aop,iW]
  cases fieldP P t k with
  |none=>rfl
  |some q=>
   obtain⟨off,ft⟩:=q
   cases ρ x<;>rfl
 |indexAddr t x i=>
  simp only[aop,iW]
  cases ρ x with
  |sl es n=>cases ρ i with
   |s v=>cases v<;>rfl
   |_=>rfl
  |rs j off n=>cases ρ i with
   |s v=>cases v with
    |int k n=>simp only;cases m j<;>rfl
    |_=>rfl
   |_=>rfl
  |rp j off=>cases ρ i with
   |s v=>cases v with
    |int k n=>simp only;cases m j<;>rfl
    |_=>rfl
   |_=>rfl
  |_=>rfl
 |index t x i=>
  simp only[aop,iW]
  cases ρ x with
  |s v=>cases v with
   |string b=>cases ρ i with
    |s v=>cases v<;>rfl
    |_=>rfl
   |_=>rfl
  |agg cs=>cases ρ i with
   |s v=>cases v<;>rfl
   |_=>rfl
  |_=>rfl
 |extract x k=>
  simp only[aop,iW]
  cases ρ x<;>rfl
 |_=>rfl
inductive T(α:Type) where
 |leaf
 |node (v:Option α) (l r:T α)
def T.get{α:Type}:T α->Nat->Option α
 | .leaf,_=>none
 | .node v l r,i=>bif Nat.beq i 0 then v else bif Nat.beq (i % 2) 1 then l.get (i / 2) else r.get (i / 2 - 1)
def T.set{α:Type}:Nat->T α->Nat->Option α->T α
 |0,t,_,_=>t
 |f+1,.leaf,i,v=>bif Nat.beq i 0 then .node v .leaf .leaf else bif Nat.beq (i % 2) 1 then .node none (T.set f .leaf (i / 2) v) .leaf else .node none .leaf (T.set f .leaf (i / 2 - 1) v)
 |f+1,.node v0 l r,i,v=>bif Nat.beq i 0 then .node v l r else bif Nat.beq (i % 2) 1 then .node v0 (T.set f l (i / 2) v) r else .node v0 l (T.set f r (i / 2 - 1) v)
theorem T.tg{α:Type}(v:Option α)(l r:T α)(i:Nat):(T.node v l r).get i=if i=0 then v else if i % 2=1 then l.get (i / 2) else r.get (i / 2 - 1):=by
 simp only[T.get,Bool.cond_eq_ite,Nat.beq_eq]
theorem T.A1{α:Type}(v:Option α):∀ (f:Nat) (t:T α) (i j:Nat),i+1<2 ^ f->(T.set f t i v).get j=if j=i then v else t.get j
 |0,t,i,j,h=>by simp at h
 |f+1,t,i,j,h=>by
  have h2:2 ^ (f+1)=2*2 ^ f:=by rw[Nat.pow_succ];omega
  have Ud:i % 2=1->i / 2+1<2 ^ f:=fun _=>by omega
  have jg:i≠0->i % 2≠1->i / 2 - 1+1<2 ^ f:=fun _ _=>by omega
  have lg:∀ k,(T.leaf:T α).get k=none:=fun k=>rfl
  cases t with
  |leaf=>
   simp only[T.set,Bool.cond_eq_ite,Nat.beq_eq]
   by_cases h0:i=0
   .subst h0
    simp only[if_true,T.tg,lg]
    by_cases hj:j=0<;>simp[hj]
   .rw[if_neg h0]
    by_cases h1:i % 2=1
    .rw[if_pos h1,T.tg,T.A1 v f _ _ _ (Ud h1)]
     simp only[lg]
     by_cases hj:j=i
     .subst hj;simp[h0,h1]
     .rw[if_neg hj]
      by_cases mR:j=0
      .rw[if_pos mR]
      .rw[if_neg mR]
       by_cases mS:j % 2=1
       .rw[if_pos mS,if_neg oG]
       .rw[if_neg mS]
    .rw[if_neg h1,T.tg,T.A1 v f _ _ _ (jg h0 h1)]
     simp only[lg]
     by_cases hj:j=i
     .subst hj;simp[h0,h1]
     .rw[if_neg hj]
      by_cases mR:j=0
      .rw[if_pos mR]
      .rw[if_neg mR]
       by_cases mS:j % 2=1
       .rw[if_pos mS]
       .rw[if_neg mS,if_neg oG]
  |node v0 l r=>
   simp only[T.set,Bool.cond_eq_ite,Nat.beq_eq]
   by_cases h0:i=0
   .subst h0
    simp only[if_true,T.tg]
    by_cases hj:j=0<;>simp[hj]
   .rw[if_neg h0]
    by_cases h1:i % 2=1
    .rw[if_pos h1,T.tg,T.tg,T.A1 v f _ _ _ (Ud h1)]
     by_cases hj:j=i
     .subst hj;simp[h0,h1]
     .rw[if_neg hj]
      by_cases mR:j=0
      .rw[if_pos mR,if_pos mR]
      .rw[if_neg mR,if_neg mR]
       by_cases mS:j % 2=1
       .rw[if_pos mS,if_pos mS,if_neg oG]
       .rw[if_neg mS,if_neg mS]
    .rw[if_neg h1,T.tg,T.tg,T.A1 v f _ _ _ (jg h0 h1)]
     by_cases hj:j=i
     .subst hj;simp[h0,h1]
     .rw[if_neg hj]
      by_cases mR:j=0
      .rw[if_pos mR,if_pos mR]
      .rw[if_neg mR,if_neg mR]
       by_cases mS:j % 2=1
       .rw[if_pos mS,if_pos mS]
       .rw[if_neg mS,if_neg mS,if_neg oG]
def T.put{α:Type}(t:T α)(i:Nat)(v:Option α):Option (T α):=bif Nat.blt i 1000000 then some (T.set 20 t i v) else none
theorem T.N7{α:Type}{t t':T α}{i:Nat}{v:Option α}(h:t.put i v=some t')(j:Nat):t'.get j=if j=i then v else t.get j:=by
 unfold T.put at h
 cases hb:Nat.blt i 1000000 with
 |false=>rw[hb] at h;cases h
 |true=>
  rw[hb] at h
  simp only[cond_true,Option.some.injEq] at h
  subst h
  have:i<1000000:=by simpa using hb
  exact T.A1 v 20 t i j oG
structure bI where
 env:T D
 mem:T Row
 nx:Nat
def cV(t:T D):Env:=fun i=>(t.get i).getD .u
def eE(t:T Row):Mem:=fun i=>t.get i
def bI.st(c:bI):St:=⟨cV c.env,eE c.mem,c.nx⟩
theorem Hj{t t':T D}{i:Nat}{d:D}(h:t.put i (some d)=some t'):cV t'=up (cV t) i d:=by
 funext j
 simp only[cV,T.N7 h,up_apply]
 split<;>rfl
theorem Nr{t t':T Row}{i:Nat}{r:Option Row}(h:t.put i r=some t'):eE t'=up (eE t) i r:=by
 funext j
 simp only[eE,T.N7 h,up_apply]
def zs(t:T D):Option Nat->D->Option (T D)
 |none,_=>some t
 |some i,d=>t.put i (some d)
def BW(m:T Row):List (Nat×Option Row)->Option (T Row)
 |[]=>some m
 |(i,r)::us=>match m.put i r with
  |some m'=>BW m' us
  |none=>none
theorem HL{t t':T D}{dst:Option Nat}{d:D}(h:zs t dst d=some t')(m:Mem)(nx:Nat):(⟨cV t',m,nx⟩:St)=St.put ⟨cV t,m,nx⟩ dst d:=by
 cases dst with
 |none=>simp only[zs,Option.some.injEq] at h;subst h;rfl
 |some i=>simp only[zs] at h;simp only[St.put,Hj h]
theorem Ns:∀ {us:List (Nat×Option Row)} {m m':T Row},BW m us=some m'->eE m'=upds (eE m) us
 |[],m,m',h=>by simp only[BW,Option.some.injEq] at h;subst h;rfl
 |(i,r)::us,m,m',h=>by
  simp only[BW] at h
  cases hp:m.put i r with
  |none=>rw[hp] at h;cases h
  |some m1=>
   rw[hp] at h
   simp only at h
   rw[Ns h,Nr hp]
   rfl
def oT:Nat->D->Bool
 |0,_=>false
 |n+1,d=>match d with
  | .rs .. | .rp .. | .mp _=>false
  | .opt _ d=>oT n d
  | .agg cs | .tup cs | .pt cs | .sl cs _=>cs.all (oT n)
  | .fn _ fs cs=>fs.all (oT n)&&cs.all (oT n)
  | .im es=>es.all fun x=>oT n x.2
  |_=>true
section
variable{P:Program}{F:Nat->Prop}{β:Pla}{w:World}
theorem oe:∀ {n:Nat} {d:D},oT n d=true->Tr d
 |0,_,h=>by cases h
 |n+1,d,h=>by
  cases d with
  |rs=>cases h
  |rp=>cases h
  |mp=>cases h
  |opt c d=>exact .opt (oe h)
  |agg cs=>exact .agg fun d hd=>oe (List.all_eq_true.1 h d hd)
  |tup cs=>exact .tup fun d hd=>oe (List.all_eq_true.1 h d hd)
  |sl cs n=>exact .sl fun d hd=>oe (List.all_eq_true.1 h d hd)
  |pt cs=>exact .pt fun d hd=>oe (List.all_eq_true.1 h d hd)
  |fn f fs cs=>
   simp only[oT,Bool.and_eq_true] at h
   exact .fn (fun d hd=>oe (List.all_eq_true.1 h.1 d hd)) fun d hd=>oe (List.all_eq_true.1 h.2 d hd)
  |im es=>exact .im fun x hx=>oe (List.all_eq_true.1 h x hx)
  |s v=>exact .s v
  |ub=>exact .ub
  |u=>exact .u
  |z=>exact .z
def gY{α β:Type}(f:α->Option (β×List Nat)):List α->Option (List β×List Nat)
 |[]=>some ([],[])
 |x::xs=>match f x with
  |none=>none
  |some y=>match gY f xs with
   |none=>none
   |some ys=>some (y.1::ys.1,y.2++ys.2)
theorem DH{α β:Type}{f:α->Option (β×List Nat)}:∀ {xs:List α} {ys:List β} {r:List Nat},gY f xs=some (ys,r)->
 ys.length=xs.length/\(∀ (k:Nat) (y:β),ys[k]? =some y->∃ x r',xs[k]? =some x/\f x=some (y,r')/\∀ i∈r',i∈r)
 |[],ys,r,h=>by simp only[gY,Option.some.injEq,Prod.mk.injEq] at h;obtain⟨rfl,rfl⟩:=h;simp
 |x::xs,ys,r,h=>by
  simp only[gY] at h
  cases hx:f x with
  |none=>rw[hx] at h;cases h
  |some y=>
   rw[hx] at h
   simp only at h
   cases sP:gY f xs with
   |none=>rw[sP] at h;cases h
   |some yy=>
    rw[sP] at h
    simp only[Option.some.injEq,Prod.mk.injEq] at h
    obtain⟨rfl,rfl⟩:=h
    obtain⟨h1,h2⟩:=DH (ys:=yy.1) (r:=yy.2) sP
    refine⟨by simp[h1],fun k z hz=>?_⟩
    cases k with
    |zero=>
     simp only[List.getElem?_cons_zero,Option.some.injEq] at hz
     subst hz
     exact⟨x,y.2,rfl,hx,fun i hi=>by simp[hi]⟩
    |succ k=>
     obtain⟨x',r',g1,g2,g3⟩:=h2 k z (by simpa using hz)
     exact⟨x',r',by simpa using g1,g2,fun i hi=>by simp[g3 i hi]⟩
def bV(P:Program)(m:Mem):Nat->D->Option (D×List Nat)
 |0,_=>none
 |n+1,d=>match d with
  | .mp i=>match m i with
   |some (.map es)=>(gY (fun x=>(bV P m n x.2).map fun y=>((x.1,y.1),y.2)) es).map fun x=>(.im x.1,i::x.2)
   |_=>none
  | .im es=>(gY (fun x=>(bV P m n x.2).map fun y=>((x.1,y.1),y.2)) es).map fun x=>(.im x.1,x.2)
  | .rs i off k=>match m i with
   |some (.cells cs e)=>(gY (bV P m n) ((cs.drop off).take (k*P.cellsOf e))).map fun x=>(.sl x.1 k,i::x.2)
   |_=>none
  | .rp i off=>match m i with
   |some (.cells cs _)=>(gY (bV P m n) (cs.drop off)).map fun x=>(.pt x.1,i::x.2)
   |_=>none
  | .opt true d=>(bV P m n d).map fun x=>(.opt true x.1,x.2)
  | .opt false _=>some (.opt false .u,[])
  | .agg cs=>(gY (bV P m n) cs).map fun x=>(.agg x.1,x.2)
  | .tup cs=>(gY (bV P m n) cs).map fun x=>(.tup x.1,x.2)
  | .sl cs k=>(gY (bV P m n) cs).map fun x=>(.sl x.1 k,x.2)
  | .pt cs=>(gY (bV P m n) cs).map fun x=>(.pt x.1,x.2)
  | .fn f fs cs=>match gY (bV P m n) fs with
   |none=>none
   |some x=>(gY (bV P m n) cs).map fun y=>(.fn f x.1 y.1,x.2++y.2)
  | .s v=>some (.s v,[])
  | .ub=>some (.ub,[])
  | .u=>some (.u,[])
  | .z=>some (.z,[])
theorem qm{α β:Type}{f:α->Option (β×List Nat)}{xs:List α}{ys:List β}{r:List Nat}(h:gY f xs=some (ys,r)){p:β->Prop}(hp:∀ x y r',f x=some (y,r')->p y):∀ y∈ys,p y:=fun y hy=>by
 obtain⟨k,hk⟩:=List.getElem?_of_mem hy
 obtain⟨x,r',_,h2,_⟩:=(DH h).2 k y hk
 exact hp x y r' h2
theorem D'{m:Mem}:∀ {n:Nat} {d d':D} {r:List Nat},bV P m n d=some (d',r)->Tr d'
 |0,_,_,_,h=>by cases h
 |n+1,d,d',r,h=>by
  have ih:∀ x y r',bV P m n x=some (y,r')->Tr y:=fun x y r' h=>D' h
  have VR:∀ (x:Value×D) (y:Value×D) r',(bV P m n x.2).map (fun y=>((x.1,y.1),y.2))=some (y,r')->Tr y.2:=fun x y r' h=>by
   simp only[Option.map_eq_some_iff,Prod.mk.injEq] at h
   obtain⟨z,hz,rfl,_⟩:=h
   exact D' (r:=z.2) hz
  cases d with
  |mp i=>
   simp only[bV] at h
   split at h
   .simp only[Option.map_eq_some_iff,Prod.mk.injEq] at h
    obtain⟨x,hx,rfl,_⟩:=h
    exact .im (qm (ys:=x.1) (r:=x.2) hx VR)
   .cases h
  |im es=>
   simp only[bV,Option.map_eq_some_iff,Prod.mk.injEq] at h
   obtain⟨x,hx,rfl,_⟩:=h
   exact .im (qm (ys:=x.1) (r:=x.2) hx VR)
  |rs i off k=>
   simp only[bV] at h
   split at h
   .simp only[Option.map_eq_some_iff,Prod.mk.injEq] at h
    obtain⟨x,hx,rfl,_⟩:=h
    exact .sl (qm (ys:=x.1) (r:=x.2) hx ih)
   .cases h
  |rp i off=>
   simp only[bV] at h
   split at h
   .simp only[Option.map_eq_some_iff,Prod.mk.injEq] at h
    obtain⟨x,hx,rfl,_⟩:=h
    exact .pt (qm (ys:=x.1) (r:=x.2) hx ih)
   .cases h
  |opt c d=>
   cases c with
   |true=>
    simp only[bV,Option.map_eq_some_iff,Prod.mk.injEq] at h
    obtain⟨x,hx,rfl,_⟩:=h
    exact .opt (D' (r:=x.2) hx)
   |false=>simp only[bV,Option.some.injEq,Prod.mk.injEq] at h;obtain⟨rfl,_⟩:=h;exact .opt .u
  |agg cs=>
   simp only[bV,Option.map_eq_some_iff,Prod.mk.injEq] at h
   obtain⟨x,hx,rfl,_⟩:=h
   exact .agg (qm (ys:=x.1) (r:=x.2) hx ih)
  |tup cs=>
   simp only[bV,Option.map_eq_some_iff,Prod.mk.injEq] at h
   obtain⟨x,hx,rfl,_⟩:=h
   exact .tup (qm (ys:=x.1) (r:=x.2) hx ih)
  |sl cs k=>
   simp only[bV,Option.map_eq_some_iff,Prod.mk.injEq] at h
   obtain⟨x,hx,rfl,_⟩:=h
   exact .sl (qm (ys:=x.1) (r:=x.2) hx ih)
  |pt cs=>
   simp only[bV,Option.map_eq_some_iff,Prod.mk.injEq] at h
   obtain⟨x,hx,rfl,_⟩:=h
   exact .pt (qm (ys:=x.1) (r:=x.2) hx ih)
  |fn f fs cs=>
   simp only[bV] at h
   cases hx:gY (bV P m n) fs with
   |none=>rw[hx] at h;cases h
   |some x=>
    rw[hx] at h
    simp only[Option.map_eq_some_iff,Prod.mk.injEq] at h
    obtain⟨y,hy,rfl,_⟩:=h
    exact .fn (qm (ys:=x.1) (r:=x.2) hx ih) (qm (ys:=y.1) (r:=y.2) hy ih)
  |s v=>simp only[bV,Option.some.injEq,Prod.mk.injEq] at h;obtain⟨rfl,_⟩:=h;exact .s v
  |ub=>simp only[bV,Option.some.injEq,Prod.mk.injEq] at h;obtain⟨rfl,_⟩:=h;exact .ub
  |u=>simp only[bV,Option.some.injEq,Prod.mk.injEq] at h;obtain⟨rfl,_⟩:=h;exact .u
  |z=>simp only[bV,Option.some.injEq,Prod.mk.injEq] at h;obtain⟨rfl,_⟩:=h;exact .z
def ac5(P:Program)(F:Nat->Prop)(β:Pla)(w:World)(m:Mem)(rds:List Nat):Prop:=∀ i∈rds,∀ r,m i=some r->∃ p,β i=some p/\RowR P F β w r p/\∀ b,p.blk=some b->¬ F b
theorem yH(b:Nat):noRows.free b:=fun i p hp=>by cases hp
theorem Bx{m:Mem}:∀ {n:Nat} {d d':D} {r:List Nat},bV P m n d=some (d',r)->ac5 P F β w m r->∀ {v:Value},R F β w d v->R F noRows w d' v
 |0,_,_,_,h,_,_,_=>by cases h
 |n+1,d,d',r,h,hl,v,hv=>by
  have many:∀ {xs ys:List D} {r':List Nat},gY (bV P m n) xs=some (ys,r')->(∀ i∈r',i∈r)->ys.length=xs.length/\∀ (k:Nat) (d:D) (u:Value),ys[k]? =some d->(∀ d0,xs[k]? =some d0->R F β w d0 u)->R F noRows w d u:=fun h hr=>by
   obtain⟨h1,h2⟩:=DH h
   refine⟨h1,fun k d u hd hu=>?_⟩
   obtain⟨x,r2,g1,g2,g3⟩:=h2 k d hd
   exact Bx g2 (fun i hi=>hl i (hr i (g3 i hi))) (hu x g1)
  have look:∀ {i:Nat} {cs:List D} {e:TypeId},i∈r->m i=some (.cells cs e)->∃ p,β i=some p/\RowR P F β w (.cells cs e) p/\∀ b,p.blk=some b->¬ F b:=fun hi hm=>hl _ hi _ hm
  have Ue:∀ {es ys:List (Value×D)} {r':List Nat} {ms:Array MapEntry},gY (fun x=>(bV P m n x.2).map fun y=>((x.1,y.1),y.2)) es=some (ys,r')->(∀ i∈r',i∈r)->ms.size=es.length->(es.map (·.1)).Nodup->
   (∀ (k:Nat) (x:Value×D) (m:MapEntry),es[k]? =some x->ms[k]? =some m->m.key=x.1/\R F β w x.2 m.val)->
   ms.size=ys.length/\(ys.map (·.1)).Nodup/\(∀ (k:Nat) (x:Value×D) (m:MapEntry),ys[k]? =some x->ms[k]? =some m->m.key=x.1)/\∀ (k:Nat) (x:Value×D) (m:MapEntry),ys[k]? =some x->ms[k]? =some m->R F noRows w x.2 m.val:=fun {es ys r' ms} h hr bL dA hh=>by
   obtain⟨h1,h2⟩:=DH h
   have key:∀ (k:Nat) (y:Value×D),ys[k]? =some y->∃ x r2,es[k]? =some x/\y.1=x.1/\bV P m n x.2=some (y.2,r2)/\∀ i∈r2,i∈r':=fun k y hy=>by
    obtain⟨x,r2,g1,g2,g3⟩:=h2 k y hy
    simp only[Option.map_eq_some_iff,Prod.mk.injEq] at g2
    obtain⟨z,hz,rfl,rfl⟩:=g2
    exact⟨x,z.2,g1,rfl,hz,g3⟩
   have keys:ys.map (·.1)=es.map (·.1):=by
    refine List.ext_getElem? fun k=>?_
    simp only[List.getElem?_map]
    cases hy:ys[k]? with
    |some y=>
     obtain⟨x,_,g1,g2,_⟩:=key k y hy
     simp[g1,g2]
    |none=>
     have:es[k]? =none:=by
      rw[List.getElem?_eq_none_iff] at hy ⊢
      omega
     simp[this]
   refine⟨by rw[h1];exact bL,by rw[keys];exact dA,fun k y mm hy fh=>?_,fun k y mm hy fh=>?_⟩
   .obtain⟨x,r2,g1,g2,_⟩:=key k y hy
    rw[g2];exact(hh k x mm g1 fh).1
   .obtain⟨x,r2,g1,_,g3,g4⟩:=key k y hy
    exact Bx g3 (fun i hi=>hl i (hr i (g4 i hi))) (hh k x mm g1 fh).2
  cases d with
  |mp i=>
   simp only[bV] at h
   split at h
   .rename_i es hm
    simp only[Option.map_eq_some_iff,Prod.mk.injEq] at h
    obtain⟨x,hx,rfl,rfl⟩:=h
    obtain⟨p,hp,av,uf⟩:=hl i (List.mem_cons_self ..) _ hm
    cases hv with
    |mpd _ _ h1 _=>rw[h1] at hp;cases hp;exact absurd rfl av.live
    |mp _ b h1=>
     rw[h1] at hp
     cases hp
     cases av with
     |map _ _ ms clock g1 g2 g3 g4=>
      obtain⟨k1,k2,k3,k4⟩:=Ue (ys:=x.1) (r':=x.2) hx (fun i hi=>List.mem_cons_of_mem _ hi) g2 g3 g4
      exact .im x.1 b ms clock (uf b rfl) (yH b) g1 k1 k2 k3 k4
   .cases h
  |im es=>
   simp only[bV,Option.map_eq_some_iff,Prod.mk.injEq] at h
   obtain⟨x,hx,rfl,rfl⟩:=h
   cases hv with
   |im _ b ms clock hf hb hc g2 g3 g4 g5=>
    obtain⟨k1,k2,k3,k4⟩:=Ue (ys:=x.1) (r':=x.2) hx (fun _ h=>h) g2 g3 (fun k x m hx hm=>⟨g4 k x m hx hm,g5 k x m hx hm⟩)
    exact .im x.1 b ms clock hf (yH b) hc k1 k2 k3 k4
  |rs i off k=>
   simp only[bV] at h
   split at h
   .rename_i cs e hm
    simp only[Option.map_eq_some_iff,Prod.mk.injEq] at h
    obtain⟨x,hx,rfl,rfl⟩:=h
    obtain⟨p,hp,av,uf⟩:=look (List.mem_cons_self ..) hm
    obtain⟨g1,g2⟩:=many (ys:=x.1) (r':=x.2) hx (fun i hi=>List.mem_cons_of_mem _ hi)
    have nil:(cs.drop off).take (k*P.cellsOf e)=[]->x.1=[]:=fun e=>by
     rw[e] at g1
     exact List.eq_nil_of_length_eq_zero (by simpa using g1)
    cases hv with
    |rsd _ _ _ _ h1 _=>
     rw[h1] at hp
     cases hp
     exact absurd rfl av.live
    |rsn _ a h1=>
     rw[h1] at hp
     cases hp
     cases av
     rw[nil (by simp)]
     exact .sln a 0
    |rsz _ _ a b o len room sz h1=>
     rw[nil (by simp)]
     exact .sln a 0
    |rs _ _ _ cap b o len room sz h1 hn eY h2 h3=>
     rw[h1] at hp
     cases hp
     obtain⟨cQ,hl,bL,_⟩:=av.rd
     obtain⟨us,u1,u2⟩:=(cQ.drop off).take (k*P.cellsOf e)
     have aj:b<w.heap.size:=by
      cases av with
      |cells _ _ _ _ _ _ c hb=>exact(Array.getElem?_eq_some_iff.1 hb).1
     exact .sl x.1 k b (o+off) cap us (uf b rfl) (yH b) aj hn eY (fun j hj=>u1 j (by rw[<- g1];exact hj)) fun j d hd=>g2 j d _ hd fun d0 j3=>u2 j d0 j3
   .cases h
  |rp i off=>
   simp only[bV] at h
   split at h
   .rename_i cs e hm
    simp only[Option.map_eq_some_iff,Prod.mk.injEq] at h
    obtain⟨x,hx,rfl,rfl⟩:=h
    obtain⟨p,hp,av,uf⟩:=look (List.mem_cons_self ..) hm
    obtain⟨g1,g2⟩:=many (ys:=x.1) (r':=x.2) hx (fun i hi=>List.mem_cons_of_mem _ hi)
    cases hv with
    |rpd _ _ _ h1 _=>
     rw[h1] at hp
     cases hp
     exact absurd rfl av.live
    |rp _ _ b o len room sz h1=>
     rw[h1] at hp
     cases hp
     obtain⟨cQ,hl,bL,_⟩:=av.rd
     obtain⟨us,u1,u2⟩:=cQ.drop off
     have aj:b<w.heap.size:=by
      cases av with
      |cells _ _ _ _ _ _ c hb=>exact(Array.getElem?_eq_some_iff.1 hb).1
     exact .pt x.1 b (o+off) us (uf b rfl) (yH b) aj (fun j hj=>u1 j (by rw[<- g1];exact hj)) fun j d hd=>g2 j d _ hd fun d0 j3=>u2 j d0 j3
   .cases h
  |opt c d=>
   cases hv with
   |opt _ _ _ h1 h2=>
   cases c with
   |true=>
    simp only[bV,Option.map_eq_some_iff,Prod.mk.injEq] at h
    obtain⟨x,hx,rfl,rfl⟩:=h
    exact .opt true _ v (fun _=>Bx (r:=x.2) hx hl (h1 rfl)) (by simp)
   |false=>simp only[bV,Option.some.injEq,Prod.mk.injEq] at h;obtain⟨rfl,_⟩:=h;exact .opt false _ v (by simp) h2
  |agg cs=>
   simp only[bV,Option.map_eq_some_iff,Prod.mk.injEq] at h
   obtain⟨x,hx,rfl,rfl⟩:=h
   obtain⟨vs,rfl,sN,hh⟩:=hv.agg_inv
   obtain⟨g1,g2⟩:=many (ys:=x.1) (r':=x.2) hx (fun _ h=>h)
   exact .agg _ vs (by rw[g1];exact sN) fun k d u hd hu=>g2 k d u hd fun d0 j3=>hh k d0 u j3 hu
  |tup cs=>
   simp only[bV,Option.map_eq_some_iff,Prod.mk.injEq] at h
   obtain⟨x,hx,rfl,rfl⟩:=h
   obtain⟨vs,rfl,sN,hh⟩:=hv.tup_inv
   obtain⟨g1,g2⟩:=many (ys:=x.1) (r':=x.2) hx (fun _ h=>h)
   exact .tup _ vs (by rw[g1];exact sN) fun k d u hd hu=>g2 k d u hd fun d0 j3=>hh k d0 u j3 hu
  |sl cs k=>
   simp only[bV,Option.map_eq_some_iff,Prod.mk.injEq] at h
   obtain⟨x,hx,rfl,rfl⟩:=h
   obtain⟨g1,g2⟩:=many (ys:=x.1) (r':=x.2) hx (fun _ h=>h)
   cases hv with
   |sln a cap=>
    have:x.1=[]:=List.eq_nil_of_length_eq_zero (by simpa using g1)
    rw[this];exact .sln a cap
   |sl _ _ b o cap us hf hb aj pN eY hc hh=>
    exact .sl _ k b o cap us hf (yH b) aj pN eY (fun j hj=>hc j (by rw[<- g1];exact hj)) fun j d hd=>g2 j d _ hd fun d0 j3=>hh j d0 j3
  |pt cs=>
   simp only[bV,Option.map_eq_some_iff,Prod.mk.injEq] at h
   obtain⟨x,hx,rfl,rfl⟩:=h
   obtain⟨g1,g2⟩:=many (ys:=x.1) (r':=x.2) hx (fun _ h=>h)
   cases hv with
   |pt _ b o us hf hb aj hc hh=>
    exact .pt _ b o us hf (yH b) aj (fun j hj=>hc j (by rw[<- g1];exact hj)) fun j d hd=>g2 j d _ hd fun d0 j3=>hh j d0 j3
  |fn f fs cs=>
   simp only[bV] at h
   cases hx:gY (bV P m n) fs with
   |none=>rw[hx] at h;cases h
   |some x=>
    rw[hx] at h
    simp only[Option.map_eq_some_iff,Prod.mk.injEq] at h
    obtain⟨y,hy,rfl,rfl⟩:=h
    obtain⟨g1,g2⟩:=many (ys:=x.1) (r':=x.2) hx (fun _ h=>List.mem_append_left _ h)
    obtain⟨k1,k2⟩:=many (ys:=y.1) (r':=y.2) hy (fun _ h=>List.mem_append_right _ h)
    cases hv with
    |fn _ _ _ us vs KE sN h1 h2=>
     exact .fn f _ _ us vs (by rw[g1];exact KE) (by rw[k1];exact sN) (fun k d u hd hu=>g2 k d u hd fun d0 j3=>h1 k d0 u j3 hu) fun k d u hd hu=>k2 k d u hd fun d0 j3=>h2 k d0 u j3 hu
  |s v=>simp only[bV,Option.some.injEq,Prod.mk.injEq] at h;obtain⟨rfl,_⟩:=h;obtain⟨rfl,h⟩:=hv.s_inv;exact .s _ h
  |ub=>simp only[bV,Option.some.injEq,Prod.mk.injEq] at h;obtain⟨rfl,_⟩:=h;obtain⟨b,rfl⟩:=hv.ub_inv;exact .ub b
  |u=>simp only[bV,Option.some.injEq,Prod.mk.injEq] at h;obtain⟨rfl,_⟩:=h;exact .u v
  |z=>simp only[bV,Option.some.injEq,Prod.mk.injEq] at h;obtain⟨rfl,_⟩:=h;obtain⟨a,rfl⟩:=hv.z_inv;exact .z a
end
section
variable(P:Program)
def vo(env:Env)(o:Op):Bool:=match o with
 | .pick c _ _=>decide (opd env c).ask
 |o=>o.operands.toList.all fun x=>decide (opd env x).ask
theorem GM{env:Env}{o:Op}(h:vo env o=true):asks env o:=by
 unfold vo at h
 unfold asks
 cases o<;>first|exact of_decide_eq_true h|exact fun x hx=>of_decide_eq_true (List.all_eq_true.1 h x hx)
abbrev sm:=FuncId->List D->Bool->T Row->Nat->Option (D×T Row×Nat×List Nat×List Nat)
def Ea(call:sm)(f:FuncId)(args:List D)(dr:Bool)(o:Oper)(c:bI):Option (bI×List Nat×List Nat):=
 bif vo (cV c.env) o.op then match call f args dr c.mem c.nx with
  |some (r,m,nx,rd,wr)=>match zs c.env o.dst r with
   |some env=>some (⟨env,m,nx⟩,rd,wr)
   |none=>none
  |none=>none
 else none
def EZ(e:eZ)(o:Oper)(c:bI):Option (bI×List Nat×List Nat):=
 bif vo (cV c.env) o.op then match e.dec with
  |isTrue _=>match BW c.mem e.ups with
   |some m=>match zs c.env o.dst e.val with
    |some env=>some (⟨env,m,c.nx+e.new⟩,e.rd,e.ups.map (·.1))
    |none=>none
   |none=>none
  |isFalse _=>none
 else none
def vp(o:Oper)(d:D)(rd:List Nat)(c:bI):Option (bI×List Nat×List Nat):=match zs c.env o.dst d with
 |some env=>some (⟨env,c.mem,c.nx⟩,rd,[])
 |none=>none
def KM(call:sm)(ops:Array Oper)(dr:Bool)(o:Oper)(c:bI):Option (bI×List Nat×List Nat):=
 match o.guard with
 |none=>match callD (rho (cV c.env) o.op) o.op with
  |some (f,args)=>Ea call f args dr o c
  |none=>match yieldD (rho (cV c.env) o.op) o.op with
   |some _=>none
   |none=>match iW P o.op (rho (cV c.env) o.op) (eE c.mem) c.nx with
    |some e=>EZ e o c
    |none=>none
 |some (j,b)=>match ((ops[j]?).bind (·.dst)).bind fun t=>guardC (cV c.env t) b with
  |none=>none
  |some g=>match callD (rho (cV c.env) o.op) o.op with
   |some (f,args)=>bif g then Ea call f args dr o c else vp o skipD [] c
   |none=>match yieldD (rho (cV c.env) o.op) o.op with
    |some _=>bif g then none else vp o skipD [] c
    |none=>match iW P o.op (rho (cV c.env) o.op) (eE c.mem) c.nx with
     |some e=>bif e.ups.isEmpty&&Nat.beq e.new 0 then
      bif g then bif vo (cV c.env) o.op then match e.dec with
       |isTrue _=>vp o (.opt true e.val) e.rd c
       |isFalse _=>none
      else none
      else vp o (.opt false e.val) e.rd c
      else bif g then EZ e o c else vp o skipD [] c
     |none=>bif g then none else vp o skipD [] c
def zt(call:sm)(ops:Array Oper)(dr:Bool):List Oper->bI->Tra->Option (bI×Tra)
 |[],c,tr=>some (c,tr)
 |o::os,c,tr=>match KM P call ops dr o c with
  |some (c',rd,wr)=>zt call ops dr os c' (tr++[(rd,wr)])
  |none=>none
def Eo(tr:Tra)(i j:Nat):Bool:=
 let a:=tr.getD i ([],[])
 let b:=tr.getD j ([],[])
 (a.2.all fun x=> !(b.1.any (Nat.beq x))&& !(b.2.any (Nat.beq x)))&&b.2.all fun x=> !(a.1.any (Nat.beq x))
theorem ZH{tr:Tra}{i j:Nat}(h:Eo tr i j=true):apartT tr i j:=by
 unfold Eo at h
 simp only[Bool.and_eq_true,List.all_eq_true,Bool.not_eq_true',List.any_eq_false,Nat.beq_eq] at h
 obtain⟨h1,h2⟩:=h
 exact⟨fun x hx=>⟨fun hb=>(h1 x hx).1 x hb rfl,fun hb=>(h1 x hx).2 x hb rfl⟩,fun x hx ha=>h2 x hx x ha rfl⟩
def HM(call:sm)(ops:Array Oper)(dr:Bool)(c:bI):Option bI:=
 bif dr then match drawInfo ops with
  |some cf=>match zt P call ops true ops.toList c [] with
   |some (c',tr)=>bif cf.all fun q=>Eo tr q.1 q.2 then some c' else none
   |none=>none
  |none=>none
 else match zt P call ops false ops.toList c [] with
  |some (c',_)=>some c'
  |none=>none
def By(call:sm):Prop:=∀ f args dr m nx r m' nx' rd wr,call f args dr m nx=some (r,m',nx',rd,wr)->∀ env (K:D->Mem->Nat->List Nat->List Nat->Prop),K r (eE m') nx' rd wr->CallOp P dr ⟨env,eE m,nx⟩ f args K
end
section
variable{P:Program}
theorem Mm{call:sm}(hc:By P call){f:FuncId}{args:List D}{dr:Bool}{o:Oper}{c:bI}{c':bI}{rd wr:List Nat}(h:Ea call f args dr o c=some (c',rd,wr)){K:St->List Nat->List Nat->Prop}(hK:K c'.st rd wr):
 asks c.st.env o.op/\CallOp P dr c.st f args fun r m nx rd wr=>K (St.put ⟨c.st.env,m,nx⟩ o.dst r) rd wr:=by
 unfold Ea at h
 cases ha:vo (cV c.env) o.op with
 |false=>rw[ha] at h;cases h
 |true=>
  rw[ha] at h
  simp only[cond_true] at h
  refine⟨GM ha,?_⟩
  split at h
  .rename_i r m nx KN wr' nz
   split at h
   .rename_i env tL
    simp only[Option.some.injEq,Prod.mk.injEq] at h
    obtain⟨rfl,rfl,rfl⟩:=h
    refine hc _ _ _ _ _ _ _ _ _ _ nz _ _ ?_
    have:=HL tL (eE m) nx
    simp only[bI.st] at hK ⊢
    rw[<- this];exact hK
   .cases h
  .cases h
theorem yK{o:Oper}{d:D}{rd KN wr:List Nat}{c c':bI}(h:vp o d rd c=some (c',KN,wr)):c'.st=St.put c.st o.dst d/\KN=rd/\wr=[]:=by
 unfold vp at h
 split at h
 .rename_i env tL
  simp only[Option.some.injEq,Prod.mk.injEq] at h
  obtain⟨rfl,rfl,rfl⟩:=h
  exact⟨HL tL (eE c.mem) c.nx,rfl,rfl⟩
 .cases h
theorem Nt{e:eZ}{o:Oper}{c c':bI}{rd wr:List Nat}(h:EZ e o c=some (c',rd,wr)){K:St->List Nat->List Nat->Prop}(hK:K c'.st rd wr):
 asks c.st.env o.op/\e.pre/\K (St.put ⟨c.st.env,upds c.st.mem e.ups,c.st.nx+e.new⟩ o.dst e.val) e.rd (e.ups.map (·.1)):=by
 unfold EZ at h
 cases ha:vo (cV c.env) o.op with
 |false=>rw[ha] at h;cases h
 |true=>
  rw[ha] at h
  simp only[cond_true] at h
  refine⟨GM ha,?_⟩
  split at h
  .rename_i hp _
   refine⟨hp,?_⟩
   split at h
   .rename_i m hm
    split at h
    .rename_i env tL
     simp only[Option.some.injEq,Prod.mk.injEq] at h
     obtain⟨rfl,rfl,rfl⟩:=h
     have:=HL tL (eE m) (c.nx+e.new)
     simp only[bI.st] at hK ⊢
     rw[<- Ns hm, <- this];exact hK
    .cases h
   .cases h
  .cases h
theorem ME{o:Op}{ρ:Operand->D}{m:Mem}{nx:Nat}{e:eZ}(h:iW P o ρ m nx=some e):aop P o ρ m nx=some e.hZ:=by rw[N6,h];rfl
theorem Yy{o:Op}{ρ:Operand->D}{m:Mem}{nx:Nat}(h:iW P o ρ m nx=none):aop P o ρ m nx=none:=by rw[N6,h];rfl
theorem abV{call:sm}(nz:By P call){ops:Array Oper}{dr:Bool}{o:Oper}{c c':bI}{rd wr:List Nat}(h:KM P call ops dr o c=some (c',rd,wr)){K:St->List Nat->List Nat->Prop}(hK:K c'.st rd wr):
 AOp P noY ops dr o c.st K:=by
 unfold KM at h
 unfold AOp
 split at h
 .rename_i hg
  simp only[hg]
  split at h
  .rename_i f args hc
   obtain⟨h1,h2⟩:=Mm nz h hK
   refine⟨h1,?_⟩
   simp only[bI.st] at h2 ⊢
   rw[hc]
   exact h2
  .rename_i hc
   split at h
   .cases h
   .rename_i hy
    split at h
    .rename_i e he
     obtain⟨h1,h2,h3⟩:=Nt h hK
     refine⟨h1,?_⟩
     have:=ME he
     simp only[bI.st] at h2 h3 ⊢
     rw[hc]
     simp only
     rw[hy]
     simp only
     rw[this]
     exact⟨h2,h3⟩
    .cases h
 .rename_i j b hg
  simp only[hg]
  split at h
  .cases h
  .rename_i g hgc
   have aj5:(((ops[j]?).bind (·.dst)).bind fun t=>guardC (c.st.env t) b)=some g:=hgc
   rw[aj5]
   simp only
   split at h
   .rename_i f args hc
    have Ac:callD (rho c.st.env o.op) o.op=some (f,args):=hc
    rw[Ac]
    simp only
    cases g with
    |true=>
     simp only[cond_true] at h
     exact .inr ⟨fun _=>Mm nz h hK,by simp⟩
    |false=>
     simp only[cond_false] at h
     obtain⟨h1,rfl,rfl⟩:=yK h
     exact .inr ⟨by simp,fun _=>h1▸hK⟩
   .rename_i hc
    have Ac:callD (rho c.st.env o.op) o.op=none:=hc
    rw[Ac]
    simp only
    split at h
    .rename_i y hy
     have KO:yieldD (rho c.st.env o.op) o.op=some y:=hy
     rw[KO]
     obtain⟨l,args⟩:=y
     cases g with
     |true=>simp at h
     |false=>
      simp only[cond_false] at h
      obtain⟨h1,rfl,rfl⟩:=yK h
      exact⟨by simp,fun _=>h1▸hK⟩
    .rename_i hy
     have KO:yieldD (rho c.st.env o.op) o.op=none:=hy
     rw[KO]
     simp only
     split at h
     .rename_i e he
      have gP:aop P o.op (rho c.st.env o.op) c.st.mem c.st.nx=some e.hZ:=ME he
      rw[gP]
      cases vH:(e.ups.isEmpty&&Nat.beq e.new 0) with
      |true=>
       have hb:(e.hZ.ups.isEmpty&&e.hZ.new==0)=true:=by
        have:∀ a:Nat,(a==0)=Nat.beq a 0:=fun a=>by cases a<;>rfl
        simp only[eZ.hZ,this];exact vH
       simp only[hb,if_true]
       rw[vH] at h
       simp only[cond_true] at h
       cases g with
       |true=>
        simp only[cond_true] at h
        cases ha:vo (cV c.env) o.op with
        |false=>rw[ha] at h;cases h
        |true=>
         rw[ha] at h
         simp only[cond_true] at h
         split at h
         .rename_i hp _
          obtain⟨h1,rfl,rfl⟩:=yK h
          exact⟨fun _=>⟨GM ha,hp⟩,h1▸hK⟩
         .cases h
       |false=>
        simp only[cond_false] at h
        obtain⟨h1,rfl,rfl⟩:=yK h
        exact⟨by simp,h1▸hK⟩
      |false=>
       have hb:(e.hZ.ups.isEmpty&&e.hZ.new==0)=false:=by
        have:∀ a:Nat,(a==0)=Nat.beq a 0:=fun a=>by cases a<;>rfl
        simp only[eZ.hZ,this];exact vH
       simp only[hb,Bool.false_eq_true,if_false]
       rw[vH] at h
       simp only[cond_false] at h
       cases g with
       |true=>
        simp only[cond_true] at h
        exact⟨fun _=>Nt h hK,by simp⟩
       |false=>
        simp only[cond_false] at h
        obtain⟨h1,rfl,rfl⟩:=yK h
        exact⟨by simp,fun _=>h1▸hK⟩
     .rename_i he
      have gP:aop P o.op (rho c.st.env o.op) c.st.mem c.st.nx=none:=Yy he
      rw[gP]
      simp only
      cases g with
      |true=>simp at h
      |false=>
       simp only[cond_false] at h
       obtain⟨h1,rfl,rfl⟩:=yK h
       exact⟨rfl,h1▸hK⟩
theorem Hk{call:sm}(nz:By P call){ops:Array Oper}{dr:Bool}{cf:List (Nat×Nat)}{Q:Exit->St->Prop}:∀ (os:List Oper) (c c':bI) (tr nM:Tra),zt P call ops dr os c tr=some (c',nM)->(∀ q∈cf,apartT nM q.1 q.2)->Q .normal c'.st->
 AOps P noY ops dr cf Q os c.st tr
 |[],c,c',tr,nM,h,rh,hQ=>by
  simp only[zt,Option.some.injEq,Prod.mk.injEq] at h
  obtain⟨rfl,rfl⟩:=h
  exact⟨rh,hQ⟩
 |o::os,c,c',tr,nM,h,rh,hQ=>by
  simp only[zt] at h
  split at h
  .rename_i c1 rd wr h1
   exact abV nz h1 (Hk nz os c1 c' _ nM h rh hQ)
  .cases h
theorem XQ{call:sm}(nz:By P call){ops:Array Oper}{dr:Bool}{c c':bI}(h:HM P call ops dr c=some c'){id:Nat}{rf:Bool}{Q:Exit->St->Prop}(hQ:Q .normal c'.st):AW P noY rf (.region id ops dr) Q c.st:=by
 unfold HM at h
 cases dr with
 |true=>
  simp only[cond_true] at h
  split at h
  .rename_i cf rh
   split at h
   .rename_i c1 tr h1
    cases bj:cf.all fun q=>Eo tr q.1 q.2 with
    |false=>rw[bj] at h;cases h
    |true=>
     rw[bj] at h
     simp only[cond_true,Option.some.injEq] at h
     subst h
     show match drawInfo ops with
      |some cf=>AOps P noY ops true cf Q ops.toList c.st []
      |none=>False
     rw[rh]
     exact Hk nz _ _ _ _ _ h1 (fun q hq=>ZH (List.all_eq_true.1 bj q hq)) hQ
   .cases h
  .cases h
 |false=>
  simp only[cond_false] at h
  split at h
  .rename_i c1 tr h1
   simp only[Option.some.injEq] at h
   subst h
   exact Hk (cf:=[]) nz _ _ _ _ _ h1 (by simp) hQ
  .cases h
end
structure Ctx where
 FV:FuncId->Option (Func×Code)
 iter:FuncId->List D->List D->Option (List (List D))
 known:FuncId->List D->Option D
structure Ctx.Ok(P:Program)(x:Ctx):Prop where
 mix:P.follows .mixedOrders=true
 FV:∀ f fn c,x.FV f=some (fn,c)->pO P f fn c
 iter:∀ f fs cs xs,x.iter f fs cs=some xs->SeqA P f fs cs xs/\∀ y∈xs,∀ d∈y,Tr d
 known:∀ f args r,x.known f args=some r->PCall P f args r
def vd:Nat->List D->T D->Option (T D)
 |_,[],t=>some t
 |k,d::ds,t=>match t.put k (some d) with
  |some t'=>vd (k+1) ds t'
  |none=>none
theorem Mn:∀ {ds:List D} {k:Nat} {t t':T D},vd k ds t=some t'->∀ j,cV t' j=if k<=j/\j<k+ds.length then ds.getD (j - k) .u else cV t j
 |[],k,t,t',h,j=>by
  simp only[vd,Option.some.injEq] at h
  subst h
  rw[if_neg (by simp)]
 |d::ds,k,t,t',h,j=>by
  simp only[vd] at h
  split at h
  .rename_i t1 h1
   rw[Mn h j,Hj h1]
   by_cases hj:j=k
   .subst hj
    rw[if_neg oG,up_same,if_pos (by simp)]
    simp
   .rw[up_ne _ _ hj]
    by_cases aj:k+1<=j/\j<k+1+ds.length
    .rw[if_pos aj,if_pos (by simp;omega)]
     have:j - k=(j - (k+1))+1:=by omega
     rw[this]
     simp
    .rw[if_neg aj,if_neg (by simp;omega)]
  .cases h
theorem Mo{args:List D}{t:T D}(h:vd 0 args .leaf=some t):cV t=envOf args:=by
 funext j
 rw[Mn h j]
 unfold envOf
 split
 .simp
 .rename_i hj
  have:args.length<=j:=by omega
  simp[cV,T.get,this]
def yT:T D->List Tmp->List D->Option (T D)
 |t,p::ps,d::ds=>match t.put p (some d) with
  |some t'=>yT t' ps ds
  |none=>none
 |t,_,_=>some t
theorem Ma:∀ {ps:List Tmp} {ds:List D} {t t':T D},yT t ps ds=some t'->cV t'=setAll (cV t) ps ds
 |[],ds,t,t',h=>by simp only[yT,Option.some.injEq] at h;subst h;rfl
 |_::_,[],t,t',h=>by simp only[yT,Option.some.injEq] at h;subst h;rfl
 |p::ps,d::ds,t,t',h=>by
  simp only[yT] at h
  split at h
  .rename_i t1 h1
   rw[Ma h,Hj h1]
   rfl
  .cases h
section
variable(P:Program)
def Jo(c:bI):ResultVar->Option D
 | .tmp t=>some (cV c.env t)
 | .cell a t=>match cV c.env a with
  | .rp i off=>match c.mem.get i with
   |some (.cells cs _)=>bif tyOk P t&&Nat.ble (off+P.cellsOf t) cs.length then some (takeV P t (cs.drop off)) else none
   |_=>none
  | .pt cs=>bif tyOk P t&&Nat.ble (P.cellsOf t) cs.length then some (takeV P t cs) else none
  |_=>none
def zu(c:bI):List ResultVar->Option (List D)
 |[]=>some []
 |r::rs=>match Jo P c r with
  |some d=>match zu c rs with
   |some ds=>some (d::ds)
   |none=>none
  |none=>none
def BX(x:Ctx)(ev:Bool->Code->bI->Option (Exit×bI))(f:FuncId)(args:List D)(m:T Row)(nx:Nat):Option (D×T Row×Nat):=
 match x.FV f with
 |none=>none
 |some (fn,c)=>bif Nat.ble args.length fn.ntmps then
  match vd 0 args .leaf with
  |none=>none
  |some t=>match ev true c ⟨t,m,nx⟩ with
   |some (.normal,s)=>match zu P s fn.results.toList with
    |some ds=>some (one1 ds,s.mem,s.nx)
    |none=>none
   |some (.ret,s)=>match zu P s fn.results.toList with
    |some ds=>some (one1 ds,s.mem,s.nx)
    |none=>none
   |_=>none
  else none
def depth:Nat:=12
def zg(x:Ctx)(ev:Bool->Code->bI->Option (Exit×bI))(f:FuncId)(args:List D):Option (D ⊕ (List D×Nat×TypeId)):=
 match BX P x ev f args .leaf 0 with
 |none=>none
 |some (d,m,_)=>match d with
  | .rs i 0 k=>match m.get i with
   |some (.cells es t)=>bif es.all (oT depth) then some (.inr (es,k,t)) else match bV P (eE m) depth (.rs i 0 k) with
    |some (r,_)=>some (.inl r)
    |none=>none
   |_=>none
  |d=>match bV P (eE m) depth d with
   |some (r,_)=>some (.inl r)
   |none=>none
def IN(x:Ctx)(ev:Bool->Code->bI->Option (Exit×bI)):sm:=fun f args dr m nx=>
 match x.known f args with
 |some r=>some (r,m,nx,[],[])
 |none=>bif args.all (oT depth) then match zg P x ev f args with
  |some (.inl r)=>some (r,m,nx,[],[])
  |some (.inr (es,k,t))=>match m.put nx (some (.cells es t)) with
   |some m'=>some (.rs nx 0 k,m',nx+1,[],[nx])
   |none=>none
  |none=>none
  else bif dr then match gY (bV P (eE m) depth) args with
   |none=>none
   |some (args',rds)=>match x.known f args' with
    |some r=>bif r.scal then some (r,m,nx,rds,[]) else none
    |none=>match zg P x ev f args' with
     |some (.inl r)=>bif r.scal then some (r,m,nx,rds,[]) else none
     |_=>none
  else match BX P x ev f args m nx with
   |some (d,m',nx')=>some (d,m',nx',[],[])
   |none=>none
def A2(ev:Bool->Code->bI->Option (Exit×bI))(env:T D)(ps:List Tmp)(assign body:Code):List (List D)->T Row->Nat->Option (Exit×T Row×Nat)
 |[],m,nx=>some (.normal,m,nx)
 |y::ys,m,nx=>match yT env ps y with
  |none=>none
  |some t=>match ev false assign ⟨t,m,nx⟩ with
   |some (.normal,s)=>match ev false body s with
    |some (.normal,s')=>A2 ev env ps assign body ys s'.mem s'.nx
    |some (.ret,s')=>some (.ret,s'.mem,s'.nx)
    |some (.exit i,s')=>some (.exit i,s'.mem,s'.nx)
    |_=>none
   |_=>none
def pK(x:Ctx)(ev:Bool->Code->bI->Option (Exit×bI))(rf:Bool)(c:Code)(s:bI):Option (Exit×bI):=match c with
 | .skip=>some (.normal,s)
 | .region _ ops dr=>match HM P (IN P x ev) ops dr s with
  |some s'=>some (.normal,s')
  |none=>none
 | .seq a b=>match ev rf a s with
  |some (.normal,s')=>ev rf b s'
  |r=>r
 | .cond c a b=>bif decide (opd (cV s.env) c).ask then match (opd (cV s.env) c).core with
   | .s (.bool t)=>bif t then ev rf a s else ev rf b s
   |_=>none
  else none
 | .block id b=>match ev rf b s with
  |some (.exit i,s')=>bif Nat.beq i id then some (.normal,s') else some (.exit i,s')
  |r=>r
 | .scope b=>match ev rf b s with
  |some (.goto _,_)=>none
  |r=>r
 | .loop b=>match ev rf b s with
  |some (.normal,s')=>ev rf (.loop b) s'
  |r=>r
 | .rangeFunc g ps assign body=>bif rf&&decide (opd (cV s.env) g).ask then match (opd (cV s.env) g).core with
   | .fn (.func f) fs cs=>match x.iter f fs cs with
    |some ys=>bif ys.all fun y=>Nat.beq y.length ps.size then match A2 ev s.env ps.toList assign body ys s.mem s.nx with
     |some (e,m,nx)=>some (e,⟨s.env,m,nx⟩)
     |none=>none
     else none
    |none=>none
   |_=>none
  else none
 | .exit id=>some (.exit id,s)
 | .label _=>some (.normal,s)
 | .ret=>some (.ret,s)
 |_=>none
def yf(x:Ctx):Nat->Bool->Code->bI->Option (Exit×bI)
 |0=>fun _ _ _=>none
 |n+1=>pK P x (yf x n)
end
section
variable{P:Program}{x:Ctx}
theorem Ib{c:bI}{K:List D->Prop}:∀ {rs:List ResultVar} {ds acc:List D},zu P c rs=some ds->K (acc++ds)->retL P c.st rs acc K
 |[],ds,acc,h,hK=>by
  simp only[zu,Option.some.injEq] at h
  subst h
  simpa[retL] using hK
 |r::rs,ds,acc,h,hK=>by
  simp only[zu] at h
  split at h
  .rename_i d hd
   split at h
   .rename_i v8 fX
    simp only[Option.some.injEq] at h
    subst h
    have fR:∃ p,resD P c.st r=some (p,d)/\p:=by
     cases r with
     |tmp t=>
      simp only[Jo,Option.some.injEq] at hd
      exact⟨True,by simp only[resD,bI.st,hd],trivial⟩
     |cell a t=>
      simp only[Jo] at hd
      simp only[resD,bI.st]
      split at hd
      .rename_i i off ha
       rw[ha]
       simp only
       split at hd
       .rename_i cs e hm
        have je:eE c.mem i=some (.cells cs e):=hm
        rw[je]
        simp only
        cases hb:(tyOk P t&&Nat.ble (off+P.cellsOf t) cs.length) with
        |false=>rw[hb] at hd;cases hd
        |true=>
         rw[hb] at hd
         simp only[cond_true,Option.some.injEq] at hd
         simp only[Bool.and_eq_true,Nat.ble_eq] at hb
         exact⟨_,by rw[hd],hb⟩
       .cases hd
      .rename_i cs ha
       rw[ha]
       simp only
       cases hb:(tyOk P t&&Nat.ble (P.cellsOf t) cs.length) with
       |false=>rw[hb] at hd;cases hd
       |true=>
        rw[hb] at hd
        simp only[cond_true,Option.some.injEq] at hd
        simp only[Bool.and_eq_true,Nat.ble_eq] at hb
        exact⟨_,by rw[hd],hb⟩
      .cases hd
    obtain⟨p,h1,h2⟩:=fR
    simp only[retL,h1]
    exact⟨h2,Ib fX (by simpa using hK)⟩
   .cases h
  .cases h
def zv(P:Program)(ev:Bool->Code->bI->Option (Exit×bI)):Prop:=∀ rf c s e s',ev rf c s=some (e,s')->∀ Q:Exit->St->Prop,Q e s'.st->AW P noY rf c Q s.st
theorem N8(hx:x.Ok P){ev:Bool->Code->bI->Option (Exit×bI)}(jg:zv P ev){f:FuncId}{args:List D}{m m':T Row}{nx nx':Nat}{d:D}(h:BX P x ev f args m nx=some (d,m',nx')):
 ∃ fn c,pO P f fn c/\Nat.ble args.length fn.ntmps=true/\∀ K:D->St->Prop,(∀ env,K d ⟨env,eE m',nx'⟩)->AW P noY true c (retQ P fn.results.toList K) ⟨envOf args,eE m,nx⟩:=by
 unfold BX at h
 split at h
 .cases h
 .rename_i fn c aj6
  cases hb:Nat.ble args.length fn.ntmps with
  |false=>rw[hb] at h;cases h
  |true=>
   rw[hb] at h
   simp only[cond_true] at h
   split at h
   .cases h
   .rename_i t ht
    refine⟨fn,c,hx.FV f fn c aj6,hb,fun K hK=>?_⟩
    rw[<- Mo ht]
    split at h
    .rename_i s hs
     split at h
     .rename_i ds fX
      simp only[Option.some.injEq,Prod.mk.injEq] at h
      obtain⟨rfl,rfl,rfl⟩:=h
      exact jg _ _ _ _ _ hs _ (Ib (K:=fun ds=>K (one1 ds) s.st) fX (hK _))
     .cases h
    .rename_i s hs
     split at h
     .rename_i ds fX
      simp only[Option.some.injEq,Prod.mk.injEq] at h
      obtain⟨rfl,rfl,rfl⟩:=h
      exact jg _ _ _ _ _ hs _ (Ib (K:=fun ds=>K (one1 ds) s.st) fX (hK _))
     .cases h
    .cases h
theorem Yz:eE .leaf=fun _=>none:=rfl
theorem XR(mI:P.follows .mixedOrders=true){fn:Func}{f:FuncId}{c:Code}(hf:pO P f fn c){args:List D}(hn:Nat.ble args.length fn.ntmps=true)(ht:∀ a∈args,Tr a){d r:D}{m:Mem}{n:Nat}{rds:List Nat}(hd:bV P m n d=some (r,rds))
 (h:AW P noY true c (retQ P fn.results.toList fun d' st=>d'=d/\st.mem=m) ⟨envOf args,fun _=>none,0⟩):PCall P f args r:=
 ⟨hf.he,ht,fun F w vs hF hR=>(AT mI hf.hf hf.hb hf.aj hn h (fun _ _ _ _ _ h=>h.elim) (GY hF) (fun _ _=>rfl) hR).mono fun e w' hp=>by
  obtain⟨v,d',st',β',h1,⟨rfl,rfl⟩,h3,h4,h5,h6,h7,h8⟩:=hp
  exact⟨v,h1,Bx hd (fun i _ r hr=>by
   obtain⟨p,hp,av⟩:=h4.row i r hr
   exact⟨p,hp,av,fun b hb=>h4.nf i p b hp hb⟩) h3,Gy h6⟩⟩
theorem GN(hx:x.Ok P){ev:Bool->Code->bI->Option (Exit×bI)}(jg:zv P ev){f:FuncId}{args:List D}(ht:∀ a∈args,Tr a):
 (∀ r,zg P x ev f args=some (.inl r)->PCall P f args r)/\∀ es k t,zg P x ev f args=some (.inr (es,k,t))->OCall P f args es k t:=by
 unfold zg
 cases fH:BX P x ev f args .leaf 0 with
 |none=>exact⟨fun r h=>(by cases h),fun es k t h=>(by cases h)⟩
 |some q=>
  obtain⟨d,m,nx⟩:=q
  obtain⟨fn,c,hf,hn,yg⟩:=N8 hx jg fH
  have deep:∀ d r rds,d=d->bV P (eE m) depth d=some (r,rds)->(∀ K:D->St->Prop,(∀ env,K d ⟨env,eE m,nx⟩)->AW P noY true c (retQ P fn.results.toList K) ⟨envOf args,eE .leaf,0⟩)->PCall P f args r:=fun d r rds _ hd yg=>
   XR hx.mix hf hn ht hd (yg _ fun env=>⟨rfl,rfl⟩)
  simp only
  split
  .rename_i i k
   split
   .rename_i es t hm
    cases bj:es.all (oT depth) with
    |true=>
     simp only[cond_true]
     refine⟨fun r h=>(by simp at h),fun es' k' t' h=>?_⟩
     simp only[Option.some.injEq,Sum.inr.injEq,Prod.mk.injEq] at h
     obtain⟨rfl,rfl,rfl⟩:=h
     exact tf hx.mix hf hn ht (fun a ha=>oe (List.all_eq_true.1 bj a ha)) (yg _ fun env=>⟨i,rfl,hm⟩)
    |false=>
     simp only[cond_false]
     split
     .rename_i r rds hd
      exact⟨fun r' h=>(by simp only[Option.some.injEq,Sum.inl.injEq] at h;subst h;exact deep _ _ _ rfl hd yg),fun es k t h=>(by simp at h)⟩
     .exact⟨fun r h=>(by cases h),fun es k t h=>(by cases h)⟩
   .exact⟨fun r h=>(by cases h),fun es k t h=>(by cases h)⟩
  .split
   .rename_i r rds hd
    exact⟨fun r' h=>(by simp only[Option.some.injEq,Sum.inl.injEq] at h;subst h;exact deep _ _ _ rfl hd yg),fun es k t h=>(by simp at h)⟩
   .exact⟨fun r h=>(by cases h),fun es k t h=>(by cases h)⟩
theorem Mb{m:Mem}{n:Nat}{rds:List Nat}:∀ {aS bs:List D} {r:List Nat},gY (bV P m n) aS=some (bs,r)->(∀ i∈r,i∈rds)->Sns P rds m aS bs
 |[],bs,r,h,_=>by
  simp only[gY,Option.some.injEq,Prod.mk.injEq] at h
  obtain⟨rfl,_⟩:=h
  trivial
 |a::aS,bs,r,h,hr=>by
  simp only[gY] at h
  split at h
  .cases h
  .rename_i y hy
   split at h
   .cases h
   .rename_i ys KP
    simp only[Option.some.injEq,Prod.mk.injEq] at h
    obtain⟨rfl,rfl⟩:=h
    exact⟨fun F β w v hl hv=>Bx (r:=y.2) hy (fun i hi=>hl i (hr i (List.mem_append_left _ hi))) hv,Mb (r:=ys.2) KP fun i hi=>hr i (List.mem_append_right _ hi)⟩
theorem ZI(hx:x.Ok P){ev:Bool->Code->bI->Option (Exit×bI)}(jg:zv P ev):By P (IN P x ev):=by
 intro f args dr m nx r m' nx' rd wr h env K hK
 unfold IN at h
 split at h
 .rename_i r' hk
  simp only[Option.some.injEq,Prod.mk.injEq] at h
  obtain⟨rfl,rfl,rfl,rfl,rfl⟩:=h
  exact .inl ⟨_,hx.known _ _ _ hk,hK⟩
 .cases bj:args.all (oT depth) with
  |true=>
   rw[bj] at h
   simp only[cond_true] at h
   obtain⟨h1,h2⟩:=GN hx jg (f:=f) (args:=args) fun a ha=>oe (List.all_eq_true.1 bj a ha)
   split at h
   .rename_i r' hp
    simp only[Option.some.injEq,Prod.mk.injEq] at h
    obtain⟨rfl,rfl,rfl,rfl,rfl⟩:=h
    exact .inl ⟨_,h1 _ hp,hK⟩
   .rename_i es k t hp
    split at h
    .rename_i m1 hm
     simp only[Option.some.injEq,Prod.mk.injEq] at h
     obtain⟨rfl,rfl,rfl,rfl,rfl⟩:=h
     rw[Nr hm] at hK
     exact .inr (.inr (.inl ⟨es,k,t,h2 _ _ _ hp,hK⟩))
    .cases h
   .cases h
  |false=>
   rw[bj] at h
   simp only[cond_false] at h
   cases dr with
   |true=>
    simp only[cond_true] at h
    split at h
    .cases h
    .rename_i args' rds Sc
     have aP:∀ a∈args',Tr a:=qm Sc fun x y r' h=>D' h
     have mO:Sns P rds (eE m) args args':=Mb Sc fun _ h=>h
     split at h
     .rename_i r' hk
      cases hs:r'.scal with
      |false=>rw[hs] at h;cases h
      |true=>
       rw[hs] at h
       simp only[cond_true,Option.some.injEq,Prod.mk.injEq] at h
       obtain⟨rfl,rfl,rfl,rfl,rfl⟩:=h
       exact .inr (.inl ⟨args',_,_,mO,hx.known _ _ _ hk,hs,hK⟩)
     .split at h
      .rename_i r' hp
       cases hs:r'.scal with
       |false=>rw[hs] at h;cases h
       |true=>
        rw[hs] at h
        simp only[cond_true,Option.some.injEq,Prod.mk.injEq] at h
        obtain⟨rfl,rfl,rfl,rfl,rfl⟩:=h
        exact .inr (.inl ⟨args',_,_,mO,(GN hx jg aP).1 _ hp,hs,hK⟩)
      .cases h
   |false=>
    simp only[cond_false] at h
    split at h
    .rename_i d m1 VS fH
     simp only[Option.some.injEq,Prod.mk.injEq] at h
     obtain⟨rfl,rfl,rfl,rfl,rfl⟩:=h
     obtain⟨fn,c,hf,hn,yg⟩:=N8 hx jg fH
     exact .inr (.inr (.inr (.inl ⟨rfl,uU hx.mix hf hn (yg (fun d st=>K d st.mem st.nx [] []) fun env=>hK)⟩)))
    .cases h
theorem Mp{ev:Bool->Code->bI->Option (Exit×bI)}(jg:zv P ev){env:T D}{ps:List Tmp}{assign body:Code}{Q:Exit->St->Prop}:∀ {ys:List (List D)} {m m':T Row} {nx nx':Nat} {e:Exit},A2 ev env ps assign body ys m nx=some (e,m',nx')->
 Q e ⟨cV env,eE m',nx'⟩->∃ I:Nat->Mem->Nat->Prop,I 0 (eE m) nx/\
  (∀ k m nx y,ys[k]? =some y->I k m nx->AW P noY false assign (assignQ fun s=>AW P noY false body (roundQ (cV env) (I (k+1)) Q) s) ⟨setAll (cV env) ps y,m,nx⟩)/\
  ∀ m nx,I ys.length m nx->Q .normal ⟨cV env,m,nx⟩
 |[],m,m',nx,nx',e,h,hQ=>by
  simp only[A2,Option.some.injEq,Prod.mk.injEq] at h
  obtain⟨rfl,rfl,rfl⟩:=h
  exact⟨fun _ a b=>a=eE m/\b=nx,⟨rfl,rfl⟩,fun k _ _ y hy=>by simp at hy,fun a b h=>by obtain⟨rfl,rfl⟩:=h;exact hQ⟩
 |y::ys,m,m',nx,nx',e,h,hQ=>by
  simp only[A2] at h
  split at h
  .cases h
  .rename_i t ht
   have tL:=Ma ht
   split at h
   .rename_i s hs
    have done:∀ (I:Nat->Mem->Nat->Prop),AW P noY false body (roundQ (cV env) (I 0) Q) s.st->
     (∀ k m nx y,ys[k]? =some y->I k m nx->AW P noY false assign (assignQ fun s=>AW P noY false body (roundQ (cV env) (I (k+1)) Q) s) ⟨setAll (cV env) ps y,m,nx⟩)->
     (∀ m nx,I ys.length m nx->Q .normal ⟨cV env,m,nx⟩)->
     ∃ I:Nat->Mem->Nat->Prop,I 0 (eE m) nx/\
      (∀ k m nx z,(y::ys)[k]? =some z->I k m nx->AW P noY false assign (assignQ fun s=>AW P noY false body (roundQ (cV env) (I (k+1)) Q) s) ⟨setAll (cV env) ps z,m,nx⟩)/\
      ∀ m nx,I (y::ys).length m nx->Q .normal ⟨cV env,m,nx⟩:=fun I h1 h2 h3=>by
     refine⟨fun k a b=>match k with|0=>a=eE m/\b=nx|k+1=>I k a b,⟨rfl,rfl⟩,fun k a b z hz hI=>?_,fun a b hI=>h3 a b hI⟩
     cases k with
     |zero=>
      obtain⟨rfl,rfl⟩:=hI
      simp only[List.getElem?_cons_zero,Option.some.injEq] at hz
      subst hz
      rw[<- tL]
      exact jg _ _ _ _ _ hs _ h1
     |succ k=>exact h2 k a b z (by simpa using hz) hI
    split at h
    .rename_i s' dZ
     obtain⟨I,g1,g2,g3⟩:=Mp jg h hQ
     exact done I (jg _ _ _ _ _ dZ _ g1) g2 g3
    .rename_i s' dZ
     simp only[Option.some.injEq,Prod.mk.injEq] at h
     obtain⟨rfl,rfl,rfl⟩:=h
     exact done (fun _ _ _=>False) (jg _ _ _ _ _ dZ _ hQ) (fun _ _ _ _ _ h=>h.elim) fun _ _ h=>h.elim
    .rename_i i s' dZ
     simp only[Option.some.injEq,Prod.mk.injEq] at h
     obtain⟨rfl,rfl,rfl⟩:=h
     exact done (fun _ _ _=>False) (jg _ _ _ _ _ dZ _ hQ) (fun _ _ _ _ _ h=>h.elim) fun _ _ h=>h.elim
    .cases h
   .cases h
theorem Qp(hx:x.Ok P):∀ n,zv P (yf P x n):=by
 intro n
 induction n using Nat.strongRecOn with
 |_ n ih=>
  cases n with
  |zero=>intro rf c s e s' h;cases h
  |succ n=>
   have sQ:=ih n (Nat.lt_succ_self n)
   intro rf c s e s' h Q hQ
   simp only[yf] at h
   cases c with
   |skip=>
    simp only[pK,Option.some.injEq,Prod.mk.injEq] at h
    obtain⟨rfl,rfl⟩:=h
    exact hQ
   |ret=>
    simp only[pK,Option.some.injEq,Prod.mk.injEq] at h
    obtain⟨rfl,rfl⟩:=h
    exact hQ
   |label l=>
    simp only[pK,Option.some.injEq,Prod.mk.injEq] at h
    obtain⟨rfl,rfl⟩:=h
    exact hQ
   |exit id=>
    simp only[pK,Option.some.injEq,Prod.mk.injEq] at h
    obtain⟨rfl,rfl⟩:=h
    exact hQ
   |region id ops dr=>
    simp only[pK] at h
    split at h
    .rename_i s1 h1
     simp only[Option.some.injEq,Prod.mk.injEq] at h
     obtain⟨rfl,rfl⟩:=h
     exact XQ (ZI hx sQ) h1 hQ
    .cases h
   |seq a b=>
    simp only[pK] at h
    split at h
    .rename_i s1 h1
     exact sQ _ _ _ _ _ h1 _ ⟨_,.refl _,sQ _ _ _ _ _ h _ hQ⟩
    .rename_i aA
     refine sQ _ _ _ _ _ h _ ?_
     cases e with
     |normal=>exact absurd h (aA s')
     |_=>exact hQ
   |cond c a b=>
    simp only[pK] at h
    cases nH:decide (opd (cV s.env) c).ask with
    |false=>rw[nH] at h;cases h
    |true=>
     rw[nH] at h
     simp only[cond_true] at h
     refine⟨of_decide_eq_true nH,?_⟩
     split at h
     .rename_i t ht
      have ht':(opd s.st.env c).core=.s (.bool t):=ht
      rw[ht']
      cases t with
      |true=>exact⟨fun _=>sQ _ _ _ _ _ h _ hQ,fun h=>by cases h⟩
      |false=>exact⟨fun h=>(by cases h),fun _=>sQ _ _ _ _ _ h _ hQ⟩
     .cases h
   |block id b=>
    simp only[pK] at h
    split at h
    .rename_i i s1 h1
     refine sQ _ _ _ _ _ h1 (blockQ id Q) ?_
     simp only[blockQ]
     cases hb:Nat.beq i id with
     |true=>
      rw[hb] at h
      simp only[cond_true,Option.some.injEq,Prod.mk.injEq] at h
      obtain⟨rfl,rfl⟩:=h
      rw[if_pos (Nat.eq_of_beq_eq_true hb)];exact hQ
     |false=>
      rw[hb] at h
      simp only[cond_false,Option.some.injEq,Prod.mk.injEq] at h
      obtain⟨rfl,rfl⟩:=h
      rw[if_neg (Nat.ne_of_beq_eq_false hb)];exact hQ
    .rename_i aA
     refine sQ _ _ _ _ _ h (blockQ id Q) ?_
     cases e with
     |exit i=>exact absurd h (aA i s')
     |_=>exact hQ
   |scope b=>
    simp only[pK] at h
    split at h
    .cases h
    .rename_i aA
     refine sQ _ _ _ _ _ h (scopeQ Q) ?_
     cases e with
     |goto l=>exact absurd h (aA l s')
     |_=>exact hQ
   |loop b=>
    refine Nu (fun j st=>j<=n+1/\∃ s,st=s.st/\yf P x j rf (.loop b) s=some (e,s')) (j₀:=n+1) ⟨Nat.le_refl _,s,rfl,h⟩ ?_
    rintro j st ⟨hj,s,rfl,hs⟩
    cases j with
    |zero=>cases hs
    |succ j=>
     have VT:=ih j oG
     simp only[yf,pK] at hs
     split at hs
     .rename_i s1 h1
      exact VT _ _ _ _ _ h1 _ ⟨_,.refl _,j,Nat.lt_succ_self j,by omega,s1,rfl,hs⟩
     .rename_i aA
      refine VT _ _ _ _ _ hs _ ?_
      cases e with
      |normal=>exact absurd hs (aA s')
      |_=>exact hQ
   |rangeFunc g ps assign body=>
    simp only[pK] at h
    cases nH:(rf&&decide (opd (cV s.env) g).ask) with
    |false=>rw[nH] at h;cases h
    |true=>
     rw[nH] at h
     simp only[cond_true] at h
     simp only[Bool.and_eq_true] at nH
     split at h
     .rename_i f fs cs ze
      split at h
      .rename_i ys KP
       cases bj:ys.all fun y=>Nat.beq y.length ps.size with
       |false=>rw[bj] at h;cases h
       |true=>
        rw[bj] at h
        simp only[cond_true] at h
        split at h
        .rename_i e1 m nx hr
         simp only[Option.some.injEq,Prod.mk.injEq] at h
         obtain⟨rfl,rfl⟩:=h
         obtain⟨I,g1,g2,g3⟩:=Mp sQ hr hQ
         obtain⟨k1,k2⟩:=hx.iter _ _ _ _ KP
         exact⟨nH.1,of_decide_eq_true nH.2,f,fs,cs,ys,I,ze,k1,fun y hy=>⟨Nat.eq_of_beq_eq_true (List.all_eq_true.1 bj y hy),k2 y hy⟩,g1,g2,g3⟩
        .cases h
      .cases h
     .cases h
   |_=>cases h
theorem kf(hx:x.Ok P)(n:Nat){f:FuncId}{args:List D}{r:D}(ht:args.all (oT depth)=true)(h:zg P x (yf P x n) f args=some (.inl r)):PCall P f args r:=
 (GN hx (Qp hx n) fun a ha=>oe (List.all_eq_true.1 ht a ha)).1 r h
end
def ax:List (Nat×D)->Env
 |[],_=>.u
 |(t,d)::l,j=>if j=t then d else ax l j
def mz:List (Nat×D)->Env->Prop
 |[],_=>True
 |(t,d)::l,env=>env t=d/\mz l env
theorem n7:∀ {l:List (Nat×D)} {env:Env},mz l env->∀ t,ax l t=env t\/ax l t=.u
 |[],_,_,_=>.inr rfl
 |(k,d)::l,env,h,t=>by
  simp only[ax]
  by_cases ht:t=k
  .subst ht;rw[if_pos rfl];exact .inl h.1.symm
  .rw[if_neg ht];exact n7 h.2 t
def gK(env:Env):List Operand->Prop
 |[]=>True
 |x::xs=>(opd env x).ask/\gK env xs
theorem Ny{env:Env}:∀ {l:List Operand},gK env l->∀ x∈l,(opd env x).ask
 |[],_,x,h=>by cases h
 |y::l,h,x,hx=>by
  cases hx with
  |head=>exact h.1
  |tail _ hx=>exact Ny h.2 x hx
theorem pz{env:Env}{o:Op}(h:gK env o.operands.toList):asks env o:=by
 have:=Ny h
 unfold asks
 cases o<;>first|exact this|exact this _ (by simp[Op.operands])
section
variable{P:Program}{Y:YSpec}{rf:Bool}
structure Ef(P:Program)(op:Op)(env:Env)(m:Mem)(nx:Nat)(e:Eff):Prop where
 ok:aop P op (rho env op) m nx=some e
 nc:callD (rho env op) op=none
 ny:yieldD (rho env op) op=none
variable{ops:Array Oper}{dr:Bool}{cf:List (Nat×Nat)}{Q:Exit->St->Prop}{rest:List Oper}{env:Env}{m:Mem}{nx:Nat}{tr:Tra}{t:Nat}{op:Op}{ty:TypeId}{pos:String}{after:Array Edge}
 {pre:Prop} {v:D} {rd:List Nat}
theorem xm{d:Option Nat}{e:Eff}(he:Ef P op env m nx e)(ha:asks env op)(hp:e.pre)(K:AOps P Y ops dr cf Q rest (St.put ⟨env,upds m e.ups,nx+e.new⟩ d e.val) (tr++[(e.rd,e.ups.map (·.1))])):
 AOps P Y ops dr cf Q (⟨d,op,ty,pos,after,none⟩::rest) ⟨env,m,nx⟩ tr:=by
 simp only[AOps,AOp]
 rw[he.nc,he.ny,he.ok]
 exact⟨ha,hp,K⟩
theorem aF(he:Ef P op env m nx ⟨pre,v,[],rd,0⟩)(ha:gK env op.operands.toList)(hp:pre)(K:AOps P Y ops dr cf Q rest ⟨up env t v,m,nx⟩ (tr++[(rd,[])])):
 AOps P Y ops dr cf Q (⟨some t,op,ty,pos,after,none⟩::rest) ⟨env,m,nx⟩ tr:=xm he (pz ha) hp K
theorem yU{c a b:Operand}{g:Bool}(hc:(opd env c).core=.s (.bool g)):Ef P (.pick c a b) env m nx ⟨(g=true->(opd env a).ask/\(opd env a).core.bool?.isSome=true)/\(g=false->(opd env b).ask/\(opd env b).core.bool?.isSome=true),
 .s (.bool (if g then(opd env a).core.bool?.getD false else(opd env b).core.bool?.getD false)),[],[],0⟩:=⟨by simp only[aop,rho,hc,D.bool?],rfl,rfl⟩
theorem aa2{c a b:Operand}{g x y:Bool}(hc:opd env c=.s (.bool g))(ha:(opd env a).core=.s (.bool x))(hb:(opd env b).core=.s (.bool y))(h1:g=true->(opd env a).ask)(h2:g=false->(opd env b).ask)
 (K:AOps P Y ops dr cf Q rest ⟨up env t (.s (.bool (if g then x else y))),m,nx⟩ (tr++[([],[])])):
 AOps P Y ops dr cf Q (⟨some t,.pick c a b,ty,pos,after,none⟩::rest) ⟨env,m,nx⟩ tr:=by
 refine xm (yU (g:=g) (by rw[hc];rfl)) (by simp only[asks,hc,D.ask]) ⟨fun h=>⟨h1 h,by rw[ha];rfl⟩,fun h=>⟨h2 h,by rw[hb];rfl⟩⟩ ?_
 simp only[ha,hb,D.bool?,Option.getD_some]
 exact K
theorem ZO{c a b:Operand}{x:Bool}(hc:opd env c=.s (.bool true))(ha:(opd env a).core=.s (.bool x))(h1:(opd env a).ask)
 (K:AOps P Y ops dr cf Q rest ⟨up env t (.s (.bool x)),m,nx⟩ (tr++[([],[])])):
 AOps P Y ops dr cf Q (⟨some t,.pick c a b,ty,pos,after,none⟩::rest) ⟨env,m,nx⟩ tr:=by
 refine xm (yU (g:=true) (by rw[hc];rfl)) (by simp only[asks,hc,D.ask]) ⟨fun _=>⟨h1,by rw[ha];rfl⟩,fun h=>by cases h⟩ ?_
 simp only[ha,D.bool?,Option.getD_some,if_true]
 exact K
theorem ZP{c a b:Operand}{y:Bool}(hc:opd env c=.s (.bool false))(hb:(opd env b).core=.s (.bool y))(h2:(opd env b).ask)
 (K:AOps P Y ops dr cf Q rest ⟨up env t (.s (.bool y)),m,nx⟩ (tr++[([],[])])):
 AOps P Y ops dr cf Q (⟨some t,.pick c a b,ty,pos,after,none⟩::rest) ⟨env,m,nx⟩ tr:=by
 refine xm (yU (g:=false) (by rw[hc];rfl)) (by simp only[asks,hc,D.ask]) ⟨fun h=>(by cases h),fun _=>⟨h2,by rw[hb];rfl⟩⟩ ?_
 simp only[hb,D.bool?,Option.getD_some,Bool.false_eq_true,if_false]
 exact K
theorem cK{i:Nat}{row:Option Row}(he:Ef P op env m nx ⟨pre,v,[(i,row)],rd,0⟩)(ha:gK env op.operands.toList)(hp:pre)(K:AOps P Y ops dr cf Q rest ⟨env,up m i row,nx⟩ (tr++[(rd,[i])])):
 AOps P Y ops dr cf Q (⟨none,op,ty,pos,after,none⟩::rest) ⟨env,m,nx⟩ tr:=xm he (pz ha) hp K
theorem gB{row:Row}(he:Ef P op env m nx ⟨pre,v,[(nx,some row)],rd,1⟩)(ha:gK env op.operands.toList)(hp:pre)(K:AOps P Y ops dr cf Q rest ⟨up env t v,up m nx (some row),nx+1⟩ (tr++[(rd,[nx])])):
 AOps P Y ops dr cf Q (⟨some t,op,ty,pos,after,none⟩::rest) ⟨env,m,nx⟩ tr:=xm he (pz ha) hp K
theorem vJ{i:Nat}{row:Row}(he:Ef P op env m nx ⟨pre,v,[(i,none),(nx,some row)],rd,1⟩)(ha:gK env op.operands.toList)(hp:pre)(K:AOps P Y ops dr cf Q rest ⟨up env t v,up (up m i none) nx (some row),nx+1⟩ (tr++[(rd,[i,nx])])):
 AOps P Y ops dr cf Q (⟨some t,op,ty,pos,after,none⟩::rest) ⟨env,m,nx⟩ tr:=xm he (pz ha) hp K
theorem bl{j:Nat}{b c:Bool}{u:Nat}(hj:(ops[j]?).bind (·.dst)=some u)(hg:guardC (env u) b=some c)(he:Ef P op env m nx ⟨pre,v,[],rd,0⟩)(ha:c=true->gK env op.operands.toList/\pre)
 (K:AOps P Y ops dr cf Q rest ⟨up env t (.opt c v),m,nx⟩ (tr++[(rd,[])])):AOps P Y ops dr cf Q (⟨some t,op,ty,pos,after,some (j,b)⟩::rest) ⟨env,m,nx⟩ tr:=by
 simp only[AOps,AOp]
 rw[hj]
 simp only[Option.bind_some]
 rw[hg,he.nc,he.ny,he.ok]
 exact⟨fun hc=>⟨pz (ha hc).1,(ha hc).2⟩,K⟩
theorem ZQ{j:Nat}{b0 c0:Bool}{u:Nat}(hj:(ops[j]?).bind (·.dst)=some u)(hg:guardC (env u) b0=some c0){c a b:Operand}{g x y:Bool}(hc:(opd env c).core=.s (.bool g))(ha:(opd env a).core=.s (.bool x))(hb:(opd env b).core=.s (.bool y))
 (h0:c0=true->(opd env c).ask) (h1:c0=true->g=true->(opd env a).ask) (h2:c0=true->g=false->(opd env b).ask)
 (K:AOps P Y ops dr cf Q rest ⟨up env t (.opt c0 (.s (.bool (if g then x else y)))),m,nx⟩ (tr++[([],[])])):
 AOps P Y ops dr cf Q (⟨some t,.pick c a b,ty,pos,after,some (j,b0)⟩::rest) ⟨env,m,nx⟩ tr:=by
 have he:=yU (P:=P) (env:=env) (m:=m) (nx:=nx) (a:=a) (b:=b) hc
 simp only[ha,hb,D.bool?,Option.getD_some,Option.isSome_some,and_true] at he
 simp only[AOps,AOp]
 rw[hj]
 simp only[Option.bind_some]
 rw[hg,he.nc,he.ny,he.ok]
 exact⟨fun hc=>⟨by simp only[asks];exact h0 hc,h1 hc,h2 hc⟩,K⟩
theorem adb{j:Nat}{b:Bool}{u:Nat}{d:Option Nat}{e:Eff}(hj:(ops[j]?).bind (·.dst)=some u)(hg:guardC (env u) b=some true)(he:Ef P op env m nx e)(ha:gK env op.operands.toList)(hp:e.pre)
 (K:e.ups=[]->e.new=0->AOps P Y ops dr cf Q rest (St.put ⟨env,m,nx⟩ d (.opt true e.val)) (tr++[(e.rd,[])]))
 (K':AOps P Y ops dr cf Q rest (St.put ⟨env,upds m e.ups,nx+e.new⟩ d e.val) (tr++[(e.rd,e.ups.map (·.1))])):AOps P Y ops dr cf Q (⟨d,op,ty,pos,after,some (j,b)⟩::rest) ⟨env,m,nx⟩ tr:=by
 simp only[AOps,AOp]
 rw[hj]
 simp only[Option.bind_some]
 rw[hg,he.nc,he.ny,he.ok]
 simp only
 split
 .rename_i h
  simp only[Bool.and_eq_true,List.isEmpty_iff,beq_iff_eq] at h
  exact⟨fun _=>⟨pz ha,hp⟩,K h.1 h.2⟩
 .exact⟨fun _=>⟨pz ha,hp,K'⟩,by simp⟩
theorem Sk{j:Nat}{b:Bool}{u:Nat}{d:Option Nat}(hj:(ops[j]?).bind (·.dst)=some u)(hg:guardC (env u) b=some false)
 (K:∀ (x:D) rd,AOps P Y ops dr cf Q rest (St.put ⟨env,m,nx⟩ d (.opt false x)) (tr++[(rd,[])])):AOps P Y ops dr cf Q (⟨d,op,ty,pos,after,some (j,b)⟩::rest) ⟨env,m,nx⟩ tr:=by
 simp only[AOps,AOp]
 rw[hj]
 simp only[Option.bind_some]
 rw[hg]
 simp only
 split
 .exact .inr ⟨by simp,fun _=>K .u []⟩
 .split
  .exact⟨by simp,fun _=>K .u []⟩
  .split
   .split
    .exact⟨by simp,K _ _⟩
    .exact⟨by simp,fun _=>K .u []⟩
   .exact⟨trivial,K .u []⟩
theorem arC{j:Nat}{b:Bool}{u t:Nat}(hj:(ops[j]?).bind (·.dst)=some u)(hg:guardC (env u) b=some false)
 (K:∀ (x:D) rd,AOps P Y ops dr cf Q rest ⟨up env t (.opt false x),m,nx⟩ (tr++[(rd,[])])):AOps P Y ops dr cf Q (⟨some t,op,ty,pos,after,some (j,b)⟩::rest) ⟨env,m,nx⟩ tr:=Sk hj hg K
theorem A3{f:FuncId}{args:List D}{d:Option Nat}(hc:callD (rho env op) op=some (f,args))(ha:gK env op.operands.toList)(h:CallOp P dr ⟨env,m,nx⟩ f args fun r m nx rd wr=>AOps P Y ops dr cf Q rest (St.put ⟨env,m,nx⟩ d r) (tr++[(rd,wr)])):
 AOps P Y ops dr cf Q (⟨d,op,ty,pos,after,none⟩::rest) ⟨env,m,nx⟩ tr:=by
 simp only[AOps,AOp]
 rw[hc]
 exact⟨pz ha,h⟩
theorem ade{f:FuncId}{args:List D}{r:D}(h:PCall P f args r)(hc:callD (rho env op) op=some (f,args))(ha:gK env op.operands.toList)(K:AOps P Y ops dr cf Q rest ⟨up env t r,m,nx⟩ (tr++[([],[])])):
 AOps P Y ops dr cf Q (⟨some t,op,ty,pos,after,none⟩::rest) ⟨env,m,nx⟩ tr:=A3 hc ha (.inl ⟨r,h,K⟩)
theorem zi{f:FuncId}{args es:List D}{n:Nat}{K0:TypeId}(h:OCall P f args es n K0)(hc:callD (rho env op) op=some (f,args))(ha:gK env op.operands.toList)(K:AOps P Y ops dr cf Q rest ⟨up env t (.rs nx 0 n),up m nx (some (.cells es K0)),nx+1⟩ (tr++[([],[nx])])):
 AOps P Y ops dr cf Q (⟨some t,op,ty,pos,after,none⟩::rest) ⟨env,m,nx⟩ tr:=A3 hc ha (.inr (.inr (.inl ⟨es,n,K0,h,K⟩)))
theorem nA{f:FuncId}{args:List D}{d:Option Nat}{eD:D->Mem->Nat->Prop}(h:ACalls P f args m nx eD)(hc:callD (rho env op) op=some (f,args))(ha:gK env op.operands.toList)
 (K:∀ r m' nx',eD r m' nx'->AOps P Y ops false cf Q rest (St.put ⟨env,m',nx'⟩ d r) (tr++[([],[])])):
 AOps P Y ops false cf Q (⟨d,op,ty,pos,after,none⟩::rest) ⟨env,m,nx⟩ tr:=A3 hc ha (.inr (.inr (.inr (.inl ⟨rfl,h.mono K⟩))))
theorem IQ{f:FuncId}{args args':List D}{r:D}{rds:List Nat}(h:PCall P f args' r)(hs:r.scal=true)(mO:Sns P rds m args args')(hc:callD (rho env op) op=some (f,args))(ha:gK env op.operands.toList)
 (K:AOps P Y ops dr cf Q rest ⟨up env t r,m,nx⟩ (tr++[(rds,[])])):AOps P Y ops dr cf Q (⟨some t,op,ty,pos,after,none⟩::rest) ⟨env,m,nx⟩ tr:=A3 hc ha (.inr (.inl ⟨args',rds,r,mO,h,hs,K⟩))
theorem Er{j:Nat}{b c:Bool}{u:Nat}{f:FuncId}{args:List D}{r:D}(hj:(ops[j]?).bind (·.dst)=some u)(hg:guardC (env u) b=some c)(hc:callD (rho env op) op=some (f,args))(h:c=true->gK env op.operands.toList/\PCall P f args r)
 (K:AOps P Y ops dr cf Q rest ⟨up env t (.opt c r),m,nx⟩ (tr++[([],[])])):AOps P Y ops dr cf Q (⟨some t,op,ty,pos,after,some (j,b)⟩::rest) ⟨env,m,nx⟩ tr:=by
 simp only[AOps,AOp]
 rw[hj]
 simp only[Option.bind_some]
 rw[hg,hc]
 exact .inl ⟨r,fun rA=>⟨pz (h rA).1,(h rA).2⟩,K⟩
theorem ZM{j:Nat}{b:Bool}{u:Nat}{d:Option Nat}{f:FuncId}{args:List D}(hj:(ops[j]?).bind (·.dst)=some u)(hg:guardC (env u) b=some true)(hc:callD (rho env op) op=some (f,args))(ha:gK env op.operands.toList)
 (h:CallOp P dr ⟨env,m,nx⟩ f args fun r m nx rd wr=>AOps P Y ops dr cf Q rest (St.put ⟨env,m,nx⟩ d r) (tr++[(rd,wr)])):AOps P Y ops dr cf Q (⟨d,op,ty,pos,after,some (j,b)⟩::rest) ⟨env,m,nx⟩ tr:=by
 simp only[AOps,AOp]
 rw[hj]
 simp only[Option.bind_some]
 rw[hg,hc]
 exact .inr ⟨fun _=>⟨pz ha,h⟩,by simp⟩
theorem Js{l:Nat}{args:List D}{d:Option Nat}(hc:callD (rho env op) op=none)(hy:yieldD (rho env op) op=some (l,args))(ha:gK env op.operands.toList)(h:Y l args m nx fun r m' nx'=>AOps P Y ops false cf Q rest (St.put ⟨env,m',nx'⟩ d r) (tr++[([],[])])):
 AOps P Y ops false cf Q (⟨d,op,ty,pos,after,none⟩::rest) ⟨env,m,nx⟩ tr:=by
 simp only[AOps,AOp]
 rw[hc,hy]
 exact⟨pz ha,trivial,h⟩
theorem EI{j:Nat}{b:Bool}{u:Nat}{l:Nat}{args:List D}{d:Option Nat}(hj:(ops[j]?).bind (·.dst)=some u)(hg:guardC (env u) b=some true)(hc:callD (rho env op) op=none)(hy:yieldD (rho env op) op=some (l,args))(ha:gK env op.operands.toList)
 (h:Y l args m nx fun r m' nx'=>AOps P Y ops false cf Q rest (St.put ⟨env,m',nx'⟩ d r) (tr++[([],[])])):AOps P Y ops false cf Q (⟨d,op,ty,pos,after,some (j,b)⟩::rest) ⟨env,m,nx⟩ tr:=by
 simp only[AOps,AOp]
 rw[hj]
 simp only[Option.bind_some]
 rw[hg,hc,hy]
 exact⟨fun _=>⟨pz ha,trivial,h⟩,by simp⟩
def fS(K:St->Prop):Exit->St->Prop
 | .normal,st=>K st
 |_,_=>True
theorem ab{K:St->Prop}{st:St}(h:K st):AOps P Y ops dr [] (fS K) [] st tr:=⟨by simp,h⟩
theorem bc{K:St->Prop}{st:St}(hc:∀ q∈cf,apartT tr q.1 q.2)(h:K st):AOps P Y ops dr cf (fS K) [] st tr:=⟨hc,h⟩
variable{st:St}{a b c:Code}
theorem AOps.kZ{cf:List (Nat×Nat)}{K:St->Prop}{Q:Exit->St->Prop}[dR Y]{l:List Oper}(h:AOps P Y ops dr cf (fS K) l st tr)(hk:∀ st,K st->Q .normal st):AOps P Y ops dr cf Q l st tr:=
 AOps.mono (Q:=fS K) (fun st h=>hk st h) l st tr h
theorem rS[dR Y]{id:Nat}(h:AOps P Y ops false [] (fS fun st=>Q .normal st) ops.toList st []):AW P Y rf (.region id ops false) Q st:=AOps.kZ h fun _ h=>h
theorem Bz[dR Y]{id:Nat}(hi:drawInfo ops=some cf)(h:AOps P Y ops true cf (fS fun st=>Q .normal st) ops.toList st []):AW P Y rf (.region id ops true) Q st:=by
 show match drawInfo ops with
  |some cf=>AOps P Y ops true cf Q ops.toList st []
  |none=>False
 rw[hi]
 exact AOps.kZ h fun _ h=>h
theorem ag[dR Y]{id:Nat}(h:AOps P Y ops false [] (fS fun st=>AW P Y rf b Q st) ops.toList st []):AW P Y rf (.seq (.region id ops false) b) Q st:=
 rS (rf:=rf) (id:=id) (AOps.kZ h fun st h=>⟨st,.refl st,h⟩)
theorem dP[dR Y]{id:Nat}(hi:drawInfo ops=some cf)(h:AOps P Y ops true cf (fS fun st=>AW P Y rf b Q st) ops.toList st []):AW P Y rf (.seq (.region id ops true) b) Q st:=
 Bz (rf:=rf) (id:=id) hi (AOps.kZ h fun st h=>⟨st,.refl st,h⟩)
theorem aJ{st':St}(hg:Ghost P st st')(h:AW P Y rf b Q st'):∃ iE,Ghost P st iE/\AW P Y rf b Q iE:=⟨st',hg,h⟩
theorem aq[dR Y]{id:Nat}(h:AOps P Y ops false [] (fS fun st=>∃ st',Ghost P st st'/\AW P Y rf b Q st') ops.toList st []):AW P Y rf (.seq (.region id ops false) b) Q st:=
 rS (rf:=rf) (id:=id) (AOps.kZ h fun _ h=>h)
theorem qj[dR Y]{id:Nat}(hi:drawInfo ops=some cf)(h:AOps P Y ops true cf (fS fun st=>∃ st',Ghost P st st'/\AW P Y rf b Q st') ops.toList st []):AW P Y rf (.seq (.region id ops true) b) Q st:=
 Bz (rf:=rf) (id:=id) hi (AOps.kZ h fun _ h=>h)
theorem Sf[dR Y](J:St->Prop)(h:AW P Y rf a (seqQ J Q) st)(k:∀ st,J st->AW P Y rf b Q st):AW P Y rf (.seq a b) Q st:=
 tm a (fun e st h=>by
  cases e with
  |normal=>exact⟨st,.refl st,k st h⟩
  |_=>exact h) h
theorem dV[dR Y](J:St->Prop)(h:AW P Y rf a (seqQ J Q) st)(k:∀ st,J st->∃ st',Ghost P st st'/\AW P Y rf b Q st'):AW P Y rf (.seq a b) Q st:=
 tm a (fun e st h=>by
  cases e with
  |normal=>exact k st h
  |_=>exact h) h
theorem b8[dR Y](h:AW P Y rf b Q st):AW P Y rf (.seq .skip b) Q st:=⟨st,.refl st,h⟩
theorem dn(h:Q .ret st):AW P Y rf (.seq .ret b) Q st:=h
theorem n5{id:Nat}(h:Q (.exit id) st):AW P Y rf (.seq (.exit id) b) Q st:=h
theorem XC{l:Nat}(h:AW P Y rf b Q st):AW P Y rf (.seq (.label l) b) Q st:=⟨st,.refl st,h⟩
theorem aC[dR Y](h:AW P Y rf (.seq a (.seq b c)) Q st):AW P Y rf (.seq (.seq a b) c) Q st:=by
 refine tm a (fun e st h=>?_) h
 cases e with
 |normal=>
  obtain⟨st',hg,h⟩:=h
  refine⟨st',hg,tm b (fun e st h=>?_) h⟩
  cases e<;>exact h
 |_=>exact h
theorem al{c:Operand}{x y:Code}{g:Bool}(hc:opd st.env c=.s (.bool g))(ht:g=true->AW P Y rf x Q st)(hf:g=false->AW P Y rf y Q st):AW P Y rf (.cond c x y) Q st:=by
 rw[N9]
 rw[hc]
 exact⟨trivial,ht,hf⟩
theorem bp{c:Operand}{x y:Code}{g:Bool}(hc:opd st.env c=.s (.bool g))(ht:g=true->AW P Y rf (.seq x b) Q st)(hf:g=false->AW P Y rf (.seq y b) Q st):AW P Y rf (.seq (.cond c x y) b) Q st:=al hc ht hf
theorem aa3{c:Operand}{x y:Code}(hc:opd st.env c=.ub)(ht:AW P Y rf x Q st)(hf:AW P Y rf y Q st):AW P Y rf (.cond c x y) Q st:=by
 rw[N9]
 rw[hc]
 exact⟨trivial,ht,hf⟩
theorem qp{id:Nat}(h:AW P Y rf b (blockQ id Q) st):AW P Y rf (.block id b) Q st:=h
theorem aaW[dR Y]{α:Type}(S:α->St)(J:α->Prop)(μ:α->Nat)(x₀:α)(h0:st=S x₀)(hJ:J x₀)(h:∀ x,J x->AW P Y rf b (seqQ (fun st'=>∃ iE x',Ghost P st' iE/\iE=S x'/\J x'/\μ x'<μ x) Q) (S x)):AW P Y rf (.loop b) Q st:=by
 refine Nu (fun j st=>∃ x,st=S x/\J x/\μ x=j) (j₀:=μ x₀) ⟨x₀,h0,hJ,rfl⟩ ?_
 rintro j st ⟨x,rfl,hx,rfl⟩
 refine tm b (fun e st' hq=>?_) (h x hx)
 cases e with
 |normal=>
  obtain⟨iE,x',h1,h2,h3,h4⟩:=hq
  exact⟨iE,h1,μ x',h4,x',h2,h3,rfl⟩
 |_=>exact hq
end
section
variable{P:Program}{env:Env}{m:Mem}{nx:Nat}{t:TypeId}{x y a:Operand}{d v:D}{k:IntKind}{n n':Int}{p q:TypeId}
theorem iQ(hx:(opd env x).core=v):Ef P (.move x) env m nx ⟨True,v,[],[],0⟩:=⟨by simp only[aop,rho,hx],rfl,rfl⟩
theorem mi(hx:(opd env x).core=v):Ef P (.assign x) env m nx ⟨True,v,[],[],0⟩:=⟨by simp only[aop,rho,hx],rfl,rfl⟩
theorem Qd(op:BinOp)(v:Value)(y:Operand):nilD P m op t (.s v) y=none:=by
 unfold nilD
 split<;>first|rfl|(rename_i h;cases h)
theorem abN{op:BinOp}{v w:Value}(h:∀ a b,v=.bool a->w=.bool b->False):binD P op t (.s v) (.s w)=(binV op v w).map fun r=>(r.1,.s r.2):=by
 cases v<;>cases w<;>first|rfl|exact(h _ _ rfl rfl).elim
theorem lM{op:BinOp}{v w u:Value}{pre:Prop}(hx:(opd env x).core=.s v)(hy:(opd env y).core=.s w)(hn:∀ a b,v=.bool a->w=.bool b->False)(hb:binV op v w=some (pre,u)):Ef P (.binOp op t x y p) env m nx ⟨pre,.s u,[],[],0⟩:=
 ⟨by simp only[aop,rho,hx,hy,Qd,abN hn,hb,Option.map_some],rfl,rfl⟩
section ints
variable(hx:(opd env x).core=.s (.int k n))(hy:(opd env y).core=.s (.int k n'))
include hx hy
theorem Iz:Ef P (.binOp .lss t x y p) env m nx ⟨k=k,.s (.bool (decide (n<n'))),[],[],0⟩:=lM hx hy (by simp) rfl
theorem IA:Ef P (.binOp .leq t x y p) env m nx ⟨k=k,.s (.bool (decide (n<=n'))),[],[],0⟩:=lM hx hy (by simp) rfl
theorem IB:Ef P (.binOp .gtr t x y p) env m nx ⟨k=k,.s (.bool (decide (n'<n))),[],[],0⟩:=lM hx hy (by simp) rfl
theorem IC:Ef P (.binOp .geq t x y p) env m nx ⟨k=k,.s (.bool (decide (n'<=n))),[],[],0⟩:=lM hx hy (by simp) rfl
theorem ID:Ef P (.binOp .eql t x y p) env m nx ⟨k=k,.s (.bool (n==n')),[],[],0⟩:=lM hx hy (by simp) rfl
theorem IE:Ef P (.binOp .neq t x y p) env m nx ⟨k=k,.s (.bool (n !=n')),[],[],0⟩:=lM hx hy (by simp) rfl
theorem abO:Ef P (.binOp .add t x y p) env m nx ⟨k=k,.s (.int k (k.wrap (n+n'))),[],[],0⟩:=lM hx hy (by simp) rfl
theorem abP:Ef P (.binOp .sub t x y p) env m nx ⟨k=k,.s (.int k (k.wrap (n - n'))),[],[],0⟩:=lM hx hy (by simp) rfl
theorem abQ:Ef P (.binOp .quo t x y p) env m nx ⟨k=k/\n'≠0,.s (.int k (k.wrap (n.tdiv n'))),[],[],0⟩:=lM hx hy (by simp) rfl
theorem acX:Ef P (.binOp .rem t x y p) env m nx ⟨k=k/\n'≠0,.s (.int k (n.tmod n')),[],[],0⟩:=lM hx hy (by simp) rfl
theorem acY:Ef P (.binOp .and t x y p) env m nx ⟨k=k,.s (.int k (intBitsV .and k n n')),[],[],0⟩:=lM hx hy (by simp) rfl
theorem aj4:Ef P (.binOp .or t x y p) env m nx ⟨k=k,.s (.int k (intBitsV .or k n n')),[],[],0⟩:=lM hx hy (by simp) rfl
end ints
theorem acZ{k':IntKind}(hx:(opd env x).core=.s (.int k n))(hy:(opd env y).core=.s (.int k' n')):Ef P (.binOp .shl t x y p) env m nx ⟨0<=n',.s (.int k (k.wrap (n*2 ^ (min n'.toNat k.bits)))),[],[],0⟩:=lM hx hy (by simp) rfl
theorem ac0{k':IntKind}(hx:(opd env x).core=.s (.int k n))(hy:(opd env y).core=.s (.int k' n')):Ef P (.binOp .shr t x y p) env m nx ⟨0<=n',.s (.int k (n.fdiv (2 ^ (min n'.toNat k.bits)))),[],[],0⟩:=lM hx hy (by simp) rfl
theorem i64_in(n:Int)(h: -9223372036854775808<=n/\n<=9223372036854775807):IntKind.i64.wrap n=n:=Go.IntWalk.i64_in n h
theorem R8(hx:(opd env x).core=.s (.int .i64 n))(hy:(opd env y).core=.s (.int .i64 n'))(hb: -9223372036854775808<=n+n'/\n+n'<=9223372036854775807):Ef P (.binOp .add t x y p) env m nx ⟨IntKind.i64=IntKind.i64,.s (.int .i64 (n+n')),[],[],0⟩:=by
 have:=abO (P:=P) (m:=m) (nx:=nx) (t:=t) (p:=p) hx hy
 rwa[i64_in _ hb] at this
theorem IF(hx:(opd env x).core=.s (.int .i64 n))(hy:(opd env y).core=.s (.int .i64 n'))(hb: -9223372036854775808<=n - n'/\n - n'<=9223372036854775807):Ef P (.binOp .sub t x y p) env m nx ⟨IntKind.i64=IntKind.i64,.s (.int .i64 (n - n')),[],[],0⟩:=by
 have:=abP (P:=P) (m:=m) (nx:=nx) (t:=t) (p:=p) hx hy
 rwa[i64_in _ hb] at this
section strings
variable{s s':ByteArray}(hx:(opd env x).core=.s (.string s))(hy:(opd env y).core=.s (.string s'))
include hx hy
theorem H7:Ef P (.binOp .eql t x y p) env m nx ⟨True,.s (.bool (s.toList==s'.toList)),[],[],0⟩:=lM hx hy (by simp) rfl
theorem Qe:Ef P (.binOp .geq t x y p) env m nx ⟨True,.s (.bool !(Op.bytesLess s.toList s'.toList)),[],[],0⟩:=lM hx hy (by simp) rfl
end strings
theorem Qf{b b':Bool}(hx:(opd env x).core=.s (.bool b))(hy:(opd env y).core=.s (.bool b')):Ef P (.binOp .eql t x y p) env m nx ⟨boT P t=true,.s (.bool (b==b')),[],[],0⟩:=
 ⟨by simp only[aop,rho,hx,hy,Qd,binD,Option.map_some],rfl,rfl⟩
theorem R9{b:Bool}(hx:(opd env x).core=.s (.bool b)):Ef P (.unOp .not t x) env m nx ⟨True,.s (.bool !b),[],[],0⟩:=⟨by simp only[aop,rho,hx,unV,Option.map_some],rfl,rfl⟩
theorem aaS{z:List D}(hz:zeroP P t=z):Ef P (.alloc t) env m nx ⟨tyOk P t=true,.rp nx 0,[(nx,some (.cells z t))],[],1⟩:=⟨by simp only[aop,hz],rfl,rfl⟩
theorem R'{cs:List D}(hx:(opd env x).core=d)(hc:d.cells=cs):Ef P (.box t x) env m nx ⟨cs.all D.one=true,.rp nx 0,[(nx,some (.cells cs t))],[],1⟩:=⟨by simp only[aop,rho,hx,hc],rfl,rfl⟩
theorem En(hx:(opd env x).core=d)(hc:d.cells=[d]):Ef P (.box t x) env m nx ⟨[d].all D.one=true,.rp nx 0,[(nx,some (.cells [d] t))],[],1⟩:=R' hx hc
theorem sc{cs:List D}(hx:(opd env x).core=.agg cs):Ef P (.box t x) env m nx ⟨cs.all D.one=true,.rp nx 0,[(nx,some (.cells cs t))],[],1⟩:=R' hx rfl
theorem Qg{cs:List D}(hx:(opd env x).core=.pt (v::cs))(ha:aggP P t=false):Ef P (.load t x) env m nx ⟨tyOk P t=true/\P.cellsOf t<=(v::cs).length,v,[],[],0⟩:=⟨by simp[aop,rho,hx,takeV,ha],rfl,rfl⟩
theorem lC{cs vs:List D}{n:Nat}(hx:(opd env x).core=.pt cs)(ha:aggP P t=true)(hc:P.cellsOf t=n)(hv:cs.take n=vs):Ef P (.load t x) env m nx ⟨tyOk P t=true/\P.cellsOf t<=cs.length,.agg vs,[],[],0⟩:=⟨by simp[aop,rho,hx,takeV,ha,hc,hv],rfl,rfl⟩
theorem ic{i off:Nat}{cs cs':List D}{e:TypeId}(hx:(opd env x).core=.rp i off)(hm:m i=some (.cells cs e))(hd:cs.drop off=v::cs')(ha:aggP P t=false):Ef P (.load t x) env m nx ⟨tyOk P t=true/\off+P.cellsOf t<=cs.length,v,[],[i],0⟩:=⟨by simp[aop,rho,hx,hm,takeV,ha,hd],rfl,rfl⟩
theorem eL{i off:Nat}{cs vs:List D}{e:TypeId}{n:Nat}(hx:(opd env x).core=.rp i off)(hm:m i=some (.cells cs e))(ha:aggP P t=true)(hc:P.cellsOf t=n)(hv:(cs.drop off).take n=vs):Ef P (.load t x) env m nx ⟨tyOk P t=true/\off+P.cellsOf t<=cs.length,.agg vs,[],[i],0⟩:=⟨by simp[aop,rho,hx,hm,takeV,ha,hc,hv],rfl,rfl⟩
theorem N2{i off:Nat}{cs cs' vs:List D}{e:TypeId}(hx:(opd env x).core=.rp i off)(hy:(opd env y).core=d)(hm:m i=some (.cells cs e))(hv:d.cells=vs)(hs:splice cs off vs=cs'):
 Ef P (.store t x y) env m nx ⟨tyOk P t=true/\vs.length=P.cellsOf t/\off+P.cellsOf t<=cs.length/\vs.all D.one=true,.tup [],[(i,some (.cells cs' e))],[i],0⟩:=⟨by simp only[aop,rho,hx,hy,hm,hv,hs],rfl,rfl⟩
theorem iN{i off:Nat}{cs cs':List D}{e:TypeId}(hx:(opd env x).core=.rp i off)(hy:(opd env y).core=d)(hm:m i=some (.cells cs e))(hv:d.cells=[d])(hs:cs.set off d=cs'):
 Ef P (.store t x y) env m nx ⟨tyOk P t=true/\[d].length=P.cellsOf t/\off+P.cellsOf t<=cs.length/\[d].all D.one=true,.tup [],[(i,some (.cells cs' e))],[i],0⟩:=N2 hx hy hm hv hs
theorem gT{i off:Nat}{cs cs' vs:List D}{e:TypeId}(hx:(opd env x).core=.rp i off)(hy:(opd env y).core=.agg vs)(hm:m i=some (.cells cs e))(hs:splice cs off vs=cs'):
 Ef P (.store t x y) env m nx ⟨tyOk P t=true/\vs.length=P.cellsOf t/\off+P.cellsOf t<=cs.length/\vs.all D.one=true,.tup [],[(i,some (.cells cs' e))],[i],0⟩:=N2 hx hy hm rfl hs
theorem N5{cs:List D}{j off:Nat}{ft:TypeId}(hx:(opd env x).core=.pt cs)(hf:fieldP P t j=some (off,ft)):Ef P (.fieldAddr t x j) env m nx ⟨0<P.cellsOf ft,.pt (cs.drop off),[],[],0⟩:=⟨by simp only[aop,rho,hx,hf],rfl,rfl⟩
theorem uT{i o:Nat}{j off:Nat}{ft:TypeId}{r:Row}(hx:(opd env x).core=.rp i o)(hm:m i=some r)(hf:fieldP P t j=some (off,ft)):Ef P (.fieldAddr t x j) env m nx ⟨0<P.cellsOf ft,.rp i (o+off),[],[i],0⟩:=⟨by simp only[aop,rho,hx,hf,hm],rfl,rfl⟩
theorem Qh{cs:List D}(hx:(opd env x).core=.pt cs):Ef P (.nilCheck x) env m nx ⟨True,.pt cs,[],[],0⟩:=⟨by simp only[aop,rho,hx],rfl,rfl⟩
theorem Qi{i o:Nat}{r:Row}(hx:(opd env x).core=.rp i o)(hm:m i=some r):Ef P (.nilCheck x) env m nx ⟨True,.rp i o,[],[i],0⟩:=⟨by simp only[aop,rho,hx,hm],rfl,rfl⟩
theorem IG{es cs:List D}{l sz:Nat}{e:TypeId}(hx:(opd env x).core=.sl es l)(hy:(opd env y).core=.s (.int k n))(he:elemP P t=e)(hs:P.cellsOf e=sz)(hd:es.drop (n.toNat*sz)=cs):
 Ef P (.indexAddr t x y) env m nx ⟨slT P t=true/\0<=n/\n<l/\(n.toNat+1)*sz<=es.length,.pt cs,[],[],0⟩:=⟨by simp only[aop,rho,hx,hy,he,hs,hd],rfl,rfl⟩
theorem H8{j off l sz:Nat}{e:TypeId}{r:Row}(hx:(opd env x).core=.rs j off l)(hy:(opd env y).core=.s (.int k n))(hm:m j=some r)(he:elemP P t=e)(hs:P.cellsOf e=sz):
 Ef P (.indexAddr t x y) env m nx ⟨slT P t=true/\0<=n/\n<l,.rp j (off+n.toNat*sz),[],[j],0⟩:=⟨by simp only[aop,rho,hx,hy,hm,he,hs],rfl,rfl⟩
theorem abR{j off sz l:Nat}{e:TypeId}{r:Row}(hx:(opd env x).core=.rp j off)(hy:(opd env y).core=.s (.int k n))(hm:m j=some r)(he:elemP P t=e)(hs:P.cellsOf e=sz)(hl:lenP P t=l):
 Ef P (.indexAddr t x y) env m nx ⟨arT P t=true/\0<=n/\n<l,.rp j (off+n.toNat*sz),[],[j],0⟩:=⟨by simp only[aop,rho,hx,hy,hm,he,hs,hl],rfl,rfl⟩
section builtins
theorem vn{b:Builtin}{ts:Array TypeId}{args:Array Operand}{aS:List D}{e:Eff}(hs:ts.size=args.size)(ha:args.toList.map (fun x=>(opd env x).core)=aS)(hb:builtinD P m nx b ts aS=some e):Ef P (.call { callee:=.builtin b,args:=args,argTypes:=ts }) env m nx e:=
 ⟨by simp only[aop];rw[if_pos hs];simp only[rho];rw[ha,hb],rfl,rfl⟩
theorem Sa{es:List D}{l:Nat}(hx:(opd env x).core=.sl es l):Ef P (.call { callee:=.builtin .len,args:= #[x],argTypes:= #[t] }) env m nx ⟨slT P t=true,.s (.int .i64 l),[],[],0⟩:=vn (aS:=[.sl es l]) rfl (by simp[hx]) rfl
theorem H9{i off l:Nat}{r:Row}(hx:(opd env x).core=.rs i off l)(hm:m i=some r):Ef P (.call { callee:=.builtin .len,args:= #[x],argTypes:= #[t] }) env m nx ⟨slT P t=true,.s (.int .i64 l),[],[i],0⟩:=vn (aS:=[.rs i off l]) rfl (by simp[hx]) (by simp[builtinD,lenD,hm])
theorem Qj(hx:(opd env x).core=.z):Ef P (.call { callee:=.builtin .len,args:= #[x],argTypes:= #[t] }) env m nx ⟨slT P t=true,.s (.int .i64 0),[],[],0⟩:=vn (aS:=[.z]) rfl (by simp[hx]) rfl
theorem H'{b:ByteArray}(hx:(opd env x).core=.s (.string b)):Ef P (.call { callee:=.builtin .len,args:= #[x],argTypes:= #[t] }) env m nx ⟨stT P t=true,.s (.int .i64 b.size),[],[],0⟩:=vn (aS:=[.s (.string b)]) rfl (by simp[hx]) rfl
theorem Sb{k:IntKind}(hx:(opd env x).core=.s (.int k n))(hy:(opd env y).core=.s (.int k n')):Ef P (.call { callee:=.builtin .min,args:= #[x,y],argTypes:= #[t,t] }) env m nx ⟨k=k,.s (.int k (if n'<n then n' else n)),[],[],0⟩:=vn (aS:=[.s (.int k n),.s (.int k n')]) rfl (by simp[hx,hy]) rfl
structure Cells(m:Mem)(sz:Nat)(d:D)(p:Prop)(rd:List Nat)(k:Nat)(news:List D):Prop where
 ok:sliceCells m sz d=some (p,rd,k,news)
theorem Nm{es news:List D}{k sz:Nat}(h:es.take (k*sz)=news):Cells m sz (.sl es k) (k*sz<=es.length) [] k news:=⟨by simp[sliceCells,h]⟩
theorem wU{i off k sz:Nat}{cs news:List D}{e:TypeId}(hm:m i=some (.cells cs e))(h:(cs.drop off).take (k*sz)=news):Cells m sz (.rs i off k) (off+k*sz<=cs.length) [i] k news:=⟨by simp[sliceCells,hm,h]⟩
theorem abS{p:Prop}{rd:List Nat}{c sz:Nat}{news:List D}{e:TypeId}(hx:(opd env x).core=.z)(hy:(opd env y).core=d)(he:elemP P t=e)(hs:P.cellsOf e=sz)(hc:Cells m sz d p rd c news):
 Ef P (.call { callee:=.builtin .append,args:= #[x,y],argTypes:= #[t,t] }) env m nx ⟨slT P t=true/\p/\0<sz/\c<=maxLen/\c*P.bytesOf e<=140737488355328,.rs nx 0 c,[(nx,some (.cells news e))],rd,1⟩:=by
 refine vn (aS:=[.z,d]) rfl (by simp[hx,hy]) ?_
 simp only[builtinD]
 rw[if_pos (by simp)]
 simp only[appendD,Array.getD_eq_getD_getElem?,List.getElem?_toArray,List.getElem?_cons_zero,Option.getD_some,he,hs,hc.ok]
theorem u6{p:Prop}{rd:List Nat}{c sz i off l:Nat}{cs cs' news:List D}{e:TypeId}(hx:(opd env x).core=.rs i off l)(hm:m i=some (.cells cs e))(hy:(opd env y).core=d)(he:elemP P t=e)(hs:P.cellsOf e=sz)(hc:Cells m sz d p rd c news)(hn:cs.drop off++news=cs'):
 Ef P (.call { callee:=.builtin .append,args:= #[x,y],argTypes:= #[t,t] }) env m nx ⟨slT P t=true/\e=e/\p/\0<sz/\off+l*sz=cs.length/\l+c<=maxLen/\(l+c)*P.bytesOf e<=140737488355328/\i∉rd,.rs nx 0 (l+c),[(i,none),(nx,some (.cells cs' e))],i::rd,1⟩:=by
 refine vn (aS:=[.rs i off l,d]) rfl (by simp[hx,hy]) ?_
 simp only[builtinD]
 rw[if_pos (by simp)]
 simp only[appendD,Array.getD_eq_getD_getElem?,List.getElem?_toArray,List.getElem?_cons_zero,Option.getD_some,he,hs,hc.ok,hm,hn]
end builtins
theorem Qk{b:ByteArray}(hx:(opd env x).core=.s (.string b))(hy:(opd env y).core=.s (.int k n)):Ef P (.index t x y) env m nx ⟨stT P t=true/\0<=n/\n<b.size,.s (.int .u8 (b.data.toList.getD n.toNat 0).toNat),[],[],0⟩:=⟨by simp only[aop,rho,hx,hy],rfl,rfl⟩
theorem qk{cs cs':List D}{j:Nat}(hx:(opd env x).core=.tup cs)(hd:cs.drop j=v::cs'):Ef P (.extract x j) env m nx ⟨j<cs.length,v,[],[],0⟩:=by
 have h:cs[j]? =some v:=by
  have:(cs.drop j)[0]? =some v:=by rw[hd];rfl
  simpa using this
 exact⟨by simp[aop,rho,hx,h],rfl,rfl⟩
theorem aaT{ps:Array (Nat×Operand)}{fs:Array Field}{cs z:List D}{qs:List (Nat×D)}(hu:P.underlying t=some (.struct fs))(hz:zeroP P t=z)(hq:(ps.toList.map fun q=>(q.1,(opd env q.2).core))=qs)
 (hf:fillD (fun i=>(fs[i]?).map fun f=>(f.offset,P.cellsOf f.type)) z qs=some cs):Ef P (.build t ps) env m nx ⟨tyOk P t=true/\fs.toList.all (fun f=>(P.info? f.type).isSome)=true,.agg cs,[],[],0⟩:=
 ⟨by simp only[aop,rho,hu,hz,hq,hf,Option.map_some],rfl,rfl⟩
theorem Hf{ps:Array (Nat×Operand)}{fs:Array Field}{KL:List (Nat×Nat)}{cs z:List D}{qs:List (Nat×D)}(hu:P.underlying t=some (.struct fs))(hp:(fs.toList.map fun(f:Field)=>(f.offset,P.cellsOf f.type))=KL)(hz:zeroP P t=z)(hq:(ps.toList.map fun q=>(q.1,(opd env q.2).core))=qs)
 (hf:fillD (fun i=>KL[i]?) z qs=some cs):Ef P (.build t ps) env m nx ⟨tyOk P t=true/\fs.toList.all (fun f=>(P.info? f.type).isSome)=true,.agg cs,[],[],0⟩:=by
 refine aaT hu hz hq ?_
 have:(fun(i:Nat)=>(fs[i]?).map fun(f:Field)=>(f.offset,P.cellsOf f.type))=fun(i:Nat)=>KL[i]? :=by
  funext i
  rw[<- hp]
  simp
 rw[this];exact hf
theorem DF{ps:Array (Nat×Operand)}{l sz:Nat}{e:TypeId}{cs z:List D}{qs:List (Nat×D)}(he:elemP P t=e)(hs:P.cellsOf e=sz)(hz:zeroP P e=z)(hq:(ps.toList.map fun q=>(q.1,(opd env q.2).core))=qs)
 (hf:fillD (fun i=>some (i*sz,sz)) (replD l z) qs=some cs):Ef P (.buildSlice t l ps) env m nx ⟨cs.all D.one=true/\l*sz<=2 ^ 24/\slT P t=true/\l<=maxLen,.rs nx 0 l,[(nx,some (.cells cs e))],[],1⟩:=
 ⟨by simp only[aop,rho,he,hs,hz,hq,hf,Option.map_some],rfl,rfl⟩
theorem Ql{f:Fn}{fs cs:Array Operand}{fd cd:List D}(hf:fs.toList.map (fun x=>(opd env x).core)=fd)(hc:cs.toList.map (fun x=>(opd env x).core)=cd):Ef P (.makeFunc f fs cs) env m nx ⟨True,.fn f fd cd,[],[],0⟩:=⟨by simp only[aop,rho,hf,hc],rfl,rfl⟩
theorem ac1:Ef P (.makeMap t none) env m nx ⟨True,.mp nx,[(nx,some (.map []))],[],1⟩:=⟨by simp only[aop],rfl,rfl⟩
theorem yO{e:TypeId}{z:List D}(hx:(opd env x).core=.s (.int .i64 n))(hy:(opd env y).core=.s (.int .i64 n'))(he:elemP P t=e)(hz:zeroP P e=z):
 Ef P (.makeSlice t x y) env m nx ⟨0<=n/\n=n'/\n<=9223372036854775807/\P.bytesOf e*n<=281474976710656/\slT P t=true,.rs nx 0 n.toNat,[(nx,some (.cells (replD n.toNat z) e))],[],1⟩:=⟨by simp only[aop,rho,hx,hy,he,hz],rfl,rfl⟩
theorem abT{src:TypeId}{k':IntKind}(hx:(opd env x).core=.s (.int k n))(hu:P.underlying t=some (.int k')):Ef P (.convert src t x) env m nx ⟨tyOk P src=true,.s (.int k' (k'.wrap n)),[],[],0⟩:=⟨by simp only[aop,rho,hx,hu],rfl,rfl⟩
theorem aaU{src e:TypeId}{b:ByteArray}(hx:(opd env x).core=.s (.string b))(hu:P.underlying t=some (.slice e))(he:P.underlying e=some (.int .u8)):
 Ef P (.convert src t x) env m nx ⟨stT P src=true/\b.size<=maxLen,.sl (b.data.toList.map fun c=>.s (.int .u8 c.toNat)) b.size,[],[],0⟩:=⟨by simp only[aop,rho,hx,hu,he],rfl,rfl⟩
def b9(b:ByteArray):List Int:=b.data.toList.map fun c=>(c.toNat:Int)
theorem Xd(b:ByteArray):(b9 b).length=b.size:=by unfold b9;rw[List.length_map];rfl
theorem Nn{src e:TypeId}{b:ByteArray}(hx:(opd env x).core=.s (.string b))(hu:P.underlying t=some (.slice e))(he:P.underlying e=some (.int .u8)):
 Ef P (.convert src t x) env m nx ⟨stT P src=true/\b.size<=maxLen,.sl ((b9 b).map fun n=>.s (.int .u8 n)) (b9 b).length,[],[],0⟩:=by
 have:=aaU (P:=P) (env:=env) (m:=m) (nx:=nx) (t:=t) (src:=src) hx hu he
 have h:(b9 b).map (fun n=>D.s (.int .u8 n))=b.data.toList.map (fun c=>D.s (.int .u8 c.toNat)):=by rw[b9,List.map_map];rfl
 rw[Xd,h]
 exact this
theorem wZ{es es':List D}{l:Nat}{lo hi:Option Operand}{a b:Int}{e:TypeId}{sz:Nat}(hx:(opd env x).core=.sl es l)(he:elemP P t=e)(hs:P.cellsOf e=sz)
 (ha:bndD (lo.map fun x=>(opd env x).core) 0=some a) (hb:bndD (hi.map fun x=>(opd env x).core) l=some b) (hd:(es.drop (a.toNat*sz)).take ((b - a).toNat*sz)=es'):
 Ef P (.slice t x lo hi none) env m nx ⟨slT P t=true/\0<=a/\a<=b/\b<=l,.sl es' (b - a).toNat,[],[],0⟩:=by
 refine⟨?_,rfl,rfl⟩
 show sliceD P m t (opd env x).core (lo.map fun x=>(opd env x).core) (hi.map fun x=>(opd env x).core) (Option.map (fun x=>(opd env x).core) none)=_
 rw[hx]
 simp only[sliceD,Option.map_none,ha,hb,he,hs,hd]
theorem No{i off l:Nat}{cs:List D}{lo hi:Option Operand}{a b:Int}{e:TypeId}{sz:Nat}(hx:(opd env x).core=.rs i off l)(hm:m i=some (.cells cs e))(he:elemP P t=e)(hs:P.cellsOf e=sz)
 (ha:bndD (lo.map fun x=>(opd env x).core) 0=some a) (hb:bndD (hi.map fun x=>(opd env x).core) l=some b):
 Ef P (.slice t x lo hi none) env m nx ⟨(slT P t=true/\sz=sz)/\0<=a/\a<=b/\b<=l,.rs i (off+a.toNat*sz) (b - a).toNat,[],[i],0⟩:=by
 refine⟨?_,rfl,rfl⟩
 show sliceD P m t (opd env x).core (lo.map fun x=>(opd env x).core) (hi.map fun x=>(opd env x).core) (Option.map (fun x=>(opd env x).core) none)=_
 rw[hx]
 simp only[sliceD,hm,Option.map_none,ha,hb,he,hs]
theorem ZC{i:Nat}{es:List (Value×D)}{key:Value}{ok:Bool}{kt:TypeId}(hx:(opd env x).core=.mp i)(hm:m i=some (.map es))(hk:keyV (opd env y).core=some key)(ht:mkeyP P t=kt)(hg:gotD P t ok (lookD key es)=v):
 Ef P (.lookup t x y ok) env m nx ⟨mapT P t=true/\keyP P kt key=true/\es.all (fun e=>keyP P kt e.1)=true,v,[],[i],0⟩:=by
 refine⟨?_,rfl,rfl⟩
 show lookupD P m t (opd env x).core (opd env y).core ok=_
 simp only[lookupD,hk,hx,hm,ht,hg]
theorem MC{es:List (Value×D)}{key:Value}{ok:Bool}{kt:TypeId}(hx:(opd env x).core=.im es)(hk:keyV (opd env y).core=some key)(ht:mkeyP P t=kt)(hg:gotD P t ok (lookD key es)=v):
 Ef P (.lookup t x y ok) env m nx ⟨mapT P t=true/\keyP P kt key=true/\es.all (fun e=>keyP P kt e.1)=true,v,[],[],0⟩:=by
 refine⟨?_,rfl,rfl⟩
 show lookupD P m t (opd env x).core (opd env y).core ok=_
 simp only[lookupD,hk,hx,ht,hg]
theorem abU{i:Nat}{es:List (Value×D)}{key:Value}{z:Operand}{kt:TypeId}(hx:(opd env x).core=.mp i)(hm:m i=some (.map es))(hk:keyV (opd env y).core=some key)(hz:(opd env z).core=v)(ht:mkeyP P t=kt):
 Ef P (.mapUpdate t x y z) env m nx ⟨mapT P t=true/\keyP P kt key=true/\es.all (fun e=>keyP P kt e.1)=true,.tup [],[(i,some (.map (putD key v es)))],[i],0⟩:=by
 refine⟨?_,rfl,rfl⟩
 show mapPutD P m t (opd env x).core (opd env y).core (opd env z).core=_
 simp only[mapPutD,hk,hx,hm,ht,hz]
end
theorem gn{α:Type}{f:α->D}:∀ {l:List α} {k:Nat} {x:α},l[k]? =some x->(l.map f).drop k=f x::(l.drop (k+1)).map f
 |[],k,x,h=>by simp at h
 |a::l,0,x,h=>by simp at h;subst h;rfl
 |a::l,k+1,x,h=>by simpa using gn (f:=f) (l:=l) (k:=k) (by simpa using h)
theorem MD{α:Type}{f:α->List D}{sz:Nat}(hs:∀ x,(f x).length=sz):∀ {l:List α} {k:Nat} {x:α},l[k]? =some x->(l.flatMap f).drop (k*sz)=f x++(l.drop (k+1)).flatMap f
 |[],k,x,h=>by simp at h
 |a::l,0,x,h=>by simp at h;subst h;simp
 |a::l,k+1,x,h=>by
  have h1:(k+1)*sz=(f a).length+k*sz:=by rw[hs];rw[Nat.add_mul];omega
  simp only[List.flatMap_cons,h1,List.drop_append,List.drop_succ_cons]
  rw[List.drop_of_length_le oG]
  have:(f a).length+k*sz - (f a).length=k*sz:=by omega
  rw[this]
  simpa using MD hs (l:=l) (k:=k) (by simpa using h)
theorem L8{α:Type}{f:α->List D}{sz:Nat}(hs:∀ x,(f x).length=sz):∀ (l:List α),(l.flatMap f).length=l.length*sz
 |[]=>by simp
 |a::l=>by simp only[List.flatMap_cons,List.length_append,hs,L8 hs l,List.length_cons,Nat.add_mul];omega
section
variable{P:Program}{env:Env}{m:Mem}{nx:Nat}{t e:TypeId}{x y:Operand}{k:IntKind}
theorem Qm{α:Type}{f:α->D}{l:List α}{i n:Nat}{z:α}(hx:(opd env x).core=.sl (l.map f) n)(hy:(opd env y).core=.s (.int k i))(he:elemP P t=e)(hs:P.cellsOf e=1)(hz:l[i]? =some z):
 Ef P (.indexAddr t x y) env m nx ⟨slT P t=true/\0<=(i:Int)/\(i:Int)<n/\((i:Int).toNat+1)*1<=(l.map f).length,.pt (f z::(l.drop (i+1)).map f),[],[],0⟩:=
 IG hx hy he hs (by rw[Int.toNat_natCast,Nat.mul_one];exact gn hz)
theorem Qn{α:Type}{f:α->D}{l:List α}{i:Nat}{z:α}(ht:slT P t=true)(hz:l[i]? =some z):slT P t=true/\0<=(i:Int)/\(i:Int)<l.length/\((i:Int).toNat+1)*1<=(l.map f).length:=by
 have:=(List.getElem?_eq_some_iff.1 hz).1
 exact⟨ht,by omega,by omega,by simp;omega⟩
theorem u7{α:Type}{f:α->List D}{sz:Nat}{l:List α}{i n:Nat}{z:α}(hx:(opd env x).core=.sl (l.flatMap f) n)(hy:(opd env y).core=.s (.int k i))(he:elemP P t=e)(hs:P.cellsOf e=sz)(hl:∀ x,(f x).length=sz)(hz:l[i]? =some z):
 Ef P (.indexAddr t x y) env m nx ⟨slT P t=true/\0<=(i:Int)/\(i:Int)<n/\((i:Int).toNat+1)*sz<=(l.flatMap f).length,.pt (f z++(l.drop (i+1)).flatMap f),[],[],0⟩:=
 IG hx hy he hs (by rw[Int.toNat_natCast];exact MD hl hz)
theorem u9{α:Type}{f:α->List D}{sz:Nat}{l:List α}{i:Nat}{z:α}(ht:slT P t=true)(hl:∀ x,(f x).length=sz)(hz:l[i]? =some z):slT P t=true/\0<=(i:Int)/\(i:Int)<l.length/\((i:Int).toNat+1)*sz<=(l.flatMap f).length:=by
 have:=(List.getElem?_eq_some_iff.1 hz).1
 refine⟨ht,by omega,by omega,?_⟩
 rw[L8 hl,Int.toNat_natCast]
 exact Nat.mul_le_mul_right _ this
theorem Qo{v:D}{cs:List D}(ht:tyOk P t=true)(hc:P.cellsOf t=1):tyOk P t=true/\P.cellsOf t<=(v::cs).length:=⟨ht,by rw[hc];simp⟩
theorem ie{v:D}{cs cs':List D}{off:Nat}(ht:tyOk P t=true)(hc:P.cellsOf t=1)(hd:cs.drop off=v::cs'):tyOk P t=true/\off+P.cellsOf t<=cs.length:=by
 refine⟨ht,?_⟩
 have:(cs.drop off).length=cs'.length+1:=by rw[hd];rfl
 rw[List.length_drop] at this
 omega
theorem lD{n:Nat}{cs:List D}(ht:tyOk P t=true)(hc:P.cellsOf t=n)(hl:n<=cs.length):tyOk P t=true/\P.cellsOf t<=cs.length:=⟨ht,by rw[hc];exact hl⟩
theorem eM{n off:Nat}{cs:List D}(ht:tyOk P t=true)(hc:P.cellsOf t=n)(hl:off+n<=cs.length):tyOk P t=true/\off+P.cellsOf t<=cs.length:=⟨ht,by rw[hc];exact hl⟩
theorem sk{n:Nat}(hc:P.cellsOf t=n+1):0<P.cellsOf t:=by omega
theorem dU{n off:Nat}{cs vs:List D}(ht:tyOk P t=true)(hc:P.cellsOf t=n)(hv:vs.length=n/\off+n<=cs.length)(ho:vs.all D.one=true):tyOk P t=true/\vs.length=P.cellsOf t/\off+P.cellsOf t<=cs.length/\vs.all D.one=true:=
 ⟨ht,by rw[hc];exact hv.1,by rw[hc];exact hv.2,ho⟩
end
section
variable{P:Program}{K:D->St->Prop}{st:St}
theorem tv(h:K (.tup []) st):retQ P [] K .ret st:=h
theorem sd(h:K (.tup []) st):retQ P [] K .normal st:=h
theorem ap{t:Nat}{d:D}(hd:st.env t=d)(h:K d st):retQ P [.tmp t] K .ret st:=⟨trivial,by subst hd;exact h⟩
theorem kM{t u:Nat}{d e:D}(hd:st.env t=d)(he:st.env u=e)(h:K (.tup [d,e]) st):retQ P [.tmp t,.tmp u] K .ret st:=⟨trivial,trivial,by subst hd;subst he;exact h⟩
theorem me{a i off n:Nat}{ty e:TypeId}{cs vs:List D}(ha:st.env a=.rp i off)(hm:st.mem i=some (.cells cs e))(hg:aggP P ty=true)(hc:P.cellsOf ty=n)(hv:(cs.drop off).take n=vs)(ht:tyOk P ty=true)(hl:off+n<=cs.length):
 ∃ p,resD P st (.cell a ty)=some (p,.agg vs)/\p:=⟨tyOk P ty=true/\off+n<=cs.length,by simp only[resD,ha,hm,takeV,hg,if_true,hc,hv],ht,hl⟩
theorem lG{a:Nat}{ty:TypeId}{d:D}(hr:∃ p,resD P st (.cell a ty)=some (p,d)/\p)(h:K d st):retQ P [.cell a ty] K .ret st:=by
 obtain⟨p,h1,h2⟩:=hr
 simp only[retQ,retL,h1]
 exact⟨h2,h⟩
theorem XM{a t:Nat}{ty:TypeId}{d e:D}(hr:∃ p,resD P st (.cell a ty)=some (p,d)/\p)(he:st.env t=e)(h:K (.tup [d,e]) st):retQ P [.cell a ty,.tmp t] K .ret st:=by
 obtain⟨p,h1,h2⟩:=hr
 simp only[retQ,retL,h1]
 exact⟨h2,trivial,by subst he;exact h⟩
end
section
variable{P:Program}{Y:YSpec}{rf:Bool}{Q:Exit->St->Prop}{st:St}
theorem ao{l:List (Nat×D)}{env:Env}{m:Mem}{nx:Nat}(h:mz l env):Ghost P ⟨env,m,nx⟩ ⟨ax l,m,nx⟩:=.forget env _ m nx (n7 h)
def Jp(P:Program):List (Nat×List D×TypeId)->Mem->Prop
 |[],_=>True
 |(i,cs,e)::fs,m=>m i=some (.cells cs e)/\Jp P fs (fun j=>if j=i then none else(m j).map (Row.sub (fz0 i cs (P.cellsOf e))))
def rk(P:Program):List (Nat×List D×TypeId)->D->D
 |[],d=>d
 |(i,cs,e)::fs,d=>rk P fs (sub (fz0 i cs (P.cellsOf e)) d)
theorem MF:∀ {fs:List (Nat×List D×TypeId)} {env:Env} {m:Mem} {nx:Nat},Jp P fs m->∃ m',Ghost P ⟨env,m,nx⟩ ⟨fun t=>rk P fs (env t),m',nx⟩
 |[],env,m,nx,_=>⟨m,.refl _⟩
 |(i,cs,e)::fs,env,m,nx,⟨h1,h2⟩=>by
  obtain⟨m',h⟩:=MF (env:=fun t=>sub (fz0 i cs (P.cellsOf e)) (env t)) (nx:=nx) h2
  exact⟨m',(Ghost.freeze env m nx i cs e h1).trans h⟩
theorem bg{env:Env}{m:Mem}{nx:Nat}(fs:List (Nat×List D×TypeId))(hf:Jp P fs m){l:List (Nat×D)}(hl:mz l fun t=>rk P fs (env t)):Ghost P ⟨env,m,nx⟩ ⟨ax l,fun _=>none,nx⟩:=by
 obtain⟨m',h⟩:=MF (env:=env) (nx:=nx) hf
 exact h.trans ((Ghost.forget _ _ _ _ (n7 hl)).trans (Ghost.drop _ _ _ _ fun _=>.inr rfl))
def mE(gR id:Nat)(next:St->Prop)(Q:Exit->St->Prop):Exit->St->Prop
 | .normal,s=>next s
 | .exit i,s=>if i=gR then next s else if i=id then Q .normal s else Q (.exit i) s
 |e,s=>Q e s
def zh(P:Program){α:Type}(S:α->St)(J:α->Prop)(μ:α->Nat)(x:α)(s:St):Prop:=∃ x',Ghost P s (S x')/\J x'/\μ x'<μ x
theorem aK{α:Type}{S:α->St}{J:α->Prop}{μ:α->Nat}{x:α}{s:St}(x':α)(hg:Ghost P s (S x'))(hJ:J x')(hμ:μ x'<μ x):zh P S J μ x s:=⟨x',hg,hJ,hμ⟩
theorem Eb[dR Y]{b:Code}{α:Type}(S:α->St)(J:α->Prop)(μ:α->Nat)(x₀:α)(hg:Ghost P st (S x₀))(hJ:J x₀)(h:∀ x,J x->AW P Y rf b (seqQ (zh P S J μ x) Q) (S x)){a:Code}(ha:∀ st,Q .normal st->Q .normal st):
 ∃ st',Ghost P st st'/\AW P Y rf (.loop b) Q st':=
 ⟨S x₀,hg,aaW S J μ x₀ rfl hJ fun x hx=>tm b (fun e st' hq=>by
  cases e with
  |normal=>
   obtain⟨x',h1,h2,h3⟩:=hq
   exact⟨S x',x',h1,rfl,h2,h3⟩
  |_=>exact hq) (h x hx)⟩
variable{id gR t i1 i2 i3 i4:Nat}{rc ri:Array Oper}{body rest:Code}{α:Type}
theorem HN[dR Y]{ri:Array Oper}{next:St->Prop}{s:St}(h:AW P Y rf body (mE gR id (fun s=>AOps P Y ri false [] (fS next) ri.toList s []) Q) s):
 AW P Y rf (.seq (.block gR body) (.region i3 ri false)) (seqQ next (blockQ id Q)) s:=by
 refine tm body (fun e s h=>?_) h
 have hr:∀ s,AOps P Y ri false [] (fS next) ri.toList s []->∃ s',Ghost P s s'/\AW P Y rf (.region i3 ri false) (seqQ next (blockQ id Q)) s':=fun s h=>⟨s,.refl s,rS (rf:=rf) (id:=i3) (AOps.kZ h fun _ h=>h)⟩
 cases e with
 |normal=>exact hr s h
 |exit i=>
  simp only[mE] at h
  simp only[blockQ]
  split at h
  .rename_i hi;rw[if_pos hi];exact hr s h
  .rename_i hi;rw[if_neg hi];simp only[seqQ,blockQ];exact h
 |_=>exact h
theorem eX[dR Y](S:α->St)(J:α->Prop)(μ:α->Nat)(x₀:α)(hg:Ghost P st (S x₀))(hJ:J x₀)
 (h:∀ x,J x->AOps P Y rc false [] (fS fun s=>∃ g,opd s.env (.tmp t)=.s (.bool g)/\(g=true->AW P Y rf body (mE gR id (fun s=>AOps P Y ri false [] (fS (zh P S J μ x)) ri.toList s []) Q) s)/\(g=false->Q .normal s)) rc.toList (S x) []):
 ∃ st',Ghost P st st'/\AW P Y rf (.block id (.loop (.seq (.region i1 rc false) (.seq (.cond (.tmp t) .skip (.exit id)) (.seq (.block gR body) (.region i3 ri false)))))) Q st':=by
 refine Eb (Q:=blockQ id Q) S J μ x₀ hg hJ (fun x hx=>?_) (a:=.skip) fun _ h=>h
 refine rS (rf:=rf) (id:=i1) (AOps.kZ (h x hx) fun s hs=>?_)
 obtain⟨g,h1,h2,h3⟩:=hs
 refine⟨s,.refl s,bp h1 (fun ru=>?_) fun yi=>?_⟩
 .exact b8 (HN (h2 ru))
 .refine n5 ?_
  simp only[seqQ,blockQ,if_true]
  exact h3 yi
theorem cH[dR Y](S:α->St)(J:α->Prop)(μ:α->Nat)(x₀:α)(hg:Ghost P st (S x₀))(hJ:J x₀)
 (h:∀ x,J x->AOps P Y rc false [] (fS fun s=>∃ g,opd s.env (.tmp t)=.s (.bool g)/\(g=true->AW P Y rf body (mE gR id (fun s=>AOps P Y ri false [] (fS (zh P S J μ x)) ri.toList s []) Q) s)/\(g=false->Q .normal s)) rc.toList (S x) []):
 ∃ st',Ghost P st st'/\AW P Y rf (.block id (.loop (.seq (.seq (.region i1 rc false) (.cond (.tmp t) .skip (.exit id))) (.seq (.block gR body) (.region i3 ri false))))) Q st':=by
 refine Eb (Q:=blockQ id Q) S J μ x₀ hg hJ (fun x hx=>?_) (a:=.skip) fun _ h=>h
 refine aC (rS (rf:=rf) (id:=i1) (AOps.kZ (h x hx) fun s hs=>?_))
 obtain⟨g,h1,h2,h3⟩:=hs
 refine⟨s,.refl s,bp h1 (fun ru=>?_) fun yi=>?_⟩
 .exact b8 (HN (h2 ru))
 .refine n5 ?_
  simp only[seqQ,blockQ,if_true]
  exact h3 yi
theorem ZJ[dR Y]{next:St->Prop}{s:St}(h:AW P Y rf body (mE gR id next Q) s):AW P Y rf (.block gR body) (seqQ next (blockQ id Q)) s:=by
 refine tm body (fun e s h=>?_) h
 cases e with
 |exit i=>
  simp only[mE] at h
  simp only[blockQ]
  split at h
  .rename_i hi;rw[if_pos hi];exact h
  .rename_i hi;rw[if_neg hi];simp only[seqQ,blockQ];exact h
 |_=>exact h
theorem w0[dR Y](S:α->St)(J:α->Prop)(μ:α->Nat)(x₀:α)(hg:Ghost P st (S x₀))(hJ:J x₀)
 (h:∀ x,J x->AOps P Y rc false [] (fS fun s=>∃ g,opd s.env (.tmp t)=.s (.bool g)/\(g=true->AW P Y rf body (mE gR id (zh P S J μ x) Q) s)/\(g=false->Q .normal s)) rc.toList (S x) []):
 ∃ st',Ghost P st st'/\AW P Y rf (.block id (.loop (.seq (.seq (.region i1 rc false) (.cond (.tmp t) .skip (.exit id))) (.block gR body)))) Q st':=by
 refine Eb (Q:=blockQ id Q) S J μ x₀ hg hJ (fun x hx=>?_) (a:=.skip) fun _ h=>h
 refine aC (rS (rf:=rf) (id:=i1) (AOps.kZ (h x hx) fun s hs=>?_))
 obtain⟨g,h1,h2,h3⟩:=hs
 refine⟨s,.refl s,bp h1 (fun ru=>?_) fun yi=>?_⟩
 .exact b8 (ZJ (h2 ru))
 .refine n5 ?_
  simp only[seqQ,blockQ,if_true]
  exact h3 yi
theorem cx{s:St}(h:Q .normal s):AW P Y rf .skip Q s:=h
theorem aO{s:St}(h:Q .ret s):AW P Y rf .ret Q s:=h
theorem cm{next:St->Prop}{s:St}(h:Q .ret s):mE gR id next Q .ret s:=h
theorem aM{K:St->Prop}{s:St}(h:Q .ret s):seqQ K Q .ret s:=h
theorem bh{s:St}(h:Q .ret s):blockQ id Q .ret s:=h
theorem HO{s:St}(h:Q .ret s):scopeQ Q .ret s:=h
theorem tw{next:St->Prop}{s:St}(h:next s):mE gR id next Q (.exit gR) s:=by simp only[mE,if_true];exact h
theorem ac6{i:Nat}{next:St->Prop}{s:St}(h2:i≠gR)(h1:i≠id)(h:Q (.exit i) s):mE gR id next Q (.exit i) s:=by simp only[mE,if_neg h2,if_neg h1];exact h
theorem mg[dR Y]{a:Code}(h:AW P Y rf a (blockQ id (seqQ (fun st=>AW P Y rf rest Q st) Q)) st):AW P Y rf (.seq (.block id a) rest) Q st:=Sf (fun st=>AW P Y rf rest Q st) (qp h) fun _ h=>h
theorem lH{s:St}(h:AW P Y rf rest Q s):AW P Y rf .skip (blockQ id (seqQ (fun st=>AW P Y rf rest Q st) Q)) s:=h
theorem Qq[dR Y]{a:Code}(h:AW P Y rf a (seqQ (fun st=>AW P Y rf rest Q st) Q) st):AW P Y rf (.seq a rest) Q st:=Sf _ h fun _ h=>h
theorem kp[dR Y]{r:Array Oper}{i:Nat}{J:St->Prop}(h:AOps P Y r false [] (fS J) r.toList st []):AW P Y rf (.region i r false) (seqQ J Q) st:=rS (rf:=rf) (id:=i) (AOps.kZ h fun _ h=>h)
theorem nk[dR Y]{r:Array Oper}{i:Nat}{J:St->Prop}(h:AOps P Y r false [] (fS J) r.toList st []):AW P Y rf (.region i r false) (blockQ id (seqQ J Q)) st:=rS (rf:=rf) (id:=i) (AOps.kZ h fun _ h=>h)
theorem aR{J:St->Prop}(h:J st):AW P Y rf .skip (seqQ J Q) st:=h
theorem Hl{J:St->Prop}(h:J st):AW P Y rf .skip (blockQ id (seqQ J Q)) st:=h
theorem bM[dR Y]{a:Code}(R:St->Prop)(h:∃ st',Ghost P st st'/\AW P Y rf a (seqQ R Q) st')(k:∀ s,R s->∃ s',Ghost P s s'/\AW P Y rf rest Q s'):∃ st',Ghost P st st'/\AW P Y rf (.seq a rest) Q st':=by
 obtain⟨st',hg,h⟩:=h
 exact⟨st',hg,dV R h k⟩
end
def Real(d:D):Prop:=∃ F β w v,R F β w d v
theorem Real.sl{es:List D}{n:Nat}(h:Real (.sl es n)):n<=maxLen/\∀ d∈es,Real d:=by
 obtain⟨F,β,w,v,h⟩:=h
 cases h with
 |sln=>simp[maxLen]
 |sl _ _ b o cap us hf hb aj pN eY hc hh=>
  refine⟨Nat.le_trans pN eY,fun d hd=>?_⟩
  obtain⟨k,hk⟩:=List.getElem?_of_mem hd
  exact⟨F,β,w,_,hh k d hk⟩
theorem Real.agg{cs:List D}(h:Real (.agg cs)):∀ d∈cs,Real d:=by
 obtain⟨F,β,w,v,h⟩:=h
 obtain⟨vs,rfl,hl,hh⟩:=h.agg_inv
 intro d hd
 obtain⟨k,hk⟩:=List.getElem?_of_mem hd
 have:k<vs.length:=by rw[hl];exact(List.getElem?_eq_some_iff.1 hk).1
 exact⟨F,β,w,_,hh k d vs[k] hk (by simp[this])⟩
theorem aaX{F:Nat->Prop}{β:Pla}{w:World}{args:List D}{vs:Array Value}(h:Rs F β w args vs):∀ a∈args,Real a:=fun a ha=>by
 obtain⟨k,hk⟩:=List.getElem?_of_mem ha
 have:k<vs.size:=by rw[h.1];exact(List.getElem?_eq_some_iff.1 hk).1
 exact⟨F,β,w,vs[k],h.2 k a _ hk (by simp[this])⟩
theorem pw{P:Program}{f:FuncId}{args:List D}{r:D}(he:enterOk P f=true)(ht:∀ a∈args,Tr a)(h:(∀ a∈args,Real a)->PCall P f args r):PCall P f args r:=
 ⟨he,ht,fun F w vs hF hR=>(h (aaX hR)).2.2 F w vs hF hR⟩
section
variable{P:Program}{m:Mem}{rds:List Nat}
theorem cq{a:D}(h:Tr a):Sn P rds m a a:=fun _ _ _ _ _ hv=>h.BO hv
theorem EH{i off n:Nat}{cs es:List D}{e:TypeId}(hm:m i=some (.cells cs e))(hi:i∈rds)(lh:(cs.drop off).take (n*P.cellsOf e)=es)(ht:∀ a∈es,Tr a):Sn P rds m (.rs i off n) (.sl es n):=fun F β w v hl hv=>by
 subst lh
 obtain⟨p,hp,hr,uf⟩:=hl i hi _ hm
 cases hv with
 |rsd _ _ _ _ h1 _=>rw[h1] at hp;cases hp;cases hr
 |rsn _ a h1=>
  rw[h1] at hp
  cases hp
  cases hr
  simp only[List.drop_nil,List.take_nil]
  exact .sln a 0
 |rsz _ _ a b o len room sz h1=>
  simp only[Nat.zero_mul,List.take_zero]
  exact .sln a 0
 |rs _ _ _ cap b o len room sz h1 hn eY h2 h3=>
  rw[h1] at hp
  cases hp
  have aj:b<w.heap.size:=by
   cases hr with
   |cells _ _ _ _ _ _ c hb _ _ _ _=>exact(Array.getElem?_eq_some_iff.1 hb).1
  obtain⟨cQ,hl,bL,_⟩:=hr.rd
  obtain⟨us,u1,u2⟩:=(cQ.drop off).take (n*P.cellsOf e)
  exact .sl _ n b (o+off) cap us (uf b rfl) (fun k q hq=>by cases hq) aj hn eY u1 fun k d hk=>(ht d (List.mem_of_getElem? hk)).BO (u2 k d hk)
theorem ada{i off:Nat}{cs es:List D}{e:TypeId}(hm:m i=some (.cells cs e))(hi:i∈rds)(lh:cs.drop off=es)(ht:∀ a∈es,Tr a):Sn P rds m (.rp i off) (.pt es):=fun F β w v hl hv=>by
 subst lh
 obtain⟨p,hp,hr,uf⟩:=hl i hi _ hm
 cases hv with
 |rpd _ _ _ h1 _=>rw[h1] at hp;cases hp;cases hr
 |rp _ _ b o len room sz h1=>
  rw[h1] at hp
  cases hp
  have aj:b<w.heap.size:=by
   cases hr with
   |cells _ _ _ _ _ _ c hb _ _ _ _=>exact(Array.getElem?_eq_some_iff.1 hb).1
  obtain⟨cQ,hl,bL,_⟩:=hr.rd
  obtain⟨us,u1,u2⟩:=cQ.drop off
  exact .pt _ b (o+off) us (uf b rfl) (fun k q hq=>by cases hq) aj u1 fun k d hk=>(ht d (List.mem_of_getElem? hk)).BO (u2 k d hk)
variable{Y:YSpec}{rf:Bool}{ops:Array Oper}{dr:Bool}{cf:List (Nat×Nat)}{Q:Exit->St->Prop}{rest:List Oper}{env:Env}{nx:Nat}{tr:Tra}{t:Nat}{op:Op}{ty:TypeId}{pos:String}{after:Array Edge}
 {pre:Prop} {v:D} {rd:List Nat}
theorem ab0{j:Nat}{b:Bool}{u:Nat}{row:Row}(hj:(ops[j]?).bind (·.dst)=some u)(hg:guardC (env u) b=some true)(he:Ef P op env m nx ⟨pre,v,[(nx,some row)],rd,1⟩)(ha:gK env op.operands.toList)(hp:pre)
 (K:AOps P Y ops dr cf Q rest ⟨up env t v,up m nx (some row),nx+1⟩ (tr++[(rd,[nx])])):AOps P Y ops dr cf Q (⟨some t,op,ty,pos,after,some (j,b)⟩::rest) ⟨env,m,nx⟩ tr:=
 adb hj hg he ha hp (fun h=>by cases h) K
theorem Ep{j:Nat}{b:Bool}{u:Nat}{f:FuncId}{args args':List D}{r:D}{rds:List Nat}(h:PCall P f args' r)(hs:r.scal=true)(hj:(ops[j]?).bind (·.dst)=some u)(hg:guardC (env u) b=some true)(hc:callD (rho env op) op=some (f,args))(mO:Sns P rds m args args')(ha:gK env op.operands.toList)
 (K:AOps P Y ops dr cf Q rest ⟨up env t r,m,nx⟩ (tr++[(rds,[])])):AOps P Y ops dr cf Q (⟨some t,op,ty,pos,after,some (j,b)⟩::rest) ⟨env,m,nx⟩ tr:=
 ZM hj hg hc ha (.inr (.inl ⟨args',rds,r,mO,h,hs,K⟩))
end
section
variable{P:Program}{Y:YSpec}{rf:Bool}{ops:Array Oper}{dr:Bool}{cf:List (Nat×Nat)}{Q:Exit->St->Prop}{rest:List Oper}{env:Env}{m:Mem}{nx:Nat}{tr:Tra}{t:Nat}{ty:TypeId}{pos:String}{after:Array Edge}
theorem YB{j:Nat}{b0 c0:Bool}{u:Nat}(hj:(ops[j]?).bind (·.dst)=some u)(hg:guardC (env u) b0=some c0){c a b:Operand}{x:Bool}(hc:(opd env c).core=.s (.bool true))(ha:(opd env a).core=.s (.bool x))
 (h0:c0=true->(opd env c).ask) (h1:c0=true->(opd env a).ask) (K:AOps P Y ops dr cf Q rest ⟨up env t (.opt c0 (.s (.bool x))),m,nx⟩ (tr++[([],[])])):
 AOps P Y ops dr cf Q (⟨some t,.pick c a b,ty,pos,after,some (j,b0)⟩::rest) ⟨env,m,nx⟩ tr:=by
 have he:=yU (P:=P) (env:=env) (m:=m) (nx:=nx) (a:=a) (b:=b) hc
 simp only[ha,D.bool?,Option.getD_some,if_true] at he
 simp only[AOps,AOp]
 rw[hj]
 simp only[Option.bind_some]
 rw[hg,he.nc,he.ny,he.ok]
 exact⟨fun hc=>⟨by simp only[asks];exact h0 hc,fun _=>⟨h1 hc,rfl⟩,fun h=>by cases h⟩,K⟩
theorem YC{j:Nat}{b0 c0:Bool}{u:Nat}(hj:(ops[j]?).bind (·.dst)=some u)(hg:guardC (env u) b0=some c0){c a b:Operand}{y:Bool}(hc:(opd env c).core=.s (.bool false))(hb:(opd env b).core=.s (.bool y))
 (h0:c0=true->(opd env c).ask) (h1:c0=true->(opd env b).ask) (K:AOps P Y ops dr cf Q rest ⟨up env t (.opt c0 (.s (.bool y))),m,nx⟩ (tr++[([],[])])):
 AOps P Y ops dr cf Q (⟨some t,.pick c a b,ty,pos,after,some (j,b0)⟩::rest) ⟨env,m,nx⟩ tr:=by
 have he:=yU (P:=P) (env:=env) (m:=m) (nx:=nx) (a:=a) (b:=b) hc
 simp only[hb,D.bool?,Option.getD_some,Bool.false_eq_true,if_false] at he
 simp only[AOps,AOp]
 rw[hj]
 simp only[Option.bind_some]
 rw[hg,he.nc,he.ny,he.ok]
 exact⟨fun hc=>⟨by simp only[asks];exact h0 hc,fun h=>(by cases h),fun _=>⟨h1 hc,rfl⟩⟩,K⟩
variable{id:Nat}{st:St}
theorem Nx[dR Y]{i:Nat}{J:St->Prop}(hi:drawInfo ops=some cf)(h:AOps P Y ops true cf (fS J) ops.toList st []):AW P Y rf (.region i ops true) (blockQ id (seqQ J Q)) st:=Bz (rf:=rf) (id:=i) hi (AOps.kZ h fun _ h=>h)
theorem ZN{r:Option Row}{i:Nat}(h:m i=r):∀ j,up (fun _=>none) i r j=m j\/up (fun _=>none) i r j=none:=fun j=>by
 by_cases hj:j=i
 .subst hj;left;rw[up_same,h]
 .right;rw[up_ne _ _ hj]
theorem np[dR Y]{i gR:Nat}{next:St->Prop}(hi:drawInfo ops=some cf)(h:AOps P Y ops true cf (fS next) ops.toList st []):AW P Y rf (.region i ops true) (mE gR id next Q) st:=Bz (rf:=rf) (id:=i) hi (AOps.kZ h fun _ h=>h)
theorem eO[dR Y]{i gR:Nat}{next:St->Prop}(h:AOps P Y ops false [] (fS next) ops.toList st []):AW P Y rf (.region i ops false) (mE gR id next Q) st:=rS (rf:=rf) (id:=i) (AOps.kZ h fun _ h=>h)
def aX:List (Nat×Row)->Mem
 |[],_=>none
 |(i,r)::l,j=>if j=i then some r else aX l j
def BA:List (Nat×Row)->Mem->Prop
 |[],_=>True
 |(i,r)::l,m=>m i=some r/\BA l m
theorem HP:∀ {l:List (Nat×Row)} {m:Mem},BA l m->∀ i,aX l i=m i\/aX l i=none
 |[],_,_,_=>.inr rfl
 |(k,r)::l,m,h,i=>by
  simp only[aX]
  by_cases hi:i=k
  .subst hi;rw[if_pos rfl];exact .inl h.1.symm
  .rw[if_neg hi];exact HP h.2 i
theorem aE{l:List (Nat×D)}{ml:List (Nat×Row)}{m:Mem}{nx:Nat}(h:mz l env)(hm:BA ml m):Ghost P ⟨env,m,nx⟩ ⟨ax l,aX ml,nx⟩:=(Ghost.forget env _ m nx (n7 h)).trans (.drop _ _ _ _ (HP hm))
end
section
variable{P:Program}
theorem OCall.ac'{f:FuncId}{args es:List D}{n:Nat}{t:TypeId}(h:OCall P f args es n t)(lh:∀ d∈es,d.scal=true)(ht:Tr (.sl (es.take (n*P.cellsOf t)) n)):PCall P f args (.sl (es.take (n*P.cellsOf t)) n):=by
 refine⟨h.1,h.2.1,fun F w vs hF hR=>(h.2.2 F w vs hF hR).mono ?_⟩
 rintro e w' ⟨v,p,h1,h2,h3,h4,h5,h6⟩
 refine⟨v,h1,?_,h6⟩
 have b0:∀ {i q},up noRows 0 (some p) i=some q->i=0/\q=p:=fun {i q} hi=>by
  by_cases e:i=0
  .subst e;rw[up_same] at hi;cases hi;exact⟨rfl,rfl⟩
  .rw[up_ne _ _ e] at hi;cases hi
 have hm:MSim P F (up (fun _=>none) 0 (some (.cells es t))) (up noRows 0 (some p)) w':=by
  refine⟨fun i r hi=>?_,fun i j q q' b hq gE _ _=>(b0 hq).1.trans (b0 gE).1.symm,fun i q b hq e=>?_,fun i q b hq e=>?_,fun b hb=>Nat.lt_of_lt_of_le (hF b hb) h6.1⟩
  .by_cases e:i=0
   .subst e
    rw[up_same] at hi
    cases hi
    exact⟨p,up_same _ _ _,DX ⟨es,t,rfl,lh⟩ h4⟩
   .rw[up_ne _ _ e] at hi;cases hi
  .rw[(b0 hq).2] at e;exact(h3 b e).2
  .rw[(b0 hq).2] at e
   intro hb
   have:=hF b hb
   have:=(h3 b e).1
   omega
 have:=Nh hm (up_same _ _ _) rfl h5
 have e:fz0 0 es (P.cellsOf t) (.rs 0 0 n)=.sl (es.take (n*P.cellsOf t)) n:=by simp[fz0]
 rw[e] at this
 exact ht.BO this
end
theorem au{α:Type}{f:Nat->α}{k j:Nat}{v r:α}(h:j≠k)(hf:f j=r):up f k v j=r:=(up_ne f v h).trans hf
theorem mG{i off sz:Nat}{cs:List D}:sub (fz0 i cs sz) (.rp i off)=.pt (cs.drop off):=by simp[sub,sub1,fz0]
theorem zl{i off n sz:Nat}{cs:List D}:sub (fz0 i cs sz) (.rs i off n)=.sl ((cs.drop off).take (n*sz)) n:=by simp[sub,sub1,fz0]
theorem D2{i j off sz:Nat}{cs:List D}(h:j≠i):sub (fz0 i cs sz) (.rp j off)=.rp j off:=by simp[sub,sub1,fz0,h]
theorem yR{i j off n sz:Nat}{cs:List D}(h:j≠i):sub (fz0 i cs sz) (.rs j off n)=.rs j off n:=by simp[sub,sub1,fz0,h]
theorem M4{α:Type}{f:α->List D}{sz:Nat}(hs:∀ x,(f x).length=sz):∀ (l:List α) (k:Nat),(l.flatMap f).take (k*sz)=(l.take k).flatMap f
 |[],k=>by simp
 |x::l,0=>by simp
 |x::l,k+1=>by
  rw[List.flatMap_cons,List.take_succ_cons,List.flatMap_cons, <- M4 hs l k,show(k+1)*sz=(f x).length+k*sz by rw[hs x,Nat.add_mul];omega,List.take_length_add_append]
theorem abd{α:Type}{f:α->List D}{sz k:Nat}{l:List α}(hs:∀ x,(f x).length=sz)(hk:k<=l.length):
 D.sl (((l.flatMap f).drop ((0:Int).toNat*sz)).take (((k:Int) - 0).toNat*sz)) ((k:Int) - 0).toNat=D.sl ((l.take k).flatMap f) (l.take k).length:=by
 have h1:((k:Int) - 0).toNat=k:=by omega
 have h2:(0:Int).toNat*sz=0:=by simp
 rw[h1,h2,List.drop_zero,M4 hs,List.length_take,Nat.min_eq_left hk]
section
variable{P:Program}{env:Env}{m:Mem}{nx:Nat}{x y z:Operand}{t:TypeId}{v:D}
theorem aau{i:Nat}{es:List (Value×D)}{key:Value}{kt:TypeId}(hx:(opd env x).core=.mp i)(hm:m i=some (.map es))(hk:keyV (opd env y).core=some key)(hz:(opd env z).core=v)(ht:mkeyP P t=kt):
 Ef P (.insert t x y z) env m nx ⟨mapT P t=true/\keyP P kt key=true/\es.all (fun e=>keyP P kt e.1)=true,.tup [],[(i,some (.map (putD key v es)))],[i],0⟩:=by
 refine⟨?_,rfl,rfl⟩
 show mapPutD P m t (opd env x).core (opd env y).core (opd env z).core=_
 simp only[mapPutD,hk,hx,hm,ht,hz]
variable{n n':Int}{k:IntKind}{c:Bool}{p:TypeId}{n0:Nat}
theorem QK(hx:(opd env x).core=.s (.int k n))(hy:(opd env y).core=.s (.int k n'))(hd:decide (n'<n)=c):Ef P (.binOp .gtr t x y p) env m nx ⟨k=k,.s (.bool c),[],[],0⟩:=by subst hd;exact IB hx hy
theorem QL(hx:(opd env x).core=.s (.int k n))(hy:(opd env y).core=.s (.int k n'))(hd:decide (n<n')=c):Ef P (.binOp .lss t x y p) env m nx ⟨k=k,.s (.bool c),[],[],0⟩:=by subst hd;exact Iz hx hy
theorem acp(hx:(opd env x).core=.s (.int k n))(hy:(opd env y).core=.s (.int k n'))(hd:decide (n<=n')=c):Ef P (.binOp .leq t x y p) env m nx ⟨k=k,.s (.bool c),[],[],0⟩:=by subst hd;exact IA hx hy
theorem Ik(hx:(opd env x).core=.s (.int k n))(hy:(opd env y).core=.s (.int k n'))(hd:(n==n')=c):Ef P (.binOp .eql t x y p) env m nx ⟨k=k,.s (.bool c),[],[],0⟩:=by subst hd;exact ID hx hy
theorem QM(hx:(opd env x).core=.s (.int k n))(hy:(opd env y).core=.s (.int k n'))(hd:(n !=n')=c):Ef P (.binOp .neq t x y p) env m nx ⟨k=k,.s (.bool c),[],[],0⟩:=by subst hd;exact IE hx hy
theorem acq(hx:(opd env x).core=.s (.int k n))(hy:(opd env y).core=.s (.int k n')){r:Int}(hd:k.wrap (n.tdiv n')=r):Ef P (.binOp .quo t x y p) env m nx ⟨k=k/\n'≠0,.s (.int k r),[],[],0⟩:=by subst hd;exact abQ hx hy
theorem acr(hx:(opd env x).core=.s (.int k n))(hy:(opd env y).core=.s (.int k n')){r:Int}(hd:n.tmod n'=r):Ef P (.binOp .rem t x y p) env m nx ⟨k=k/\n'≠0,.s (.int k r),[],[],0⟩:=by subst hd;exact acX hx hy
theorem acs(hx:(opd env x).core=.s (.int k n))(hy:(opd env y).core=.s (.int k n'))(hd:decide (n'<=n)=c):Ef P (.binOp .geq t x y p) env m nx ⟨k=k,.s (.bool c),[],[],0⟩:=by subst hd;exact IC hx hy
theorem abu{j i l:Nat}{e:TypeId}{r:Row}(hx:(opd env x).core=.rp j 0)(hy:(opd env y).core=.s (.int k (i:Int)))(hm:m j=some r)(he:elemP P t=e)(hs:P.cellsOf e=1)(hl:lenP P t=l):
 Ef P (.indexAddr t x y) env m nx ⟨arT P t=true/\i<l,.rp j i,[],[j],0⟩:=by
 have h:=abR (P:=P) (env:=env) (m:=m) (nx:=nx) (t:=t) hx hy hm he hs hl
 have h1:0+((i:Int)).toNat*1=i:=by simp
 have h2:(arT P t=true/\(0:Int)<=(i:Int)/\(i:Int)<l)=(arT P t=true/\i<l):=by
  apply propext;constructor
  .rintro⟨a,_,b⟩;exact⟨a,by omega⟩
  .rintro⟨a,b⟩;exact⟨a,by omega,by omega⟩
 rw[h1,h2] at h
 exact h
theorem lO{l:List D}{n:Nat}(h:l.length=n):(l.drop 0).take n=l:=by rw[List.drop_zero,List.take_of_length_le oG]
theorem Qy{l:List D}{n:Nat}(h:l.length=n):l.take n=l:=List.take_of_length_le oG
theorem H0{z l:List D}(hz:z.length=20)(hl:l.length=20):splice z 0 l=l:=by
 unfold splice
 split
 .simp at hl
 .rw[List.take_zero,List.nil_append,List.drop_eq_nil_of_le oG,List.append_nil]
theorem acn{es:List D}(hx:(opd env x).core=.sl es 0):Ef P (.binOp .eql t x (.const (.slice none 0 0)) p) env m nx ⟨slT P t=true,.ub,[],[],0⟩:=⟨by simp only[aop,rho,hx,nilD,if_true],rfl,rfl⟩
theorem aco{es:List D}{l:Nat}(hx:(opd env x).core=.sl es l)(hl:l≠0):Ef P (.binOp .eql t x (.const (.slice none 0 0)) p) env m nx ⟨slT P t=true,.s (.bool false),[],[],0⟩:=⟨by simp only[aop,rho,hx,nilD,if_neg hl],rfl,rfl⟩
theorem jP{i off n sz:Nat}{cs es:List D}{e:TypeId}(hs:P.cellsOf e=sz)(h:(cs.drop off).take (n*sz)=es):rk P [(i,cs,e)] (.rs i off n)=.sl es n:=by subst hs h;exact zl
theorem wS(h:env n0=.z):Ghost P ⟨env,m,nx⟩ ⟨ax [(n0,.sl [] 0)],fun _=>none,nx+1⟩:=by
 have h1:=Ghost.nilrow (P:=P) env m nx n0 0 h
 have h2:=bg (P:=P) (env:=up env n0 (.rs nx 0 0)) (m:=up m nx (some (.cells [] 0))) (nx:=nx+1) [(nx,[],0)] ⟨up_same _ _ _,trivial⟩ (l:=[(n0,.sl [] 0)]) ⟨(congrArg _ (up_same _ _ _)).trans (jP (sz:=P.cellsOf 0) rfl (by simp)),trivial⟩
 exact h1.trans h2
theorem lW{rds:List Nat}:Sn P rds m .z (.sl [] 0):=fun F β w v _ hv=>by
 obtain⟨x,rfl⟩:=hv.z_inv
 exact .sln x 0
theorem ach{rds:List Nat}{aS bs:List D}(h:Sns P rds m aS bs):Sn P rds m (.agg aS) (.agg bs):=fun F β w v hl hv=>by
 obtain⟨vs,rfl,hn,hh⟩:=hv.agg_inv
 obtain⟨h1,h2⟩:=sns_R hl h
 refine .agg _ vs oG fun k d u hd hu=>?_
 have hk:k<aS.length:=by rw[h1];exact(List.getElem?_eq_some_iff.1 hd).1
 exact h2 k aS[k] d (by simp[hk]) hd u (hh k aS[k] u (by simp[hk]) hu)
theorem NC{l:List (Nat×D)}{m':Mem}(h:mz l env)(hm:∀ i,m' i=m i\/m' i=none):Ghost P ⟨env,m,nx⟩ ⟨ax l,m',nx⟩:=(Ghost.forget env _ m nx (n7 h)).trans (.drop _ _ _ _ hm)
def Kx:List (Nat×List (Value×D))->Mem->Prop
 |[],_=>True
 |(i,es)::fs,m=>m i=some (.map es)/\Kx fs (fun j=>if j=i then none else(m j).map (Row.sub (fm0 i es)))
def LS:List (Nat×List (Value×D))->D->D
 |[],d=>d
 |(i,es)::fs,d=>LS fs (sub (fm0 i es) d)
theorem M5:∀ {fs:List (Nat×List (Value×D))} {env:Env} {m:Mem} {nx:Nat},Kx fs m->∃ m',Ghost P ⟨env,m,nx⟩ ⟨fun t=>LS fs (env t),m',nx⟩
 |[],env,m,nx,_=>⟨m,.refl _⟩
 |(i,es)::fs,env,m,nx,⟨h1,h2⟩=>by
  obtain⟨m',h⟩:=M5 (env:=fun t=>sub (fm0 i es) (env t)) (nx:=nx) h2
  exact⟨m',(Ghost.freezeM env m nx i es h1).trans h⟩
theorem aad(fs:List (Nat×List (Value×D)))(hf:Kx fs m){l:List (Nat×D)}(hl:mz l fun t=>LS fs (env t)):Ghost P ⟨env,m,nx⟩ ⟨ax l,fun _=>none,nx⟩:=by
 obtain⟨m',h⟩:=M5 (P:=P) (env:=env) (nx:=nx) hf
 exact h.trans ((Ghost.forget _ _ _ _ (n7 hl)).trans (Ghost.drop _ _ _ _ fun _=>.inr rfl))
end
end Go.Abs
namespace Go.Proofs.Tryz.K
open Go.Abs
theorem c1:prog.cellsOf 1=1:=kr
theorem a1:aggP prog 1=false:=kr
theorem t1:tyOk prog 1=true:=kr
theorem b1:prog.bytesOf 1=8:=kr
theorem c2:prog.cellsOf 2=1:=kr
theorem b2:prog.bytesOf 2=8:=kr
theorem a2:aggP prog 2=false:=kr
theorem t2:tyOk prog 2=true:=kr
theorem c3:prog.cellsOf 3=1:=kr
theorem b3:prog.bytesOf 3=8:=kr
theorem a3:aggP prog 3=false:=kr
theorem t3:tyOk prog 3=true:=kr
theorem z3:zeroP prog 3=[.s (.int .i64 0)]:=kr
theorem c4:prog.cellsOf 4=1:=kr
theorem b4:prog.bytesOf 4=1:=kr
theorem a4:aggP prog 4=false:=kr
theorem t4:tyOk prog 4=true:=kr
theorem z4:zeroP prog 4=[.s (.bool false)]:=kr
theorem bo4:boT prog 4=true:=kr
theorem c5:prog.cellsOf 5=1:=kr
theorem b5:prog.bytesOf 5=1:=kr
theorem a5:aggP prog 5=false:=kr
theorem t5:tyOk prog 5=true:=kr
theorem z5:zeroP prog 5=[.s (.int .u8 0)]:=kr
theorem b6:prog.bytesOf 6=1:=kr
theorem a6:aggP prog 6=false:=kr
theorem c9:prog.cellsOf 9=1:=kr
theorem a9:aggP prog 9=false:=kr
theorem t9:tyOk prog 9=true:=kr
theorem st9:stT prog 9=true:=kr
theorem Dg:elemP prog 15=275:=kr
theorem Dh:elemP prog 16=278:=kr
theorem Df:elemP prog 17=287:=kr
theorem c22:prog.cellsOf 22=1:=kr
theorem a22:aggP prog 22=false:=kr
theorem t22:tyOk prog 22=true:=kr
theorem Wb:elemP prog 22=5:=kr
theorem UG:slT prog 22=true:=kr
theorem c23:prog.cellsOf 23=1:=kr
theorem a23:aggP prog 23=false:=kr
theorem t23:tyOk prog 23=true:=kr
theorem e23:elemP prog 23=9:=kr
theorem al8:slT prog 23=true:=kr
theorem c24:prog.cellsOf 24=1:=kr
theorem a24:aggP prog 24=false:=kr
theorem t24:tyOk prog 24=true:=kr
theorem e24:elemP prog 24=72:=kr
theorem al9:slT prog 24=true:=kr
theorem c26:prog.cellsOf 26=8:=kr
theorem a26:aggP prog 26=true:=kr
theorem t26:tyOk prog 26=true:=kr
theorem z26:zeroP prog 26=[.s (.string "".toUTF8),.s (.bool false),.s (.int .i64 0),.s (.int .u8 0),.z,.z,.z,.z]:=kr
theorem ahT:fieldP prog 26 0=some (0,9):=kr
theorem ahU:fieldP prog 26 1=some (1,4):=kr
theorem ahV:fieldP prog 26 2=some (2,3):=kr
theorem ahW:fieldP prog 26 3=some (3,5):=kr
theorem ahX:fieldP prog 26 4=some (4,22):=kr
theorem ahY:fieldP prog 26 5=some (5,22):=kr
theorem ahZ:fieldP prog 26 6=some (6,23):=kr
theorem ah0:fieldP prog 26 7=some (7,24):=kr
theorem Ao:prog.cellsOf 27=1:=kr
theorem WY:prog.bytesOf 27=24:=kr
theorem a27:aggP prog 27=false:=kr
theorem t27:tyOk prog 27=true:=kr
theorem z27:zeroP prog 27=[.z]:=kr
theorem De:elemP prog 27=3:=kr
theorem Cj:slT prog 27=true:=kr
theorem c28:prog.cellsOf 28=1:=kr
theorem a28:aggP prog 28=false:=kr
theorem t28:tyOk prog 28=true:=kr
theorem e28:elemP prog 28=27:=kr
theorem al':slT prog 28=true:=kr
theorem WV:prog.cellsOf 52=1:=kr
theorem WU:prog.bytesOf 52=24:=kr
theorem a52:aggP prog 52=false:=kr
theorem t52:tyOk prog 52=true:=kr
theorem z52:zeroP prog 52=[.z]:=kr
theorem e52:elemP prog 52=4:=kr
theorem ama:slT prog 52=true:=kr
theorem c66:prog.cellsOf 66=6:=kr
theorem a66:aggP prog 66=true:=kr
theorem t66:tyOk prog 66=true:=kr
theorem z66:zeroP prog 66=[.s (.int .u8 0),.s (.int .i64 0),.s (.int .i64 0),.s (.int .i64 0),.s (.int .i64 0),.z]:=kr
theorem ah1:fieldP prog 66 0=some (0,5):=kr
theorem ah2:fieldP prog 66 1=some (1,3):=kr
theorem ah3:fieldP prog 66 2=some (2,3):=kr
theorem ah4:fieldP prog 66 3=some (3,3):=kr
theorem ah5:fieldP prog 66 4=some (4,3):=kr
theorem ah6:fieldP prog 66 5=some (5,27):=kr
theorem c67:prog.cellsOf 67=1:=kr
theorem a67:aggP prog 67=false:=kr
theorem t67:tyOk prog 67=true:=kr
theorem e67:elemP prog 67=199:=kr
theorem amb:slT prog 67=true:=kr
theorem c69:prog.cellsOf 69=15:=kr
theorem a69:aggP prog 69=true:=kr
theorem t69:tyOk prog 69=true:=kr
theorem z69:zeroP prog 69=[.s (.int .u8 0),.s (.int .i64 0),.s (.int .i64 0),.s (.int .i64 0),.s (.int .i64 0),.s (.string "".toUTF8),.s (.int .u8 0),.s (.int .i64 0),.s (.int .i64 0),.s (.int .i64 0),.s (.int .i64 0),.z,.z,.z,.s (.int .i64 0)]:=kr
theorem ah7:fieldP prog 69 0=some (0,5):=kr
theorem ah8:fieldP prog 69 1=some (1,3):=kr
theorem ah9:fieldP prog 69 2=some (2,3):=kr
theorem ah':fieldP prog 69 3=some (3,3):=kr
theorem aia:fieldP prog 69 4=some (4,3):=kr
theorem aib:fieldP prog 69 5=some (5,9):=kr
theorem aic:fieldP prog 69 6=some (6,66):=kr
theorem aid:fieldP prog 69 7=some (12,27):=kr
theorem aie:fieldP prog 69 8=some (13,67):=kr
theorem aif:fieldP prog 69 9=some (14,3):=kr
theorem c70:prog.cellsOf 70=1:=kr
theorem a70:aggP prog 70=false:=kr
theorem t70:tyOk prog 70=true:=kr
theorem e70:elemP prog 70=66:=kr
theorem amc:slT prog 70=true:=kr
theorem c72:prog.cellsOf 72=16:=kr
theorem a72:aggP prog 72=true:=kr
theorem t72:tyOk prog 72=true:=kr
theorem z72:zeroP prog 72=[.z,.s (.int .u8 0),.s (.int .i64 0),.s (.int .i64 0),.s (.int .i64 0),.s (.int .i64 0),.s (.string "".toUTF8),.s (.int .u8 0),.s (.int .i64 0),.s (.int .i64 0),.s (.int .i64 0),.s (.int .i64 0),.z,.z,.z,.s (.int .i64 0)]:=kr
theorem aih:fieldP prog 72 0=some (0,70):=kr
theorem aii:fieldP prog 72 1=some (1,69):=kr
theorem c79:prog.cellsOf 79=1:=kr
theorem a79:aggP prog 79=false:=kr
theorem t79:tyOk prog 79=true:=kr
theorem t89:tyOk prog 89=true:=kr
theorem z89:zeroP prog 89=[.s (.string "".toUTF8),.s (.bool false),.s (.int .i64 0),.s (.int .u8 0),.z,.z,.z,.z,.z,.z,.z]:=kr
theorem aij:fieldP prog 89 0=some (0,26):=kr
theorem aik:fieldP prog 89 1=some (8,28):=kr
theorem ail:fieldP prog 89 2=some (9,28):=kr
theorem aim:fieldP prog 89 3=some (10,52):=kr
theorem c98:prog.cellsOf 98=1:=kr
theorem a98:aggP prog 98=false:=kr
theorem t98:tyOk prog 98=true:=kr
theorem amd:elemP prog 102=52:=kr
theorem ain:slT prog 102=true:=kr
theorem ame:prog.cellsOf 128=1:=kr
theorem amf:aggP prog 128=false:=kr
theorem t128:tyOk prog 128=true:=kr
theorem amg:zeroP prog 128=[.s .nilFunc]:=kr
theorem amh:prog.cellsOf 131=1:=kr
theorem ami:aggP prog 131=false:=kr
theorem t131:tyOk prog 131=true:=kr
theorem Vd:prog.cellsOf 133=10:=kr
theorem Vc:aggP prog 133=true:=kr
theorem t133:tyOk prog 133=true:=kr
theorem amj:zeroP prog 133=[.s (.string "".toUTF8),.s (.bool false),.s (.int .i64 0),.s (.int .u8 0),.z,.z,.z,.z,.s (.map none),.s (.map none)]:=kr
theorem acv:fieldP prog 133 0=some (0,26):=kr
theorem acw:fieldP prog 133 1=some (8,131):=kr
theorem acx:fieldP prog 133 2=some (9,131):=kr
theorem amk:elemP prog 155=158:=kr
theorem aio:slT prog 155=true:=kr
theorem ld:prog.cellsOf 158=2:=kr
theorem Vj:prog.bytesOf 158=32:=kr
theorem q7:aggP prog 158=true:=kr
theorem t158:tyOk prog 158=true:=kr
theorem aml:zeroP prog 158=[.s (.bool false),.z]:=kr
theorem acy:fieldP prog 158 0=some (0,4):=kr
theorem acz:fieldP prog 158 1=some (1,52):=kr
theorem amm:prog.cellsOf 199=2:=kr
theorem amn:aggP prog 199=true:=kr
theorem t199:tyOk prog 199=true:=kr
theorem amo:zeroP prog 199=[.s (.string "".toUTF8),.s (.int .i64 0)]:=kr
theorem acA:fieldP prog 199 0=some (0,9):=kr
theorem acB:fieldP prog 199 1=some (1,3):=kr
theorem amp:prog.cellsOf 205=6:=kr
theorem Ko:aggP prog 205=true:=kr
theorem t205:tyOk prog 205=true:=kr
theorem Kp:zeroP prog 205=[.s (.int .i64 0),.s (.int .i64 0),.s (.int .i64 0),.s (.int .i64 0),.s (.int .i64 0),.s (.int .i64 0)]:=kr
theorem acC:fieldP prog 205 0=some (0,3):=kr
theorem acD:fieldP prog 205 1=some (1,3):=kr
theorem acE:fieldP prog 205 2=some (2,3):=kr
theorem acF:fieldP prog 205 3=some (3,3):=kr
theorem acG:fieldP prog 205 4=some (4,3):=kr
theorem acH:fieldP prog 205 5=some (5,3):=kr
theorem amq:prog.cellsOf 208=9:=kr
theorem amr:aggP prog 208=true:=kr
theorem t208:tyOk prog 208=true:=kr
theorem ams:zeroP prog 208=[.s (.string "".toUTF8),.s (.bool false),.s (.int .i64 0),.s (.int .u8 0),.z,.z,.z,.z,.z]:=kr
theorem acI:fieldP prog 208 0=some (0,26):=kr
theorem acJ:fieldP prog 208 1=some (8,28):=kr
theorem amt:elemP prog 227=231:=kr
theorem aip:slT prog 227=true:=kr
theorem qV:prog.cellsOf 231=20:=kr
theorem Uy:prog.bytesOf 231=160:=kr
theorem tP:aggP prog 231=true:=kr
theorem t231:tyOk prog 231=true:=kr
theorem Ux:zeroP prog 231=[.s (.int .u64 0),.s (.int .u64 0),.s (.int .u64 0),.s (.int .u64 0),.s (.int .u64 0),.s (.int .u64 0),.s (.int .u64 0),.s (.int .u64 0),.s (.int .u64 0),.s (.int .u64 0),.s (.int .u64 0),.s (.int .u64 0),.s (.int .u64 0),.s (.int .u64 0),.s (.int .u64 0),.s (.int .u64 0),.s (.int .u64 0),.s (.int .u64 0),.s (.int .u64 0),.s (.int .u64 0)]:=kr
theorem amu:elemP prog 231=98:=kr
theorem aiq:arT prog 231=true:=kr
theorem amv:lenP prog 231=20:=kr
theorem mixed:prog.follows .mixedOrders=true:=kr
noncomputable def bo(f:Func):Code:=(f.body).getD .skip
abbrev FO(n:FuncId)(f:Func)(c:Code):=pO prog n f c
theorem fo{n:FuncId}{f:Func}{c:Code}(h1:prog.funcs[n]? =some f:=by kernel_rfl)(h2:f.body=some c:=by kernel_rfl)(h3:jN f.ntmps c=true:=by kernel_rfl)(h4:enterOk prog n=true:=by kernel_rfl):FO n f c:=⟨h1,h2,h3,h4⟩
noncomputable def TU:=bo Tryz.f3
theorem ok3:FO 3 Tryz.f3 TU:=fo
noncomputable def TV:=bo Tryz.f4
theorem ok4:FO 4 Tryz.f4 TV:=fo
noncomputable def TW:=bo Tryz.f5
theorem ok5:FO 5 Tryz.f5 TW:=fo
noncomputable def TX:=bo Tryz.f6
theorem ok6:FO 6 Tryz.f6 TX:=fo
noncomputable def TY:=bo Tryz.f7
theorem ok7:FO 7 Tryz.f7 TY:=fo
noncomputable def TZ:=bo Tryz.f8
theorem ok8:FO 8 Tryz.f8 TZ:=fo
noncomputable def qR:=bo Tryz.f9
theorem WX:FO 9 Tryz.f9 qR:=fo
theorem rs9: Tryz.f9.results.toList=[.tmp 6]:=kr
theorem nt9: Tryz.f9.ntmps=64:=kr
noncomputable def QN:=bo Tryz.f10
theorem amF:FO 10 Tryz.f10 QN:=fo
noncomputable def QO:=bo Tryz.f11
theorem amG:FO 11 Tryz.f11 QO:=fo
noncomputable def QP:=bo Tryz.f12
theorem amH:FO 12 Tryz.f12 QP:=fo
noncomputable def QQ:=bo Tryz.f13
theorem amI:FO 13 Tryz.f13 QQ:=fo
noncomputable def QR:=bo Tryz.f14
theorem amJ:FO 14 Tryz.f14 QR:=fo
noncomputable def ik:=bo Tryz.f15
theorem UR:FO 15 Tryz.f15 ik:=fo
theorem akZ: Tryz.f15.results.toList=[.tmp 2]:=kr
theorem akY: Tryz.f15.ntmps=133:=kr
noncomputable def QS:=bo Tryz.f16
theorem amK:FO 16 Tryz.f16 QS:=fo
noncomputable def QT:=bo Tryz.f17
theorem amL:FO 17 Tryz.f17 QT:=fo
noncomputable def QU:=bo Tryz.f18
theorem amM:FO 18 Tryz.f18 QU:=fo
noncomputable def QV:=bo Tryz.f19
theorem amN:FO 19 Tryz.f19 QV:=fo
noncomputable def QW:=bo Tryz.f20
theorem amO:FO 20 Tryz.f20 QW:=fo
noncomputable def vf:=bo Tryz.f21
theorem Vz:FO 21 Tryz.f21 vf:=fo
theorem al0: Tryz.f21.results.toList=[.tmp 2,.tmp 3]:=kr
theorem alZ: Tryz.f21.ntmps=12:=kr
noncomputable def BI:=bo Tryz.f22
theorem Vs:FO 22 Tryz.f22 BI:=fo
theorem alK: Tryz.f22.results.toList=[.tmp 4]:=kr
theorem alJ: Tryz.f22.ntmps=8:=kr
noncomputable def QY:=bo Tryz.f23
theorem amP:FO 23 Tryz.f23 QY:=fo
noncomputable def QZ:=bo Tryz.f24
theorem amQ:FO 24 Tryz.f24 QZ:=fo
noncomputable def Q1:=bo Tryz.f25
theorem amR:FO 25 Tryz.f25 Q1:=fo
noncomputable def Q2:=bo Tryz.f26
theorem amS:FO 26 Tryz.f26 Q2:=fo
noncomputable def Q3:=bo Tryz.f27
theorem amT:FO 27 Tryz.f27 Q3:=fo
noncomputable def Q4:=bo Tryz.f28
theorem amU:FO 28 Tryz.f28 Q4:=fo
noncomputable def Q5:=bo Tryz.f29
theorem amV:FO 29 Tryz.f29 Q5:=fo
noncomputable def Q6:=bo Tryz.f30
theorem amW:FO 30 Tryz.f30 Q6:=fo
noncomputable def Q7:=bo Tryz.f31
theorem amX:FO 31 Tryz.f31 Q7:=fo
noncomputable def Q8:=bo Tryz.f32
theorem amY:FO 32 Tryz.f32 Q8:=fo
noncomputable def Q9:=bo Tryz.f33
theorem amZ:FO 33 Tryz.f33 Q9:=fo
noncomputable def Rc:=bo Tryz.f34
theorem am0:FO 34 Tryz.f34 Rc:=fo
noncomputable def Re:=bo Tryz.f35
theorem am1:FO 35 Tryz.f35 Re:=fo
noncomputable def vg:=bo Tryz.f36
theorem VA:FO 36 Tryz.f36 vg:=fo
theorem al3: Tryz.f36.results.toList=[.tmp 2,.tmp 3]:=kr
theorem al2: Tryz.f36.ntmps=16:=kr
noncomputable def si:=bo Tryz.f37
theorem Kk:FO 37 Tryz.f37 si:=fo
theorem U': Tryz.f37.results.toList=[.tmp 6,.tmp 7]:=kr
theorem U9: Tryz.f37.ntmps=51:=kr
noncomputable def vh:=bo Tryz.f38
theorem Vu:FO 38 Tryz.f38 vh:=fo
theorem alR: Tryz.f38.results.toList=[.tmp 6,.tmp 7]:=kr
theorem alQ: Tryz.f38.ntmps=38:=kr
noncomputable def cY:=bo Tryz.f39
theorem UZ:FO 39 Tryz.f39 cY:=fo
theorem ak5: Tryz.f39.results.toList=[.tmp 2,.tmp 3]:=kr
theorem ak4: Tryz.f39.ntmps=100:=kr
noncomputable def Rf:=bo Tryz.f40
theorem am2:FO 40 Tryz.f40 Rf:=fo
noncomputable def Rg:=bo Tryz.f41
theorem am3:FO 41 Tryz.f41 Rg:=fo
noncomputable def Rh:=bo Tryz.f42
theorem am4:FO 42 Tryz.f42 Rh:=fo
noncomputable def Ri:=bo Tryz.f43
theorem am5:FO 43 Tryz.f43 Ri:=fo
noncomputable def Rj:=bo Tryz.f44
theorem am6:FO 44 Tryz.f44 Rj:=fo
noncomputable def Rk:=bo Tryz.f45
theorem am7:FO 45 Tryz.f45 Rk:=fo
noncomputable def Rm:=bo Tryz.f46
theorem am8:FO 46 Tryz.f46 Rm:=fo
noncomputable def Rn:=bo Tryz.f47
theorem am9:FO 47 Tryz.f47 Rn:=fo
noncomputable def Rp:=bo Tryz.f48
theorem am':FO 48 Tryz.f48 Rp:=fo
noncomputable def Rq:=bo Tryz.f49
theorem ana:FO 49 Tryz.f49 Rq:=fo
noncomputable def Rr:=bo Tryz.f50
theorem anb:FO 50 Tryz.f50 Rr:=fo
noncomputable def gv:=bo Tryz.f51
theorem Ka:FO 51 Tryz.f51 gv:=fo
theorem UP: Tryz.f51.results.toList=[.tmp 2,.tmp 3]:=kr
theorem UO: Tryz.f51.ntmps=84:=kr
noncomputable def Rt:=bo Tryz.f52
theorem anc:FO 52 Tryz.f52 Rt:=fo
noncomputable def Ru:=bo Tryz.f53
theorem ane:FO 53 Tryz.f53 Ru:=fo
noncomputable def Rv:=bo Tryz.f54
theorem anf:FO 54 Tryz.f54 Rv:=fo
noncomputable def dK:=bo Tryz.f55
theorem Vn:FO 55 Tryz.f55 dK:=fo
theorem alv: Tryz.f55.results.toList=[.tmp 2]:=kr
theorem alu: Tryz.f55.ntmps=147:=kr
noncomputable def mB:=bo Tryz.f56
theorem Vh:FO 56 Tryz.f56 mB:=fo
theorem alp: Tryz.f56.results.toList=[.tmp 2]:=kr
theorem alo: Tryz.f56.ntmps=44:=kr
noncomputable def Rw:=bo Tryz.f57
theorem ang:FO 57 Tryz.f57 Rw:=fo
noncomputable def Rx:=bo Tryz.f58
theorem anh:FO 58 Tryz.f58 Rx:=fo
noncomputable def Ry:=bo Tryz.f59
theorem ani:FO 59 Tryz.f59 Ry:=fo
noncomputable def ei:=bo Tryz.f60
theorem U1:FO 60 Tryz.f60 ei:=fo
theorem ala: Tryz.f60.results.toList=[.tmp 2]:=kr
theorem ak': Tryz.f60.ntmps=107:=kr
noncomputable def vj:=bo Tryz.f61
theorem UT:FO 61 Tryz.f61 vj:=fo
theorem ak2: Tryz.f61.results.toList=[]:=kr
theorem ak1: Tryz.f61.ntmps=24:=kr
noncomputable def Rz:=bo Tryz.f62
theorem anj:FO 62 Tryz.f62 Rz:=fo
noncomputable def kO:=bo Tryz.f63
theorem Vy:FO 63 Tryz.f63 kO:=fo
theorem alX: Tryz.f63.results.toList=[.tmp 2]:=kr
theorem alW: Tryz.f63.ntmps=55:=kr
noncomputable def oi:=bo Tryz.f64
theorem Kv:FO 64 Tryz.f64 oi:=fo
theorem alH: Tryz.f64.results.toList=[.tmp 4]:=kr
theorem alG: Tryz.f64.ntmps=26:=kr
noncomputable def RA:=bo Tryz.f65
theorem ank:FO 65 Tryz.f65 RA:=fo
noncomputable def RB:=bo Tryz.f66
theorem anl:FO 66 Tryz.f66 RB:=fo
noncomputable def RC:=bo Tryz.f67
theorem anm:FO 67 Tryz.f67 RC:=fo
noncomputable def RD:=bo Tryz.f68
theorem ann:FO 68 Tryz.f68 RD:=fo
noncomputable def BJ:=bo Tryz.f69
theorem UK:FO 69 Tryz.f69 BJ:=fo
theorem akJ: Tryz.f69.results.toList=[.tmp 4]:=kr
theorem akI: Tryz.f69.ntmps=17:=kr
noncomputable def RE:=bo Tryz.f70
theorem ano:FO 70 Tryz.f70 RE:=fo
noncomputable def RF:=bo Tryz.f71
theorem anp:FO 71 Tryz.f71 RF:=fo
noncomputable def RG:=bo Tryz.f72
theorem anq:FO 72 Tryz.f72 RG:=fo
noncomputable def RH:=bo Tryz.f73
theorem anr:FO 73 Tryz.f73 RH:=fo
noncomputable def RI:=bo Tryz.f74
theorem ans:FO 74 Tryz.f74 RI:=fo
noncomputable def io:=bo Tryz.f75
theorem Vq:FO 75 Tryz.f75 io:=fo
theorem alD: Tryz.f75.results.toList=[.tmp 4]:=kr
theorem alC: Tryz.f75.ntmps=64:=kr
noncomputable def qG:=bo Tryz.f76
theorem Vg:FO 76 Tryz.f76 qG:=fo
theorem alm: Tryz.f76.results.toList=[.tmp 4]:=kr
theorem alk: Tryz.f76.ntmps=28:=kr
noncomputable def RJ:=bo Tryz.f77
theorem ant:FO 77 Tryz.f77 RJ:=fo
noncomputable def RK:=bo Tryz.f78
theorem anu:FO 78 Tryz.f78 RK:=fo
noncomputable def RL:=bo Tryz.f79
theorem anv:FO 79 Tryz.f79 RL:=fo
noncomputable def RM:=bo Tryz.f80
theorem anw:FO 80 Tryz.f80 RM:=fo
noncomputable def RN:=bo Tryz.f81
theorem anx:FO 81 Tryz.f81 RN:=fo
noncomputable def RO:=bo Tryz.f82
theorem anz:FO 82 Tryz.f82 RO:=fo
noncomputable def RP:=bo Tryz.f83
theorem anA:FO 83 Tryz.f83 RP:=fo
noncomputable def vm:=bo Tryz.f84
theorem UL:FO 84 Tryz.f84 vm:=fo
theorem akP: Tryz.f84.results.toList=[]:=kr
theorem akO: Tryz.f84.ntmps=28:=kr
noncomputable def qH:=bo Tryz.f85
theorem UN:FO 85 Tryz.f85 qH:=fo
theorem akS: Tryz.f85.results.toList=[.tmp 2]:=kr
theorem akR: Tryz.f85.ntmps=19:=kr
noncomputable def RQ:=bo Tryz.f86
theorem anB:FO 86 Tryz.f86 RQ:=fo
noncomputable def xB:=bo Tryz.f87
theorem U6:FO 87 Tryz.f87 xB:=fo
theorem ald: Tryz.f87.results.toList=[.tmp 6]:=kr
theorem alc: Tryz.f87.ntmps=21:=kr
noncomputable def nv:=bo Tryz.f88
theorem Vt:FO 88 Tryz.f88 nv:=fo
theorem alN: Tryz.f88.results.toList=[.tmp 4]:=kr
theorem alM: Tryz.f88.ntmps=33:=kr
noncomputable def BK:=bo Tryz.f89
theorem Uv:FO 89 Tryz.f89 BK:=fo
theorem aki: Tryz.f89.results.toList=[]:=kr
theorem akh: Tryz.f89.ntmps=11:=kr
noncomputable def iC:=bo Tryz.f90
theorem zA:FO 90 Tryz.f90 iC:=fo
theorem akl: Tryz.f90.results.toList=[.tmp 2]:=kr
theorem akk: Tryz.f90.ntmps=61:=kr
noncomputable def js:=bo Tryz.f91
theorem Vx:FO 91 Tryz.f91 js:=fo
theorem alU: Tryz.f91.results.toList=[.tmp 2]:=kr
theorem alT: Tryz.f91.ntmps=66:=kr
noncomputable def qI:=bo Tryz.f92
theorem Vf:FO 92 Tryz.f92 qI:=fo
theorem ali: Tryz.f92.results.toList=[.tmp 4]:=kr
theorem alh: Tryz.f92.ntmps=47:=kr
noncomputable def RS:=bo Tryz.f93
theorem anC:FO 93 Tryz.f93 RS:=fo
noncomputable def qJ:=bo Tryz.f94
theorem U0:FO 94 Tryz.f94 qJ:=fo
theorem ak8: Tryz.f94.results.toList=[.tmp 4]:=kr
theorem ak7: Tryz.f94.ntmps=20:=kr
noncomputable def tz:=bo Tryz.f95
theorem UH:FO 95 Tryz.f95 tz:=fo
theorem akF: Tryz.f95.results.toList=[.tmp 2]:=kr
theorem akE: Tryz.f95.ntmps=12:=kr
noncomputable def BL:=bo Tryz.f96
theorem UB:FO 96 Tryz.f96 BL:=fo
theorem akv: Tryz.f96.results.toList=[.tmp 6]:=kr
theorem aku: Tryz.f96.ntmps=15:=kr
noncomputable def mC:=bo Tryz.f97
theorem UA:FO 97 Tryz.f97 mC:=fo
theorem aks: Tryz.f97.results.toList=[.tmp 2]:=kr
theorem akr: Tryz.f97.ntmps=44:=kr
noncomputable def RT:=bo Tryz.f98
theorem anD:FO 98 Tryz.f98 RT:=fo
noncomputable def RU:=bo Tryz.f99
theorem anE:FO 99 Tryz.f99 RU:=fo
noncomputable def OB:=bo Tryz.f100
theorem aiB:FO 100 Tryz.f100 OB:=fo
noncomputable def OC:=bo Tryz.f101
theorem aiC:FO 101 Tryz.f101 OC:=fo
noncomputable def OD:=bo Tryz.f102
theorem aiD:FO 102 Tryz.f102 OD:=fo
noncomputable def OE:=bo Tryz.f103
theorem aiE:FO 103 Tryz.f103 OE:=fo
noncomputable def OF:=bo Tryz.f104
theorem aiF:FO 104 Tryz.f104 OF:=fo
noncomputable def uX:=bo Tryz.f105
theorem TR:FO 105 Tryz.f105 uX:=fo
theorem ahK: Tryz.f105.results.toList=[.tmp 2]:=kr
theorem ahJ: Tryz.f105.ntmps=8:=kr
noncomputable def OG:=bo Tryz.f106
theorem aiG:FO 106 Tryz.f106 OG:=fo
noncomputable def OH:=bo Tryz.f107
theorem aiH:FO 107 Tryz.f107 OH:=fo
noncomputable def OI:=bo Tryz.f108
theorem aiI:FO 108 Tryz.f108 OI:=fo
noncomputable def OJ:=bo Tryz.f109
theorem aiJ:FO 109 Tryz.f109 OJ:=fo
noncomputable def OK:=bo Tryz.f110
theorem aiK:FO 110 Tryz.f110 OK:=fo
noncomputable def OL:=bo Tryz.f111
theorem aiL:FO 111 Tryz.f111 OL:=fo
noncomputable def OM:=bo Tryz.f112
theorem aiM:FO 112 Tryz.f112 OM:=fo
noncomputable def ON:=bo Tryz.f113
theorem aiN:FO 113 Tryz.f113 ON:=fo
noncomputable def OO:=bo Tryz.f114
theorem aiO:FO 114 Tryz.f114 OO:=fo
noncomputable def kK:=bo Tryz.f115
theorem SY:FO 115 Tryz.f115 kK:=fo
theorem ae7: Tryz.f115.results.toList=[.tmp 2]:=kr
theorem ae6: Tryz.f115.ntmps=54:=kr
noncomputable def qt:=bo Tryz.f116
theorem S3:FO 116 Tryz.f116 qt:=fo
theorem afv: Tryz.f116.results.toList=[.tmp 4]:=kr
theorem afu: Tryz.f116.ntmps=21:=kr
noncomputable def OP:=bo Tryz.f117
theorem aiP:FO 117 Tryz.f117 OP:=fo
noncomputable def OQ:=bo Tryz.f118
theorem aiQ:FO 118 Tryz.f118 OQ:=fo
noncomputable def A8:=bo Tryz.f119
theorem Sp:FO 119 Tryz.f119 A8:=fo
theorem adC: Tryz.f119.results.toList=[.tmp 4]:=kr
theorem adB: Tryz.f119.ntmps=9:=kr
noncomputable def du:=bo Tryz.f120
theorem TG:FO 120 Tryz.f120 du:=fo
theorem ahg: Tryz.f120.results.toList=[.tmp 2]:=kr
theorem ahf: Tryz.f120.ntmps=130:=kr
noncomputable def dv:=bo Tryz.f121
theorem TN:FO 121 Tryz.f121 dv:=fo
theorem ahx: Tryz.f121.results.toList=[.tmp 2]:=kr
theorem ahw: Tryz.f121.ntmps=133:=kr
noncomputable def qv:=bo Tryz.f122
theorem Ja:FO 122 Tryz.f122 qv:=fo
theorem agF: Tryz.f122.results.toList=[.tmp 4]:=kr
theorem agE: Tryz.f122.ntmps=21:=kr
noncomputable def eP:=bo Tryz.f123
theorem Tx:FO 123 Tryz.f123 eP:=fo
theorem agR: Tryz.f123.results.toList=[.tmp 2]:=kr
theorem agQ: Tryz.f123.ntmps=53:=kr
noncomputable def rZ:=bo Tryz.f124
theorem Tu:FO 124 Tryz.f124 rZ:=fo
theorem agI: Tryz.f124.results.toList=[.cell 4 158]:=kr
theorem agH: Tryz.f124.ntmps=21:=kr
noncomputable def fL:=bo Tryz.f125
theorem Tv:FO 125 Tryz.f125 fL:=fo
theorem agL: Tryz.f125.results.toList=[.tmp 2]:=kr
theorem agK: Tryz.f125.ntmps=30:=kr
noncomputable def mu:=bo Tryz.f126
theorem TM:FO 126 Tryz.f126 mu:=fo
theorem ahu: Tryz.f126.results.toList=[.cell 8 158]:=kr
theorem aht: Tryz.f126.ntmps=58:=kr
noncomputable def ns:=bo Tryz.f127
theorem TL:FO 127 Tryz.f127 ns:=fo
theorem ahr: Tryz.f127.results.toList=[.cell 6 158]:=kr
theorem ahq: Tryz.f127.ntmps=46:=kr
noncomputable def jK:=bo Tryz.f128
theorem Ty:FO 128 Tryz.f128 jK:=fo
theorem agU: Tryz.f128.results.toList=[.tmp 2]:=kr
theorem agT: Tryz.f128.ntmps=32:=kr
noncomputable def OR:=bo Tryz.f129
theorem aiR:FO 129 Tryz.f129 OR:=fo
noncomputable def qw:=bo Tryz.f130
theorem IV:FO 130 Tryz.f130 qw:=fo
theorem adz: Tryz.f130.results.toList=[.tmp 4]:=kr
theorem ady: Tryz.f130.ntmps=19:=kr
noncomputable def OS:=bo Tryz.f131
theorem aiS:FO 131 Tryz.f131 OS:=fo
noncomputable def OT:=bo Tryz.f132
theorem aiT:FO 132 Tryz.f132 OT:=fo
noncomputable def OU:=bo Tryz.f133
theorem aiU:FO 133 Tryz.f133 OU:=fo
noncomputable def OV:=bo Tryz.f134
theorem aiV:FO 134 Tryz.f134 OV:=fo
noncomputable def OW:=bo Tryz.f135
theorem aiW:FO 135 Tryz.f135 OW:=fo
noncomputable def OX:=bo Tryz.f136
theorem aiX:FO 136 Tryz.f136 OX:=fo
noncomputable def ko:=bo Tryz.f137
theorem TT:FO 137 Tryz.f137 ko:=fo
theorem ahQ: Tryz.f137.results.toList=[.tmp 2]:=kr
theorem ahP: Tryz.f137.ntmps=31:=kr
noncomputable def OY:=bo Tryz.f138
theorem aiY:FO 138 Tryz.f138 OY:=fo
noncomputable def fD:=bo Tryz.f139
theorem TP:FO 139 Tryz.f139 fD:=fo
theorem ahE: Tryz.f139.results.toList=[.tmp 2]:=kr
theorem ahD: Tryz.f139.ntmps=33:=kr
noncomputable def eQ:=bo Tryz.f140
theorem TS:FO 140 Tryz.f140 eQ:=fo
theorem ahN: Tryz.f140.results.toList=[.tmp 2]:=kr
theorem ahM: Tryz.f140.ntmps=52:=kr
noncomputable def OZ:=bo Tryz.f141
theorem aiZ:FO 141 Tryz.f141 OZ:=fo
noncomputable def O0:=bo Tryz.f142
theorem ai0:FO 142 Tryz.f142 O0:=fo
noncomputable def O1:=bo Tryz.f143
theorem ai1:FO 143 Tryz.f143 O1:=fo
noncomputable def O2:=bo Tryz.f144
theorem ai2:FO 144 Tryz.f144 O2:=fo
noncomputable def lF:=bo Tryz.f145
theorem Tt:FO 145 Tryz.f145 lF:=fo
theorem agC: Tryz.f145.results.toList=[.tmp 2]:=kr
theorem agB: Tryz.f145.ntmps=56:=kr
noncomputable def oc:=bo Tryz.f146
theorem Tw:FO 146 Tryz.f146 oc:=fo
theorem agO: Tryz.f146.results.toList=[.tmp 2]:=kr
theorem agN: Tryz.f146.ntmps=19:=kr
noncomputable def O3:=bo Tryz.f147
theorem ai3:FO 147 Tryz.f147 O3:=fo
noncomputable def O4:=bo Tryz.f148
theorem ai4:FO 148 Tryz.f148 O4:=fo
noncomputable def qx:=bo Tryz.f149
theorem S4:FO 149 Tryz.f149 qx:=fo
theorem afy: Tryz.f149.results.toList=[]:=kr
theorem afx: Tryz.f149.ntmps=36:=kr
noncomputable def O5:=bo Tryz.f150
theorem ai5:FO 150 Tryz.f150 O5:=fo
noncomputable def eR:=bo Tryz.f151
theorem SF:FO 151 Tryz.f151 eR:=fo
theorem aee: Tryz.f151.results.toList=[]:=kr
theorem aed: Tryz.f151.ntmps=134:=kr
noncomputable def O6:=bo Tryz.f152
theorem ai6:FO 152 Tryz.f152 O6:=fo
noncomputable def dw:=bo Tryz.f153
theorem SW:FO 153 Tryz.f153 dw:=fo
theorem ae3: Tryz.f153.results.toList=[.tmp 2]:=kr
theorem ae2: Tryz.f153.ntmps=190:=kr
noncomputable def fE:=bo Tryz.f154
theorem SV:FO 154 Tryz.f154 fE:=fo
theorem aeZ: Tryz.f154.results.toList=[.tmp 2]:=kr
theorem aeY: Tryz.f154.ntmps=108:=kr
noncomputable def A9:=bo Tryz.f155
theorem SH:FO 155 Tryz.f155 A9:=fo
theorem aek: Tryz.f155.results.toList=[.tmp 2]:=kr
theorem aej: Tryz.f155.ntmps=6:=kr
noncomputable def A':=bo Tryz.f156
theorem Sx:FO 156 Tryz.f156 A':=fo
theorem adR: Tryz.f156.results.toList=[.tmp 2]:=kr
theorem adQ: Tryz.f156.ntmps=4:=kr
noncomputable def O7:=bo Tryz.f157
theorem ai7:FO 157 Tryz.f157 O7:=fo
noncomputable def O8:=bo Tryz.f158
theorem ai8:FO 158 Tryz.f158 O8:=fo
noncomputable def O9:=bo Tryz.f159
theorem ai9:FO 159 Tryz.f159 O9:=fo
noncomputable def O':=bo Tryz.f160
theorem ai':FO 160 Tryz.f160 O':=fo
noncomputable def Pa:=bo Tryz.f161
theorem aja:FO 161 Tryz.f161 Pa:=fo
noncomputable def Pb:=bo Tryz.f162
theorem ajb:FO 162 Tryz.f162 Pb:=fo
noncomputable def Pc:=bo Tryz.f163
theorem ajc:FO 163 Tryz.f163 Pc:=fo
noncomputable def Pd:=bo Tryz.f164
theorem ajd:FO 164 Tryz.f164 Pd:=fo
noncomputable def Pe:=bo Tryz.f165
theorem aje:FO 165 Tryz.f165 Pe:=fo
noncomputable def w9:=bo Tryz.f166
theorem Td:FO 166 Tryz.f166 w9:=fo
theorem afW: Tryz.f166.results.toList=[.tmp 0,.tmp 1]:=kr
theorem afV: Tryz.f166.ntmps=32:=kr
noncomputable def Pf:=bo Tryz.f167
theorem ajf:FO 167 Tryz.f167 Pf:=fo
noncomputable def r5:=bo Tryz.f168
theorem S0:FO 168 Tryz.f168 r5:=fo
theorem afd: Tryz.f168.results.toList=[]:=kr
theorem afc: Tryz.f168.ntmps=37:=kr
noncomputable def ig:=bo Tryz.f169
theorem Tz:FO 169 Tryz.f169 ig:=fo
theorem agX: Tryz.f169.results.toList=[.tmp 2]:=kr
theorem agW: Tryz.f169.ntmps=147:=kr
noncomputable def Ba:=bo Tryz.f170
theorem Ti:FO 170 Tryz.f170 Ba:=fo
theorem aga: Tryz.f170.results.toList=[.tmp 4]:=kr
theorem af': Tryz.f170.ntmps=12:=kr
noncomputable def cG:=bo Tryz.f171
theorem Jb:FO 171 Tryz.f171 cG:=fo
theorem ag5: Tryz.f171.results.toList=[.tmp 6]:=kr
theorem ag4: Tryz.f171.ntmps=286:=kr
noncomputable def fM:=bo Tryz.f172
theorem TF:FO 172 Tryz.f172 fM:=fo
theorem ahc: Tryz.f172.results.toList=[.tmp 4]:=kr
theorem ahb: Tryz.f172.ntmps=247:=kr
noncomputable def mv:=bo Tryz.f173
theorem TK:FO 173 Tryz.f173 mv:=fo
theorem aho: Tryz.f173.results.toList=[.cell 4 158]:=kr
theorem ahn: Tryz.f173.ntmps=42:=kr
noncomputable def Pg:=bo Tryz.f174
theorem ajg:FO 174 Tryz.f174 Pg:=fo
noncomputable def od:=bo Tryz.f175
theorem TQ:FO 175 Tryz.f175 od:=fo
theorem ahH: Tryz.f175.results.toList=[.tmp 2]:=kr
theorem ahG: Tryz.f175.ntmps=19:=kr
noncomputable def xc:=bo Tryz.f176
theorem SZ:FO 176 Tryz.f176 xc:=fo
theorem afa: Tryz.f176.results.toList=[]:=kr
theorem ae': Tryz.f176.ntmps=19:=kr
noncomputable def Ph:=bo Tryz.f177
theorem ajh:FO 177 Tryz.f177 Ph:=fo
noncomputable def pH:=bo Tryz.f178
theorem SE:FO 178 Tryz.f178 pH:=fo
theorem aeb: Tryz.f178.results.toList=[]:=kr
theorem aea: Tryz.f178.ntmps=49:=kr
noncomputable def Pj:=bo Tryz.f179
theorem aji:FO 179 Tryz.f179 Pj:=fo
noncomputable def Pk:=bo Tryz.f180
theorem ajj:FO 180 Tryz.f180 Pk:=fo
noncomputable def Pm:=bo Tryz.f181
theorem ajk:FO 181 Tryz.f181 Pm:=fo
noncomputable def Pn:=bo Tryz.f182
theorem ajl:FO 182 Tryz.f182 Pn:=fo
noncomputable def Po:=bo Tryz.f183
theorem ajm:FO 183 Tryz.f183 Po:=fo
noncomputable def Bb:=bo Tryz.f184
theorem SD:FO 184 Tryz.f184 Bb:=fo
theorem ad9: Tryz.f184.results.toList=[.tmp 4]:=kr
theorem ad8: Tryz.f184.ntmps=17:=kr
noncomputable def Pp:=bo Tryz.f185
theorem ajn:FO 185 Tryz.f185 Pp:=fo
noncomputable def Pq:=bo Tryz.f186
theorem ajo:FO 186 Tryz.f186 Pq:=fo
noncomputable def Pr:=bo Tryz.f187
theorem ajp:FO 187 Tryz.f187 Pr:=fo
noncomputable def Ps:=bo Tryz.f188
theorem ajq:FO 188 Tryz.f188 Ps:=fo
noncomputable def yZ:=bo Tryz.f189
theorem Te:FO 189 Tryz.f189 yZ:=fo
theorem afZ: Tryz.f189.results.toList=[.cell 2 133]:=kr
theorem afY: Tryz.f189.ntmps=13:=kr
noncomputable def Bc:=bo Tryz.f190
theorem SP:FO 190 Tryz.f190 Bc:=fo
theorem aeK: Tryz.f190.results.toList=[.tmp 2]:=kr
theorem aeJ: Tryz.f190.ntmps=12:=kr
noncomputable def Bd:=bo Tryz.f191
theorem SU:FO 191 Tryz.f191 Bd:=fo
theorem aeW: Tryz.f191.results.toList=[.tmp 4]:=kr
theorem aeV: Tryz.f191.ntmps=9:=kr
noncomputable def Be:=bo Tryz.f192
theorem Sm:FO 192 Tryz.f192 Be:=fo
theorem adq: Tryz.f192.results.toList=[.tmp 4]:=kr
theorem adp: Tryz.f192.ntmps=9:=kr
noncomputable def Bf:=bo Tryz.f193
theorem SR:FO 193 Tryz.f193 Bf:=fo
theorem aeQ: Tryz.f193.results.toList=[.tmp 2]:=kr
theorem aeP: Tryz.f193.ntmps=6:=kr
noncomputable def Bg:=bo Tryz.f194
theorem SQ:FO 194 Tryz.f194 Bg:=fo
theorem aeN: Tryz.f194.results.toList=[.tmp 2]:=kr
theorem aeM: Tryz.f194.ntmps=12:=kr
noncomputable def eA:=bo Tryz.f195
theorem TJ:FO 195 Tryz.f195 eA:=fo
theorem ahj: Tryz.f195.results.toList=[.tmp 4]:=kr
theorem ahi: Tryz.f195.ntmps=252:=kr
noncomputable def kL:=bo Tryz.f196
theorem Tn:FO 196 Tryz.f196 kL:=fo
theorem agt: Tryz.f196.results.toList=[.tmp 10]:=kr
theorem ags: Tryz.f196.ntmps=156:=kr
noncomputable def eg:=bo Tryz.f197
theorem SL:FO 197 Tryz.f197 eg:=fo
theorem aeA: Tryz.f197.results.toList=[.tmp 2,.tmp 3]:=kr
theorem aez: Tryz.f197.ntmps=122:=kr
noncomputable def ij:=bo Tryz.f198
theorem SJ:FO 198 Tryz.f198 ij:=fo
theorem aeq: Tryz.f198.results.toList=[.cell 4 231,.tmp 5]:=kr
theorem aep: Tryz.f198.ntmps=68:=kr
noncomputable def uY:=bo Tryz.f199
theorem SI:FO 199 Tryz.f199 uY:=fo
theorem aen: Tryz.f199.results.toList=[.cell 6 231]:=kr
theorem aem: Tryz.f199.ntmps=15:=kr
noncomputable def Bh:=bo Tryz.f200
theorem Ss:FO 200 Tryz.f200 Bh:=fo
theorem adF: Tryz.f200.results.toList=[.tmp 4]:=kr
theorem adE: Tryz.f200.ntmps=14:=kr
noncomputable def xd:=bo Tryz.f201
theorem SG:FO 201 Tryz.f201 xd:=fo
theorem aeh: Tryz.f201.results.toList=[.tmp 2]:=kr
theorem aeg: Tryz.f201.ntmps=9:=kr
noncomputable def pI:=bo Tryz.f202
theorem Sy:FO 202 Tryz.f202 pI:=fo
theorem adU: Tryz.f202.results.toList=[]:=kr
theorem adT: Tryz.f202.ntmps=70:=kr
noncomputable def Pt:=bo Tryz.f203
theorem ajr:FO 203 Tryz.f203 Pt:=fo
noncomputable def Pu:=bo Tryz.f204
theorem ajs:FO 204 Tryz.f204 Pu:=fo
noncomputable def Pv:=bo Tryz.f205
theorem ajt:FO 205 Tryz.f205 Pv:=fo
noncomputable def Pw:=bo Tryz.f206
theorem aju:FO 206 Tryz.f206 Pw:=fo
noncomputable def Px:=bo Tryz.f207
theorem ajv:FO 207 Tryz.f207 Px:=fo
noncomputable def Py:=bo Tryz.f208
theorem ajw:FO 208 Tryz.f208 Py:=fo
noncomputable def Pz:=bo Tryz.f209
theorem ajx:FO 209 Tryz.f209 Pz:=fo
noncomputable def PA:=bo Tryz.f210
theorem ajy:FO 210 Tryz.f210 PA:=fo
noncomputable def r6:=bo Tryz.f211
theorem Tg:FO 211 Tryz.f211 r6:=fo
theorem af5: Tryz.f211.results.toList=[.tmp 2]:=kr
theorem af4: Tryz.f211.ntmps=23:=kr
noncomputable def Bi:=bo Tryz.f212
theorem Tf:FO 212 Tryz.f212 Bi:=fo
theorem af2: Tryz.f212.results.toList=[.tmp 6]:=kr
theorem af1: Tryz.f212.ntmps=15:=kr
noncomputable def r7:=bo Tryz.f213
theorem Th:FO 213 Tryz.f213 r7:=fo
theorem af8: Tryz.f213.results.toList=[.tmp 2]:=kr
theorem af7: Tryz.f213.ntmps=35:=kr
noncomputable def jL:=bo Tryz.f214
theorem Tp:FO 214 Tryz.f214 jL:=fo
theorem agw: Tryz.f214.results.toList=[.tmp 4]:=kr
theorem agv: Tryz.f214.ntmps=54:=kr
noncomputable def mw:=bo Tryz.f215
theorem Tj:FO 215 Tryz.f215 mw:=fo
theorem agd: Tryz.f215.results.toList=[.tmp 6]:=kr
theorem agc: Tryz.f215.ntmps=43:=kr
noncomputable def y0:=bo Tryz.f216
theorem Tk:FO 216 Tryz.f216 y0:=fo
theorem agh: Tryz.f216.results.toList=[.tmp 6]:=kr
theorem agf: Tryz.f216.ntmps=30:=kr
noncomputable def pJ:=bo Tryz.f217
theorem I6:FO 217 Tryz.f217 pJ:=fo
theorem agk: Tryz.f217.results.toList=[.tmp 4]:=kr
theorem agj: Tryz.f217.ntmps=21:=kr
noncomputable def y3:=bo Tryz.f218
theorem Tl:FO 218 Tryz.f218 y3:=fo
theorem agn: Tryz.f218.results.toList=[.tmp 6]:=kr
theorem agm: Tryz.f218.ntmps=34:=kr
noncomputable def fP:=bo Tryz.f219
theorem Ts:FO 219 Tryz.f219 fP:=fo
theorem agz: Tryz.f219.results.toList=[.tmp 4]:=kr
theorem agy: Tryz.f219.ntmps=93:=kr
noncomputable def jq:=bo Tryz.f220
theorem TC:FO 220 Tryz.f220 jq:=fo
theorem ag2: Tryz.f220.results.toList=[.tmp 4]:=kr
theorem ag1: Tryz.f220.ntmps=115:=kr
noncomputable def jM:=bo Tryz.f221
theorem TD:FO 221 Tryz.f221 jM:=fo
theorem ag9: Tryz.f221.results.toList=[.tmp 4]:=kr
theorem ag8: Tryz.f221.ntmps=67:=kr
noncomputable def PB:=bo Tryz.f222
theorem ajz:FO 222 Tryz.f222 PB:=fo
noncomputable def PC:=bo Tryz.f223
theorem ajA:FO 223 Tryz.f223 PC:=fo
noncomputable def PE:=bo Tryz.f224
theorem ajB:FO 224 Tryz.f224 PE:=fo
noncomputable def PF:=bo Tryz.f225
theorem ajC:FO 225 Tryz.f225 PF:=fo
noncomputable def PG:=bo Tryz.f226
theorem ajD:FO 226 Tryz.f226 PG:=fo
noncomputable def Bj:=bo Tryz.f227
theorem SC:FO 227 Tryz.f227 Bj:=fo
theorem ad6: Tryz.f227.results.toList=[.tmp 2]:=kr
theorem ad5: Tryz.f227.ntmps=6:=kr
noncomputable def Bk:=bo Tryz.f228
theorem Sl:FO 228 Tryz.f228 Bk:=fo
theorem adk: Tryz.f228.results.toList=[.tmp 4]:=kr
theorem adj: Tryz.f228.ntmps=9:=kr
noncomputable def Bl:=bo Tryz.f229
theorem SM:FO 229 Tryz.f229 Bl:=fo
theorem aeE: Tryz.f229.results.toList=[.tmp 2]:=kr
theorem aeD: Tryz.f229.ntmps=9:=kr
noncomputable def Bm:=bo Tryz.f230
theorem SS:FO 230 Tryz.f230 Bm:=fo
theorem aeT: Tryz.f230.results.toList=[.tmp 3]:=kr
theorem aeS: Tryz.f230.ntmps=11:=kr
noncomputable def qy:=bo Tryz.f231
theorem IT:FO 231 Tryz.f231 qy:=fo
theorem adn: Tryz.f231.results.toList=[.tmp 4]:=kr
theorem adm: Tryz.f231.ntmps=19:=kr
noncomputable def Bn:=bo Tryz.f232
theorem SN:FO 232 Tryz.f232 Bn:=fo
theorem aeH: Tryz.f232.results.toList=[.tmp 2]:=kr
theorem aeG: Tryz.f232.ntmps=17:=kr
noncomputable def Bo:=bo Tryz.f233
theorem I2:FO 233 Tryz.f233 Bo:=fo
theorem afg: Tryz.f233.results.toList=[.tmp 4]:=kr
theorem aff: Tryz.f233.ntmps=12:=kr
noncomputable def xf:=bo Tryz.f234
theorem I3:FO 234 Tryz.f234 xf:=fo
theorem afj: Tryz.f234.results.toList=[.tmp 4]:=kr
theorem afi: Tryz.f234.ntmps=19:=kr
noncomputable def nt:=bo Tryz.f235
theorem S6:FO 235 Tryz.f235 nt:=fo
theorem afE: Tryz.f235.results.toList=[.tmp 6]:=kr
theorem afD: Tryz.f235.ntmps=91:=kr
noncomputable def qz:=bo Tryz.f236
theorem I5:FO 236 Tryz.f236 qz:=fo
theorem afT: Tryz.f236.results.toList=[.tmp 4]:=kr
theorem afS: Tryz.f236.ntmps=50:=kr
noncomputable def Bp:=bo Tryz.f237
theorem S2:FO 237 Tryz.f237 Bp:=fo
theorem afp: Tryz.f237.results.toList=[.tmp 4]:=kr
theorem afo: Tryz.f237.ntmps=9:=kr
noncomputable def Bq:=bo Tryz.f238
theorem Tb:FO 238 Tryz.f238 Bq:=fo
theorem afN: Tryz.f238.results.toList=[.tmp 2]:=kr
theorem afM: Tryz.f238.ntmps=53:=kr
noncomputable def y4:=bo Tryz.f239
theorem I4:FO 239 Tryz.f239 y4:=fo
theorem afs: Tryz.f239.results.toList=[.tmp 6]:=kr
theorem afr: Tryz.f239.ntmps=26:=kr
noncomputable def y5:=bo Tryz.f240
theorem Tm:FO 240 Tryz.f240 y5:=fo
theorem agq: Tryz.f240.results.toList=[.tmp 4]:=kr
theorem agp: Tryz.f240.ntmps=10:=kr
noncomputable def PH:=bo Tryz.f241
theorem ajE:FO 241 Tryz.f241 PH:=fo
noncomputable def uZ:=bo Tryz.f242
theorem Su:FO 242 Tryz.f242 uZ:=fo
theorem adI: Tryz.f242.results.toList=[.cell 4 231]:=kr
theorem adH: Tryz.f242.ntmps=17:=kr
noncomputable def qA:=bo Tryz.f243
theorem Sv:FO 243 Tryz.f243 qA:=fo
theorem adL: Tryz.f243.results.toList=[.cell 4 231]:=kr
theorem adK: Tryz.f243.ntmps=19:=kr
noncomputable def Br:=bo Tryz.f244
theorem TO:FO 244 Tryz.f244 Br:=fo
theorem ahB: Tryz.f244.results.toList=[.tmp 2]:=kr
theorem ahA: Tryz.f244.ntmps=5:=kr
noncomputable def tu:=bo Tryz.f245
theorem Sw:FO 245 Tryz.f245 tu:=fo
theorem adO: Tryz.f245.results.toList=[.cell 4 231]:=kr
theorem adN: Tryz.f245.ntmps=17:=kr
noncomputable def r8:=bo Tryz.f246
theorem Sz:FO 246 Tryz.f246 r8:=fo
theorem adX: Tryz.f246.results.toList=[.tmp 4]:=kr
theorem adW: Tryz.f246.ntmps=23:=kr
noncomputable def Bs:=bo Tryz.f247
theorem SB:FO 247 Tryz.f247 Bs:=fo
theorem ad3: Tryz.f247.results.toList=[.tmp 2]:=kr
theorem ad2: Tryz.f247.ntmps=5:=kr
noncomputable def PI:=bo Tryz.f248
theorem ajF:FO 248 Tryz.f248 PI:=fo
noncomputable def PJ:=bo Tryz.f249
theorem ajG:FO 249 Tryz.f249 PJ:=fo
noncomputable def PK:=bo Tryz.f250
theorem ajH:FO 250 Tryz.f250 PK:=fo
noncomputable def PM:=bo Tryz.f251
theorem ajI:FO 251 Tryz.f251 PM:=fo
noncomputable def qB:=bo Tryz.f252
theorem IS:FO 252 Tryz.f252 qB:=fo
theorem adh: Tryz.f252.results.toList=[.tmp 4]:=kr
theorem adg: Tryz.f252.ntmps=19:=kr
noncomputable def my:=bo Tryz.f253
theorem S5:FO 253 Tryz.f253 my:=fo
theorem afB: Tryz.f253.results.toList=[.tmp 8]:=kr
theorem afA: Tryz.f253.ntmps=41:=kr
noncomputable def Bt:=bo Tryz.f254
theorem So:FO 254 Tryz.f254 Bt:=fo
theorem adw: Tryz.f254.results.toList=[.tmp 4]:=kr
theorem adv: Tryz.f254.ntmps=9:=kr
noncomputable def Bu:=bo Tryz.f255
theorem Tc:FO 255 Tryz.f255 Bu:=fo
theorem afQ: Tryz.f255.results.toList=[.tmp 3]:=kr
theorem afP: Tryz.f255.ntmps=9:=kr
noncomputable def Bv:=bo Tryz.f256
theorem S1:FO 256 Tryz.f256 Bv:=fo
theorem afm: Tryz.f256.results.toList=[.tmp 3]:=kr
theorem afl: Tryz.f256.ntmps=14:=kr
noncomputable def Bw:=bo Tryz.f257
theorem Ta:FO 257 Tryz.f257 Bw:=fo
theorem afK: Tryz.f257.results.toList=[.tmp 2]:=kr
theorem afJ: Tryz.f257.ntmps=32:=kr
noncomputable def u4:=bo Tryz.f258
theorem SA:FO 258 Tryz.f258 u4:=fo
theorem ad0: Tryz.f258.results.toList=[.tmp 4]:=kr
theorem adZ: Tryz.f258.ntmps=13:=kr
noncomputable def PN:=bo Tryz.f259
theorem ajJ:FO 259 Tryz.f259 PN:=fo
noncomputable def qC:=bo Tryz.f260
theorem IU:FO 260 Tryz.f260 qC:=fo
theorem adt: Tryz.f260.results.toList=[.tmp 4]:=kr
theorem ads: Tryz.f260.ntmps=19:=kr
def dX(P:Program)(t:TypeId):Array Field:=match P.underlying t with|some (.struct fs)=>fs|_=> #[]
theorem u8:prog.underlying 8=some (.struct (dX prog 8)):=kr
theorem u22:prog.underlying 22=some (.slice 5):=kr
theorem u66:prog.underlying 66=some (.struct (dX prog 66)):=kr
theorem amw:((dX prog 66).toList.map fun f=>(f.offset,prog.cellsOf f.type))=[(0,1),(1,1),(2,1),(3,1),(4,1),(5,1)]:=kr
theorem amx:((dX prog 66).toList.all fun f=>(prog.info? f.type).isSome)=true:=kr
theorem u89:prog.underlying 89=some (.struct (dX prog 89)):=kr
theorem amy:((dX prog 89).toList.map fun f=>(f.offset,prog.cellsOf f.type))=[(0,8),(8,1),(9,1),(10,1)]:=kr
theorem amz:((dX prog 89).toList.all fun f=>(prog.info? f.type).isSome)=true:=kr
theorem IX:mkeyP prog 127=3:=kr
theorem IY:mapT prog 127=true:=kr
theorem air:mkeyP prog 131=5:=kr
theorem ais:mapT prog 131=true:=kr
theorem I8:melP prog 131=205:=kr
theorem amA:prog.underlying 133=some (.struct (dX prog 133)):=kr
theorem ait:((dX prog 133).toList.map fun f=>(f.offset,prog.cellsOf f.type))=[(0,8),(8,1),(9,1)]:=kr
theorem aiu:((dX prog 133).toList.all fun f=>(prog.info? f.type).isSome)=true:=kr
theorem amB:prog.underlying 158=some (.struct (dX prog 158)):=kr
theorem aiv:((dX prog 158).toList.map fun f=>(f.offset,prog.cellsOf f.type))=[(0,1),(1,1)]:=kr
theorem aiw:((dX prog 158).toList.all fun f=>(prog.info? f.type).isSome)=true:=kr
theorem amC:prog.underlying 205=some (.struct (dX prog 205)):=kr
theorem aix:((dX prog 205).toList.map fun f=>(f.offset,prog.cellsOf f.type))=[(0,1),(1,1),(2,1),(3,1),(4,1),(5,1)]:=kr
theorem aiy:((dX prog 205).toList.all fun f=>(prog.info? f.type).isSome)=true:=kr
theorem amD:prog.underlying 208=some (.struct (dX prog 208)):=kr
theorem aiz:((dX prog 208).toList.map fun f=>(f.offset,prog.cellsOf f.type))=[(0,8),(8,1)]:=kr
theorem aiA:((dX prog 208).toList.all fun f=>(prog.info? f.type).isSome)=true:=kr
theorem u2:prog.underlying 2=some (.int .i64):=kr
theorem u3:prog.underlying 3=some (.int .i64):=kr
theorem u5:prog.underlying 5=some (.int .u8):=kr
theorem amE:prog.underlying 189=some (.int .u64):=kr
end Go.Proofs.Tryz.K
namespace Go.Argus
open Go.Abs
abbrev I(n:Int):D:=.s (.int .i64 n)
abbrev U8(n:Int):D:=.s (.int .u8 n)
abbrev B(b:Bool):D:=.s (.bool b)
abbrev S(s:ByteArray):D:=.s (.string s)
abbrev aw(l:List Int):D:=.sl (l.map I) l.length
abbrev jF(l:List Int):D:=.sl (l.map U8) l.length
abbrev pD(l:List ByteArray):D:=.sl (l.map S) l.length
structure a8 where
 op:Int
 to:Int
 a:Int
 b:Int
 n:Int
 args:List Int
structure jv where
 name:ByteArray
 to:Int
structure End where
 kind:Int
 a:Int
 b:Int
 to:Int
 fC:Int
 name:ByteArray
 ins:a8
 args:List Int
 aD:List jv
 bX:Int
structure bw where
 ins:List a8
 fin:End
structure az where
 name:ByteArray
 iter:Bool
 args:Int
 result:Int
 af:List Int
 aL:List Int
 signals:List ByteArray
 blocks:List bw
def a7(x:a8):List D:=[U8 x.op,I x.to,I x.a,I x.b,I x.n,aw x.args]
def kJ(w:jv):List D:=[S w.name,I w.to]
def n6(l:List jv):D:=.sl (l.flatMap kJ) l.length
def gq(l:List a8):D:=.sl (l.flatMap a7) l.length
def aT(x:End):List D:=[U8 x.kind,I x.a,I x.b,I x.to,I x.fC,S x.name,U8 x.ins.op,I x.ins.to,I x.ins.a,I x.ins.b,I x.ins.n,aw x.ins.args,aw x.args,n6 x.aD,I x.bX]
def eN(b:bw):List D:=gq b.ins::aT b.fin
def fu(l:List bw):D:=.sl (l.flatMap eN) l.length
def aB(f:az):List D:=[S f.name,B f.iter,I f.args,U8 f.result,jF f.af,jF f.aL,pD f.signals,fu f.blocks]
def aW(p q:D)(f:az):List D:=[S f.name,B f.iter,I f.args,U8 f.result,jF f.af,jF f.aL,pD f.signals,fu f.blocks,p,q]
@[simp] theorem aql (p q : D) (x : az) : (aW p q x).length = 10 := rfl
@[simp] theorem aqp (x : a8) : (a7 x).length = 6 := rfl
@[simp] theorem aqm (x : jv) : (kJ x).length = 2 := rfl
@[simp] theorem aqq (x : End) : (aT x).length = 15 := rfl
@[simp] theorem aqi (x : bw) : (eN x).length = 16 := rfl
@[simp] theorem aqn (x : az) : (aB x).length = 8 := rfl
theorem DR(x:a8):(a7 x).length=6:=rfl
theorem AL(x:jv):(kJ x).length=2:=rfl
theorem yM(x:bw):(eN x).length=16:=rfl
def pP{α:Type}(p:α->Bool)(l:List α):Int:=match l.findIdx? p with
 |some i=>i
 |none=> -1
theorem DI{α:Type}{p:α->Bool}{l:List α}{k:Nat}{x:α}(hx:l[k]? =some x)(hp:p x=true)(h:∀ j y,j<k->l[j]? =some y->p y=false):pP p l=k:=by
 have:l.findIdx? p=some k:=by
  rw[List.findIdx?_eq_some_iff_getElem]
  obtain⟨hk,he⟩:=List.getElem?_eq_some_iff.1 hx
  refine⟨hk,by rw[he];exact hp,fun j hj=>?_⟩
  have:=h j l[j] hj (by simp[show j<l.length by omega])
  simp[this]
 simp[pP,this]
theorem DJ{α:Type}{p:α->Bool}{l:List α}(h:∀ (j:Nat) y,l[j]? =some y->p y=false):pP p l= -1:=by
 have:l.findIdx? p=none:=by
  rw[List.findIdx?_eq_none_iff]
  intro x hx
  obtain⟨j,hj⟩:=List.getElem?_of_mem hx
  exact h j x hj
 simp[pP,this]
theorem DY{α:Type}(p:α->Bool)(l:List α):decide (0<=pP p l)=l.any p:=by
 unfold pP
 cases h:l.findIdx? p with
 |none=>
  rw[List.findIdx?_eq_none_iff] at h
  have:l.any p=false:=List.any_eq_false.2 fun x hx=>by simp[h x hx]
  simp[this]
 |some i=>
  obtain⟨hi,hp,_⟩:=List.findIdx?_eq_some_iff_getElem.1 h
  have:l.any p=true:=List.any_eq_true.2 ⟨l[i],by simp,hp⟩
  simp[this]
theorem cN(l:List Int):Tr (aw l):=.sl (.map fun _=>.s _)
theorem pA(l:List Int):Tr (jF l):=.sl (.map fun _=>.s _)
theorem w7(l:List ByteArray):Tr (pD l):=.sl (.map fun _=>.s _)
theorem pE(x:a8):∀ a∈a7 x,Tr a:=.cons (.s _) (.cons (.s _) (.cons (.s _) (.cons (.s _) (.cons (.s _) (.cons (cN _) .nil)))))
theorem D3(x:jv):∀ a∈kJ x,Tr a:=.cons (.s _) (.cons (.s _) .nil)
theorem jm(l:List jv):Tr (n6 l):=.sl (.flat D3)
theorem abv(l:List a8):Tr (gq l):=.sl (.flat pE)
theorem ki(x:End):∀ a∈aT x,Tr a:=.cons (.s _) (.cons (.s _) (.cons (.s _) (.cons (.s _) (.cons (.s _) (.cons (.s _) (.cons (.s _) (.cons (.s _) (.cons (.s _) (.cons (.s _) (.cons (.s _) (.cons (cN _) (.cons (cN _) (.cons (jm _) (.cons (.s _) .nil))))))))))))))
theorem MK(x:bw):∀ a∈eN x,Tr a:=.cons (abv _) (ki _)
theorem DN(l:List bw):Tr (fu l):=.sl (.flat MK)
theorem gp(x:az):∀ a∈aB x,Tr a:=.cons (.s _) (.cons (.s _) (.cons (.s _) (.cons (.s _) (.cons (pA _) (.cons (pA _) (.cons (w7 _) (.cons (DN _) .nil)))))))
theorem AX{p q:D}(hp:Tr p)(hq:Tr q)(x:az):∀ a∈aW p q x,Tr a:=.cons (.s _) (.cons (.s _) (.cons (.s _) (.cons (.s _) (.cons (pA _) (.cons (pA _) (.cons (w7 _) (.cons (DN _) (.cons hp (.cons hq .nil)))))))))
theorem lE{p q:D}(hp:Tr p)(hq:Tr q)(x:az):Tr (.agg (aW p q x)):=.agg (AX hp hq x)
theorem tk{p q:D}{f:az}(h1:p.one=true)(h2:q.one=true):(aW p q f).all D.one=true:=by
 simp only[aW,List.all_cons,List.all_nil,h1,h2];rfl
abbrev bZ(n:Int):D:=.s (.int .u64 n)
abbrev gh(w:List Int):D:=.agg (w.map bZ)
theorem iG(w:List Int):(w.map bZ).all D.one=true:=List.all_eq_true.2 fun x hx=>by obtain⟨y,_,rfl⟩:=List.mem_map.1 hx;rfl
theorem A0{w:List Int}{i:Nat}{x:Int}:((w.map bZ).set i (bZ x)).all D.one=true:=by rw[<- List.map_set];exact iG _
theorem pQ(w:List Int):Tr (gh w):=.agg (.map fun _=>.s _)
def oF(a b:Int):Int:=intBitsV .and .u64 a b
def yw(a b:Int):Int:=intBitsV .or .u64 a b
def tA(w:List Int)(m:Nat):List Int:=w.set (m / 64) (yw (w.getD (m / 64) 0) (IntKind.u64.wrap (1*2 ^ (min (m % 64) 64))))
def la(w:List Int)(m:Nat):Bool:=oF ((w.getD (m / 64) 0).fdiv (2 ^ (min (m % 64) 64))) 1==1
def gy(w:List Int)(n:Int):List Int:=if 0<=n then tA w n.toNat else w
def eS(w v:List Int):Nat->List Int
 |0=>w
 |k+1=>(eS w v k).set k (oF ((eS w v k).getD k 0) (v.getD k 0))
def gz(w v:List Int):List Int:=eS w v 20
@[simp] theorem M6 (w v : List Int) : ∀ k, (eS w v k).length = w.length
 |0=>rfl
 |k+1=>by simp[eS,M6 w v k]
@[simp] theorem aqv (w : List Int) (m : Nat) : (tA w m).length = w.length := by simp [tA]
@[simp] theorem aqw (w : List Int) (n : Int) : (gy w n).length = w.length := by unfold gy; split <;> simp
@[simp] theorem MN (w v : List Int) : (gz w v).length = w.length := M6 w v 20
theorem wrap_i64{n:Nat}(h:n<2 ^ 62):IntKind.i64.wrap (n:Int)=n:=by
 unfold IntKind.wrap
 simp[IntKind.signed,IntKind.bits]
 omega
theorem Sq{m:Nat}(h:m<2 ^ 62):IntKind.i64.wrap ((m:Int).tdiv 64)=((m / 64:Nat):Int):=by
 rw[show(m:Int).tdiv 64=((m / 64:Nat):Int) from by rw[Int.tdiv_eq_ediv_of_nonneg oG];omega]
 exact wrap_i64 oG
theorem Sr(m:Nat):(m:Int).tmod 64=((m % 64:Nat):Int):=by rw[Int.tmod_eq_emod_of_nonneg oG];omega
theorem ib(a b:Int):(a==b)=decide (a=b):=rfl
def cu(n a b:Int):Bool:=decide (a<=n)&&decide (n<=b)
def rT(b:Int):Bool:=decide (b<33)||decide (126<b)
def kq(s:ByteArray):Bool:=cu s.size 1 120&& !(b9 s).any rT
def rU(b:Int):Bool:=(decide (b<97)||decide (122<b))&&(decide (b<48)||decide (57<b))
def isName(s:ByteArray):Bool:=cu s.size 1 12&& !(b9 s).any rU
def lz(Ky k:Int):Bool:=decide (k<1)||decide (Ky<k)
def ez(l:List Int)(Ky:Int):Bool:= !l.any (lz Ky)
def bO(l:List Int)(r:Int):Int:=if 0<=r then l.getD r.toNat 0 else 0
theorem rW{l:List Int}{i:Nat}{x:Int}(h:l[i]? =some x):bO l i=x:=by
 simp[bO,List.getD_eq_getElem?_getD,h]
theorem G2{l:List Int}{r:Int}(h:¬ (0<=r/\r<l.length)):bO l r=0:=by
 unfold bO
 split
 .rename_i h0
  have:l.length<=r.toNat:=by omega
  simp[List.getD_eq_getElem?_getD,List.getElem?_eq_none this]
 .rfl
theorem jH{n a b:Int}:cu n a b=true↔a<=n/\n<=b:=by simp[cu]
theorem YT{n a b:Int}:cu n a b=false↔¬ (a<=n/\n<=b):=by
 rw[<- Bool.not_eq_true,jH]
def dW(l:List Int)(r:Int):Bool:=bO l r==1||bO l r==2
def fO(l rs:List Int):Bool:=rs.all (dW l)
def kQ(l aL:List Int)(r n:Int):Bool:=cu n 0 (aL.length - 1)&&(bO l r==bO aL n)
def kN(l:List Int)(r want of:Int):Bool:=
 if want=0 then r==0 else if want=1 then bO l r==1 else if want=2 then bO l r==2 else if want=3 then dW l r
 else bO l r !=0&&bO l r==of
structure Shape where
 to:Int
 a:Int
 b:Int
 args:Int
 low:Int
 high:Int
def iO(s:Shape):List D:=[I s.to,I s.a,I s.b,I s.args,I s.low,I s.high]
@[simp] theorem aqj (x : Shape) : (iO x).length = 6 := rfl
theorem MU(x:Shape):∀ a∈iO x,Tr a:=.cons (.s _) (.cons (.s _) (.cons (.s _) (.cons (.s _) (.cons (.s _) (.cons (.s _) .nil)))))
def pC(l:List Int)(x:a8)(s:Shape):Int:=if s.to=0\/s.to=1 then bO l x.a else bO l x.to
def py(l:List Int)(x:a8)(s:Shape):Bool:=if s.args=5 then cu x.args.length 1 6&&fO l x.args else if s.args=6 then decide ((x.args.length:Int)=1)&&fO l x.args else decide ((x.args.length:Int)=0)
def n8(l:List Int)(x:a8)(s:Shape):Bool:=
 kN l x.to s.to 0&&(kN l x.a s.a (pC l x s)&&(kN l x.b s.b (pC l x s)&&(py l x s&&cu x.n s.low s.high)))
def pV(l:List (Int×Shape)):List (Value×D):=l.map fun x=>(.int .u8 x.1,.agg (iO x.2))
def w8:Shape:=⟨0,0,0,0,0,0⟩
def fw(l:List (Int×Shape))(op:Int):Option Shape:=(l.find? fun x=>x.1==op).map (·.2)
def nu:List (Int×Shape):=[(1,⟨1,0,0,0, -1000000000,1000000000⟩),(2,⟨3,4,0,0,0,0⟩),(3,⟨1,1,1,0,0,0⟩),(4,⟨1,1,1,0,0,0⟩),(5,⟨1,3,4,0,0,0⟩),(6,⟨1,1,1,0,0,0⟩),(7,⟨1,1,1,0,0,0⟩),(8,⟨1,1,0,0,0,0⟩),
 (9,⟨2,0,0,0,0,1⟩),(10,⟨2,0,0,5,0,5⟩),(11,⟨3,2,0,0,0,5⟩),(12,⟨0,2,3,0,0,5⟩),(13,⟨1,2,0,0,0,0⟩),(14,⟨1,2,0,0,0,0⟩),(15,⟨0,1,0,0,0,0⟩)]
def iS:List (Int×Shape):=[(30,⟨1,1,1,0,0,0⟩),(31,⟨1,1,1,0,0,0⟩),(32,⟨1,1,1,0,0,0⟩),(33,⟨1,1,1,0,0,0⟩),(34,⟨1,1,1,0,0,0⟩),(35,⟨0,2,3,0,0,0⟩),(36,⟨3,2,0,0,0,0⟩),(37,⟨3,2,1,0,0,0⟩),(38,⟨0,2,1,6,0,0⟩)]
theorem zn(l:List (Int×Shape)):Tr (.im (pV l)):=.im fun x hx=>by
 obtain⟨y,_,rfl⟩:=List.mem_map.1 hx
 exact .agg (MU _)
theorem OA(op:Int):∀ l:List (Int×Shape),(lookD (.int .u8 op) (pV l)).map (·.2)=(fw l op).map fun s=>.agg (iO s)
 |[]=>rfl
 |(o,s)::l=>by
  have ih:=OA op l
  unfold pV at ih ⊢
  simp only[List.map_cons,lookD,veq,veq1,fw,List.find?_cons] at ih ⊢
  by_cases h:o=op
  .subst h;simp
  .have hb:(o==op)=false:=by simpa using h
   simp only[hb,beq_self_eq_true,Bool.and_false,Bool.false_eq_true,if_false,Option.map_map] at ih ⊢
   exact ih
theorem QH{P:Program}{t:TypeId}{z0:D}(hz:zeroD P (melP P t)=z0)(op:Int)(l:List (Int×Shape))(KS:z0=.agg (iO w8)):gotD P t true (lookD (.int .u8 op) (pV l))=.tup [.agg (iO ((fw l op).getD w8)),.s (.bool (fw l op).isSome)]:=by
 have h:=OA op l
 cases h1:lookD (.int .u8 op) (pV l) with
 |none=>
  rw[h1] at h
  have:fw l op=none:=by simpa using h.symm
  simp only[gotD,this,hz,KS,Option.getD_none,Option.isSome_none,if_true]
 |some x=>
  rw[h1] at h
  cases h2:fw l op with
  |none=>rw[h2] at h;simp at h
  |some s=>
   rw[h2] at h
   obtain⟨i,d⟩:=x
   simp only[Option.map_some,Option.some.injEq] at h
   subst h
   simp[gotD]
theorem Oq{P:Program}{kt:TypeId}(hk:P.underlying kt=some (.int .u8))(l:List (Int×Shape)):(pV l).all (fun e=>keyP P kt e.1)=true:=by
 refine List.all_eq_true.2 fun x hx=>?_
 obtain⟨y,_,rfl⟩:=List.mem_map.1 hx
 simp[keyP,hk]
def aI(a b:Int):Bool:=decide (a=b)
def iT(x:a8):Bool:=decide ((x.args.length:Int)=0)
def iB(f:az)(b:Int)(x:a8)(phis:Bool)(ahead:Int):Bool:=
 if x.op=16 then aI x.to 0&&(aI (bO f.af x.a) 3&&(aI x.b 0&&(aI x.n 0&&iT x)))
 else if x.op=17 then aI x.a 0&&(aI x.b 0&&(iT x&&kQ f.af f.aL x.to x.n))
 else if x.op=18 then aI x.to 0&&(aI x.b 0&&(iT x&&kQ f.af f.aL x.a x.n))
 else if x.op=19 then phis&&(decide (0<b)&&(dW f.af x.to&&(aI x.a 0&&(aI x.b 0&&(aI x.n 0&&(aI x.args.length ahead&& !x.args.any fun r=> !aI (bO f.af r) (bO f.af x.to)))))))
 else(fw nu x.op).isSome&&n8 f.af x ((fw nu x.op).getD w8)
def BG(x:a8):Bool:=decide (x.op=0)&&(decide (x.to=0)&&(decide (x.a=0)&&(decide (x.b=0)&&(decide (x.n=0)&&decide ((x.args.length:Int)=0)))))
def xF(x:End):Bool:=decide (x.kind=0)&&(decide (x.a=0)&&(decide (x.b=0)&&(decide (x.to=0)&&(decide (x.fC=0)&&(x.name.toList==[]&&(decide (x.bX= -1)&&(decide ((x.args.length:Int)=0)&&(decide ((x.aD.length:Int)=0)&&BG x.ins))))))))
def bF(f:az)(n:Int):Bool:=cu n 0 (f.blocks.length - 1)
def nE(f:az)(ws:List jv)(i:Nat)(w:jv):Bool:=isName w.name&&(bF f w.to&& !(ws.take i).any fun v=>v.name.toList==w.name.toList)
def Eu(f:az)(ws:List jv):Bool:=ws.zipIdx.all fun x=>nE f ws x.2 x.1
theorem Md{f:az}{ws:List jv}(h:∀ (i:Nat) w,ws[i]? =some w->nE f ws i w=true):Eu f ws=true:=by
 refine List.all_eq_true.2 fun x hx=>?_
 obtain⟨h1,h2⟩:=List.mem_zipIdx' hx
 exact h x.2 x.1 (by rw[h2];simp[h1])
theorem GB{f:az}{ws:List jv}{i:Nat}{w:jv}(hw:ws[i]? =some w)(h:nE f ws i w=false):Eu f ws=false:=by
 refine Bool.eq_false_iff.2 fun ht=>?_
 have hx:(w,i)∈ws.zipIdx:=List.mem_zipIdx_iff_getElem?.2 hw
 have:=List.all_eq_true.1 ht _ hx
 rw[h] at this
 cases this
def lB(f:az)(x:End):Bool:=Eu f x.aD&&(decide ((x.aD.length:Int)<=7)&&(decide (x.bX= -1)||bF f x.bX))
def dx:a8:=⟨0,0,0,0,0,[]⟩
def fG(f:az)(x:End):Bool×End:=
 let r:End:={ x with kind:=0 }
 if x.kind=1 then(bF f x.to,{ r with to:=0 })
 else if x.kind=2 then(aI (bO f.af x.a) 1&&(bF f x.to&&bF f x.fC),{ r with a:=0,to:=0,fC:=0 })
 else if x.kind=3 then(if f.result≠0/\f.iter=false then aI (bO f.af x.a) f.result else aI x.a (-1),{ r with a:=0 })
 else if x.kind=4 then(isName x.name,{ r with name:=.empty })
 else if x.kind=5 then((fw iS x.ins.op).isSome&&(n8 f.af x.ins ((fw iS x.ins.op).getD w8)&&(bF f x.to&&lB f x)),{ r with ins:=dx,to:=0,aD:=[],bX:= -1 })
 else if x.kind=6 then(kq x.name&&(decide ((x.args.length:Int)<=6)&&(fO f.af x.args&&((aI x.a (-1)||dW f.af x.a)&&(bF f x.to&&lB f x)))),{ r with name:=.empty,args:=[],a:=0,to:=0,aD:=[],bX:= -1 })
 else if x.kind=7 then(kq x.name&&(decide ((x.args.length:Int)<=6)&&(fO f.af x.args&&(aI (bO f.af x.a) 3&&bF f x.to))),{ r with name:=.empty,args:=[],a:=0,to:=0 })
 else if x.kind=8 then(aI (bO f.af x.a) 3&&(dW f.af x.b&&(bF f x.to&&(bF f x.fC&&lB f x))),{ r with a:=0,b:=0,to:=0,fC:=0,aD:=[],bX:= -1 })
 else if x.kind=9 then(f.iter&&(aI (bO f.af x.a) f.result&&bF f x.to),{ r with a:=0,to:=0 })
 else(false,r)
def aH(l:List Int)(n:Int):Bool:=l.any fun c=>n==c
def jE(n:Int):Int:=1200+n
def lA:List Int:=[1,2,3,4,5,6,7,8,9,10,11,13,14,17,19]
def nj:List Int:=[30,31,32,33,34,36,37]
def cO(x:a8):Int:=if aH lA x.op then x.to else if aH nj x.op then x.to else -1
def dQ(x:End):Int:=if x.kind=5 then cO x.ins else if aH [6,7] x.kind then x.a else if x.kind=8 then x.b else -1
def nr:List Int:=[2,8,11,13,14,15,16,18,36]
def qq:List Int:=[3,4,5,6,7,12,30,31,32,33,34,35,37]
def bS(x:a8):List Int:=if aH nr x.op then [x.a] else if aH qq x.op then [x.a,x.b] else if x.op=10 then x.args else if x.op=38 then x.a::x.b::x.args else []
def bR(x:End):List Int:=if aH [2,8,9] x.kind then [x.a] else if x.kind=3 then(if x.a≠ -1 then [x.a] else []) else if x.kind=5 then bS x.ins else if aH [6,7] x.kind then x.args else []
def iR(f:az)(x:End):Bool:=(fG f x).1&&xF (fG f x).2
end Go.Argus
