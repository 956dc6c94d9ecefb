/- Part 2 of the proof; the last part says what is proved. -/
import Derived.Test.YtonoegleildfnaaGreatLive1
import Derived.IntWalk
import Derived.RangeFuncRecord
import Derived.Scope
import Derived.Test.YtonoegleildfnaaGreatChecked
namespace Go.Abs
section
variable{P:Program}{F:Nat->Prop}
theorem Mh{β β':Pla}{w:World}{m:Mem}(hm:MSim P F m β w){i:Nat}{cs:List D}{e:TypeId}(aq:m i=some (.cells cs e))(hβ:β'=up β i (some .dead)){d:D}{v:Value}(h:R F β w d v):
 R F β' w (fz0 i cs (P.cellsOf e) d) v:=by
 have hs:Step β w β' w:=by rw[hβ];exact step_dead β w i
 have U:=h.step hs;obtain⟨p,hp,hr⟩:=hm.row i _ aq;unfold fz0;split
 .rename_i j off n;split
  .rename_i cv;subst cv;cases h with
   |rsd _ _ _ _ h1 _=>
    rw[h1] at hp;cases hp;cases hr
   |rsn _ a h1=>
    rw[h1] at hp;cases hp;cases hr;simp only[List.drop_nil,List.take_nil];exact .sln a 0
   |rsz _ _ a b o len room sz h1=>
    simp only[Nat.zero_mul,List.take_zero];exact .sln a 0
   |rs _ _ _ cap b o len room sz h1 hn eh h2 h3=>
    rw[h1] at hp;cases hp;have uT:β j=some (.cells b o len room sz):=h1;obtain⟨X,hl,bS,_⟩:=hr.rd;have J:=(X.drop off).take (n*P.cellsOf e);obtain⟨us,u1,u2⟩:=J;refine .sl _ n b (o+off) cap us (hm.nf j _ b uT rfl) ?_ (hm.lt j _ b uT rfl) hn eh u1 fun k d hk=>(u2 k d hk).step hs;rw[hβ];intro k q hq;by_cases C:k=j
    .subst C;rw[up_same] at hq;cases hq;simp[Pl.blk]
    .rw[up_ne _ _ C] at hq;exact hm.free_other uT rfl hq C
  .exact U
 .rename_i j off;split
  .rename_i cv;subst cv;cases h with
   |rpd _ _ _ h1 _=>
    rw[h1] at hp;cases hp;cases hr
   |rp _ _ b o len room sz h1=>
    rw[h1] at hp;cases hp;obtain⟨X,hl,bS,_⟩:=hr.rd;obtain⟨us,u1,u2⟩:=X.drop off;refine .pt _ b (o+off) us (hm.nf j _ b h1 rfl) ?_ (hm.lt j _ b h1 rfl) u1 fun k d hk=>(u2 k d hk).step hs;rw[hβ];intro k q hq;by_cases C:k=j
    .subst C;rw[up_same] at hq;cases hq;simp[Pl.blk]
    .rw[up_ne _ _ C] at hq;exact hm.free_other h1 rfl hq C
  .exact U
 .exact U
theorem YL{β β':Pla}{w:World}{m:Mem}(hm:MSim P F m β w){i:Nat}{es:List (Value×D)}(aq:m i=some (.map es))(X:β'=up β i (some .dead)){d:D}{v:Value}(h:R F β w d v):R F β' w (fm0 i es d) v:=by
 have J:Step β w β' w:=by rw[X];exact step_dead β w i
 unfold fm0;split
 .rename_i j;split
  .rename_i cv;subst cv;obtain⟨r,ms,clock,h1,rfl,h3,h4,h5,U⟩:=h.mp_inv hm aq;refine .im es r ms clock (hm.nf j _ r h1 rfl) ?_ h3 h4 h5 (fun k x m hx hm=>(U k x m hx hm).1) fun k x m hx hm=>(U k x m hx hm).2.step J;rw[X];intro k q hq;by_cases C:k=j
   .subst C;rw[up_same] at hq;cases hq;simp[Pl.blk]
   .rw[up_ne _ _ C] at hq;exact hm.free_other h1 rfl hq C
  .exact h.step J
 .exact h.step J
section subst
variable{σ:D->D}{β β':Pla}{w:World}
theorem Lp(C:∀ {d v},R F β w d v->R F β' w (σ d) v){d:D}{v:Value}(h:R F β w d v):R F β' w (sub1 σ d) v:=by
 unfold sub1;split
 .rename_i ds;obtain⟨vs,rfl,hl,J⟩:=h.agg_inv;refine .agg _ vs (by simpa using hl) fun k d v hd hv=>?_;simp only[List.getElem?_map,Option.map_eq_some_iff] at hd;obtain⟨d',U,rfl⟩:=hd;exact C (J k d' v U hv)
 .cases h with
  |opt c d _ h1 h2=>exact .opt _ _ v (fun hc=>C (h1 hc)) h2
 .exact C h
theorem Gr(J:∀ {d v},R F β w d v->R F β' w (σ d) v){d:D}{v:Value}(h:R F β w d v):R F β' w (sub σ d) v:=by
 have map:∀ (ds:List D) (vs:List Value),(∀ (k:Nat) (d:D) (v:Value),ds[k]? =some d->vs[k]? =some v->R F β w d v)->
  ∀ (k:Nat) (d:D) (v:Value),(ds.map (sub1 σ))[k]? =some d->vs[k]? =some v->R F β' w d v:=fun ds vs C k d v hd hv=>by
  simp only[List.getElem?_map,Option.map_eq_some_iff] at hd;obtain⟨d',U,rfl⟩:=hd;exact Lp J (C k d' v U hv)
 unfold sub;split
 .rename_i ds;obtain⟨vs,rfl,hl,C⟩:=h.tup_inv;exact .tup _ vs (by simpa using hl) (map ds vs C)
 .rename_i f fs ds;cases h with
  |fn _ _ _ us vs hl kY h1 h2=>exact .fn f _ _ us vs (by simpa using hl) (by simpa using kY) (map fs us h1) (map ds vs h2)
 .exact Lp J h
theorem Z5(U:∀ {d v},R F β w d v->R F β' w (σ d) v)(hs:Step β w β' w){r:Row}{p:Pl}(h:RowR P F β w r p):RowR P F β' w (r.sub σ) p:=by
 cases h with
 |nil C=>exact .nil C
 |cells ds C b o room sz c hc hr hlen bS J=>
  have:=RowR.cells (P:=P) (F:=F) (β:=β') (w:=w) (ds.map (Abs.sub σ)) C b o room sz c hc hr (by simpa using hlen) bS fun k d hk=>by
   simp only[List.getElem?_map,Option.map_eq_some_iff] at hk;obtain⟨d',kZ,rfl⟩:=hk;obtain⟨v,h1,h2,h3⟩:=J k d' kZ;exact⟨v,h1,Gr U h2,h3⟩
  simpa[Row.sub] using this
 |map es r ms clock hc hl dm J=>
  refine .map _ r ms clock hc (by simpa using hl) (by simpa[List.map_map,Function.comp_def] using dm) fun k x mm hk X=>?_;simp only[List.getElem?_map,Option.map_eq_some_iff] at hk;obtain⟨x',tK,rfl⟩:=hk;obtain⟨h1,h2⟩:=J k x' mm tK X;exact⟨h1,Gr U h2⟩
 |raw r o hc=>exact .raw r o hc
 |ren f r _ F₂ h1 h2 h=>exact(RowR.ren f r p F₂ h1 h2 h).step hs fun _ _=>rfl
end subst
theorem KR{σ:D->D}{env:Env}{m:Mem}{nx i:Nat}{row:Row}(h:m i=some row){w:World}{a:Act}{β:Pla}(J:ef P F ⟨env,m,nx⟩ β w a)(hσ:∀ {d v},R F β w d v->R F (up β i (some .dead)) w (σ d) v):
 ∃ β',ef P F ⟨fun t=>sub σ (env t),fun j=>if j=i then none else(m j).map (Row.sub σ),nx⟩ β' w a/\gB nx β w a ⟨fun t=>sub σ (env t),fun j=>if j=i then none else(m j).map (Row.sub σ),nx⟩ β' w a:=by
 have X:=step_dead β w i;have hm:=J.m;simp only at hm
 have U:∀ j q b,up β i (some .dead) j=some q->q.blk=some b->j≠i/\β j=some q:=fun j q b hq e=>by
  by_cases hj:j=i
  .subst hj;rw[up_same] at hq;cases hq;simp[Pl.blk] at e
  .rw[up_ne _ _ hj] at hq;exact⟨hj,hq⟩
 have hi:∃ p,β i=some p:=by
  obtain⟨p,hp,_⟩:=hm.row i _ h;exact⟨p,hp⟩
 refine⟨up β i (some .dead),⟨fun t=>Gr hσ (J.e t),⟨fun j r hj=>?_,fun j k q q' b hq fV e1 e2=>hm.inj j k q q' b (U j q b hq e1).2 (U k q' b fV e2).2 e1 e2,
  fun j q b hq e1=>hm.lt j q b (U j q b hq e1).2 e1,fun j q b hq e1=>hm.nf j q b (U j q b hq e1).2 e1,hm.fb⟩,fun j hj=>?_⟩,⟨X,Nat.le_refl _,fun j hj hn=>?_,rfl,rfl⟩⟩
 .simp only at hj;by_cases C:j=i
  .rw[if_pos C] at hj;cases hj
  .rw[if_neg C] at hj;simp only[Option.map_eq_some_iff] at hj;obtain⟨r',fB,rfl⟩:=hj;obtain⟨q,hq,aq⟩:=hm.row j r' fB;exact⟨q,by rw[up_ne _ _ C];exact hq,Z5 hσ X aq⟩
 .have C:j≠i:=fun e1=>by
   subst e1;obtain⟨p,hp⟩:=hi;rw[J.n j hj] at hp;cases hp
  rw[up_ne _ _ C];exact J.n j hj
 .have C:j≠i:=fun e1=>by
   subst e1;obtain⟨p,hp⟩:=hi;rw[hn] at hp;cases hp
  rw[up_ne _ _ C];exact hn
theorem YM{β:Pla}{w:World}{cs cs':List D}{e:TypeId}{p:Pl}(hl:cs'.length=cs.length)(U:∀ (k:Nat) (d d':D),cs[k]? =some d->cs'[k]? =some d'->Wk d d')(h:RowR P F β w (.cells cs e) p):RowR P F β w (.cells cs' e) p:=by
 cases h with
 |nil _=>
  have:cs'=[]:=List.length_eq_zero_iff.1 (by simpa using hl);subst this;exact .nil e
 |cells _ _ b o room sz c hc hr hlen bS J=>
  rw[<- hl];refine .cells cs' e b o room sz c hc hr oG bS fun k d' C=>?_;have hk:k<cs.length:=by rw[<- hl];exact(List.getElem?_eq_some_iff.1 C).1
  obtain⟨v,h1,h2,h3⟩:=J k cs[k] (by simp[hk]);exact⟨v,h1,U k cs[k] d' (by simp[hk]) C _ _ _ _ h2,h3⟩
theorem KS{st st':St}(h:Ghost P st st'){w:World}{a:Act}:∀ {β:Pla},ef P F st β w a->∃ β',ef P F st' β' w a/\gB st.nx β w a st' β' w a:=by
 induction h with
 |refl st=>exact fun {β} C=>⟨β,C,gB.refl st β w a⟩
 |trans _ _ ih₁ ih₂=>
  intro β C;obtain⟨β₁,h1,h2⟩:=ih₁ C;obtain⟨β₂,h3,h4⟩:=ih₂ h1;exact⟨β₂,h3,h2.trans h4⟩
 |forget env env' m nx h=>
  intro β C;refine⟨β,⟨fun t=>?_,C.m,C.n⟩,⟨Step.refl β w,Nat.le_refl _,fun _ _ h=>h,rfl,rfl⟩⟩;rcases h t with h1|h1
  .simp only[h1];exact C.e t
  .simp only[h1];exact .u _
 |drop env m m' nx h=>
  intro β C;refine⟨β,⟨C.e,⟨fun i r hi=>?_,C.m.inj,C.m.lt,C.m.nf,C.m.fb⟩,C.n⟩,⟨Step.refl β w,Nat.le_refl _,fun _ _ h=>h,rfl,rfl⟩⟩;rcases h i with h1|h1
  .exact C.m.row i r (h1.symm.trans hi)
  .simp only at hi;rw[h1] at hi;cases hi
 |weak env env' m m' nx h ek=>
  intro β C;refine⟨β,⟨fun t=>h t _ _ _ _ (C.e t),⟨fun i r hi=>?_,C.m.inj,C.m.lt,C.m.nf,C.m.fb⟩,C.n⟩,⟨Step.refl β w,Nat.le_refl _,fun _ _ h=>h,rfl,rfl⟩⟩;rcases ek i with h1|⟨cs,cs',e,h1,h2,h3,h4⟩
  .exact C.m.row i r (h1.symm.trans hi)
  .simp only at hi;rw[h2] at hi;cases hi;obtain⟨p,hp,hr⟩:=C.m.row i _ h1;exact⟨p,hp,YM h3 h4 hr⟩
 |freeze env m nx i cs e h=>
  intro β C;exact KR h C fun hr=>Mh C.m h rfl hr
 |freezeM env m nx i es h=>
  intro β C;exact KR h C fun hr=>YL C.m h rfl hr
 |nilrow env m nx t e h=>
  intro β C;have hm:=C.m;have hn:β nx=none:=C.n nx (Nat.le_refl _);simp only at hm
  have J:∀ j q b,up β nx (some .nil) j=some q->q.blk=some b->j≠nx/\β j=some q:=fun j q b hq e=>by
   by_cases hj:j=nx
   .subst hj;rw[up_same] at hq;cases hq;simp[Pl.blk] at e
   .rw[up_ne _ _ hj] at hq;exact⟨hj,hq⟩
  have U:Step β w (up β nx (some .nil)) w:=by
   refine⟨Nat.le_refl _,fun b _ hf=>⟨rfl,fun j q hq e1=>?_⟩,fun j q hq=>.inl ?_,rfl,rfl⟩
   .exact hf j q (J j q b hq e1).2 e1
   .rw[up_ne _ _ (fun e1=>by rw[e1,hn] at hq;cases hq)];exact hq
  refine⟨up β nx (some .nil),⟨fun u=>?_,⟨fun j r hj=>?_,fun j k q q' b hq fV e1 e2=>hm.inj j k q q' b (J j q b hq e1).2 (J k q' b fV e2).2 e1 e2,
   fun j q b hq e1=>hm.lt j q b (J j q b hq e1).2 e1,fun j q b hq e1=>hm.nf j q b (J j q b hq e1).2 e1,hm.fb⟩,fun j hj=>?_⟩,⟨U,Nat.le_succ _,fun j hj hb=>?_,rfl,rfl⟩⟩
  .by_cases hu:u=t
   .subst hu;have h1:=C.e u;simp only at h1;rw[h] at h1;obtain⟨x,hx⟩:=h1.z_inv;simp only[up_same,hx];exact .rsn nx x (up_same _ _ _)
   .simp only[up_ne _ _ hu];exact(C.e u).step U
  .simp only at hj;by_cases X:j=nx
   .subst X;rw[up_same] at hj;cases hj;exact⟨.nil,up_same _ _ _,.nil e⟩
   .rw[up_ne _ _ X] at hj;obtain⟨q,hq,aq⟩:=hm.row j r hj;exact⟨q,by rw[up_ne _ _ X];exact hq,aq.step U fun _ _=>rfl⟩
  .simp only at hj;rw[up_ne _ _ (show j≠nx by omega)];exact C.n j (by simp only;omega)
  .simp only at hj;rw[up_ne _ _ (show j≠nx by omega)];exact hb
def jM(N:Nat):Code->Bool
 | .region _ ops _=>wH N ops
 | .seq a b=>jM N a&&jM N b
 | .cond _ a b=>jM N a&&jM N b
 | .block _ b=>jM N b
 | .loop b=>jM N b
 | .scope b=>jM N b
 | .rangeFunc _ ps a b=>(ps.toList.all fun t=>Nat.blt t N)&&(jM N a&&jM N b)
 |_=>true
theorem Wd{Fc:Fence}{n:Nat}{Q:Exit->Act->World->Prop}{c:Code}(J:Nat->Act->World->Prop){j₀:Nat}{a:Act}{w:World}(h₀:J j₀ a w)
 (round:∀ j a w,J j a w->c.wpIn Fc n P (Exit.then (fun a' w'=>∃ j',j'<j/\J j' a' w') Q) a w):(Code.loop c).wpIn Fc n P Q a w:=by
 intro b k cs Js hb hr
 have key:∀ j a w,J j a w->
  ∃ e a' w',Q e a' w'/\ArrivesIn (Machine.fenced P Fc) P (lone (b.atR a (.code c::.inLoop c::k)) cs w) b k cs e a' w':=by
  intro j
  induction j using Nat.strongRecOn with
  |_ j ih=>
   intro a w hI;obtain⟨e,U,X,hq,C⟩:=round j a w hI b (.inLoop c::k) cs Js hb hr;cases e with
   |normal=>
    obtain⟨j',ao,hI₁⟩:=hq;obtain⟨e₂,a₂,w₂,hq₂,abH⟩:=ih j' ao U X hI₁;exact⟨e₂,a₂,w₂,hq₂,.of_steps (StepsIn.trans C (.one (fenced_calm hb hr rfl) stepR_inLoop)) abH⟩
   |exit id=>exact⟨_,U,X,hq,.pass (x:=.inLoop c) rfl (fun _ _=>.inl oS) C⟩
   |goto l=>exact⟨_,U,X,hq,.pass (x:=.inLoop c) rfl (fun _ _=>.inl oS) C⟩
   |ret=>exact⟨_,U,X,hq,.pass (x:=.inLoop c) rfl (fun _ _=>.inl oS) C⟩
   |panic ch=>exact⟨_,U,X,hq,.pass (x:=.inLoop c) rfl (fun _ _=>.inl oS) C⟩
   |outgrown=>exact⟨_,U,X,hq,.pass (x:=.inLoop c) rfl (fun _ _=>.inl oS) C⟩
 obtain⟨e,a',w',hq,C⟩:=key _ a w h₀;exact⟨e,a',w',hq,.of_steps (.one (fenced_calm hb hr rfl) stepR_loop) C⟩
def mark(b:Nat):Deferred:={ target:=.collected b,args:= #[] }
def Marks(β:Pla)(w:World)(lo:Nat):List Deferred->Nat->Prop
 |[],_=>True
 |d::ds,hi=>∃ b,d=mark b/\lo<=b/\b<hi/\w.heap[b]? =some (.deferred (some []))/\β.free b/\Marks β w lo ds b
theorem Marks.step{β β':Pla}{w w':World}(C:Step β w β' w'){lo:Nat}:∀ {ds:List Deferred} {hi:Nat},hi<=w.heap.size->Marks β w lo ds hi->Marks β' w' lo ds hi
 |[],_,_,_=>trivial
 |d::ds,hi,hle,⟨b,h1,h2,h3,h4,h5,h6⟩=>by
  obtain⟨J,U⟩:=C.imm b oG h5;exact⟨b,h1,h2,h3,J.trans h4,U,Marks.step C oG h6⟩
theorem Marks.mono{β:Pla}{w:World}{lo hi C:Nat}(h:hi<=C):∀ {ds:List Deferred},Marks β w lo ds hi->Marks β w lo ds C
 |[],_=>trivial
 |_::_,⟨b,h1,h2,h3,h4⟩=>⟨b,h1,h2,by omega,h4⟩
theorem Marks.append{β:Pla}{w:World}{lo mid:Nat}(J:lo<=mid){C:List Deferred}:∀ {ds:List Deferred} {hi:Nat},mid<=hi->Marks β w mid ds hi->Marks β w lo C mid->Marks β w lo (ds++C) hi
 |[],_,hle,_,h'=>Marks.mono hle h'
 |_::_,_,_,⟨b,h1,h2,h3,h4,h5,h6⟩,h'=>⟨b,h1,by omega,h3,h4,h5,Marks.append J h2 h6 h'⟩
structure pR(N:Nat)(β:Pla)(w:World)(a:Act)(st':St)(β':Pla)(w':World)(a':Act):Prop where
 step:Step β w β' w'
 le:N<=st'.nx
 grow:∀ i,i<N->β i=none->β' i=none
 size:a'.tmps.size=a.tmps.size
 defers:∃ ds,a'.defers=ds++a.defers/\Marks β' w' w.heap.size ds w'.heap.size
theorem gB.xm{N:Nat}{β β':Pla}{w w':World}{a a':Act}{st':St}(h:gB N β w a st' β' w' a'):pR N β w a st' β' w' a':=
 ⟨h.step,h.le,h.grow,h.size,[],h.defers,trivial⟩
theorem pR.trans{N:Nat}{β β₁ β₂:Pla}{w w₁ w₂:World}{a C J:Act}{U X:St}(h:pR N β w a U β₁ w₁ C)(k:pR U.nx β₁ w₁ C X β₂ w₂ J):pR N β w a X β₂ w₂ J:=by
 obtain⟨ds,e1,h1⟩:=h.defers;obtain⟨vh,e2,h2⟩:=k.defers
 exact⟨h.step.trans k.step,Nat.le_trans h.le k.le,fun i hi hn=>k.grow i (Nat.lt_of_lt_of_le hi h.le) (h.grow i hi hn),k.size.trans h.size,vh++ds,by rw[e2,e1,List.append_assoc],
  Marks.append h.step.size k.step.size h2 (h1.step k.step (Nat.le_refl _))⟩
theorem pR.since{N:Nat}{β β₁ β₂:Pla}{w w₁ w₂:World}{a C J:Act}{U X:St}(h:pR N β w a U β₁ w₁ C)(k:gB U.nx β₁ w₁ C X β₂ w₂ J):pR N β w a X β₂ w₂ J:=h.trans k.xm
def abI(P:Program)(F:Nat->Prop)(N:Nat)(β:Pla)(w:World)(a:Act)(Q:Exit->St->Prop)(e:Exit)(a':Act)(w':World):Prop:=
 ∃ st' β',Q e st'/\ef P F st' β' w' a'/\pR N β w a st' β' w' a'
theorem YCall.base{J:Pla}{C:World}{β:Pla}{w:World}(X:Step J C β w){l:Nat}{args:List D}{m:Mem}{nx:Nat}{K:D->Mem->Nat->Prop}(h:YCall P F J C l args m nx K):YCall P F β w l args m nx K:=
 fun β' w' us U=>h β' w' us (X.trans U)
theorem free_other{β:Pla}{i:Nat}{p:Option Pl}{b:Nat}(h:β.free b)(hp:∀ q,p=some q->q.blk≠some b):Pla.free (up β i p) b:=fun j q hq=>by
 by_cases hj:j=i
 .subst hj;rw[up_same] at hq;exact hp q hq
 .rw[up_ne _ _ hj] at hq;exact h j q hq
theorem R.sj{β:Pla}{w:World}{l:Nat}(hF:F l)(o:Obj){d:D}{v:Value}(h:R F β w d v):R F β (w.putObj l o) d v:=
 h.gen oS (fun b _ hb hf=>⟨same_of (World.putObj_heap_other fun e=>hb (e▸hF)),hf,hb⟩) fun _ _ _ h=>.inl h
theorem RowR.sj{β:Pla}{w:World}{l:Nat}(hF:F l)(o:Obj){r:Row}{p:Pl}(hp:∀ b,p.blk=some b->b≠l)(h:RowR P F β w r p):RowR P F β (w.putObj l o) r p:=
 h.gen oS (fun b _ hb hf=>⟨same_of (World.putObj_heap_other fun e=>hb (e▸hF)),hf,hb⟩) (fun _ _ _ h=>.inl h) fun b hb=>World.putObj_heap_other (hp b hb)
theorem MSim.sj{m:Mem}{β:Pla}{w:World}{l:Nat}(hF:F l)(o:Obj)(h:MSim P F m β w):MSim P F m β (w.putObj l o):=
 ⟨fun i r hi=>by
  obtain⟨p,hp,hr⟩:=h.row i r hi
  exact⟨p,hp,hr.sj hF o fun b hb e=>h.nf i p b hp hb (e▸hF)⟩,h.inj,fun i p b hp hb=>by simpa using h.lt i p b hp hb,h.nf,fun b hb=>by simpa using h.fb b hb⟩
theorem ef.sj{st:St}{β:Pla}{w:World}{a:Act}{l:Nat}(hF:F l)(o:Obj)(h:ef P F st β w a):ef P F st β (w.putObj l o) a:=
 ⟨fun t=>(h.e t).sj hF o,h.m.sj hF o,h.n⟩
theorem R.weak{F':Nat->Prop}(hF:∀ b,F' b->F b){β:Pla}{w:World}{d:D}{v:Value}(h:R F β w d v):R F' β w d v:=
 h.gen (Nat.le_refl _) (fun b _ hb hf=>⟨SameB.refl w b,hf,fun e=>hb (hF b e)⟩) fun _ _ _ h=>.inl h
theorem MSim.weak{F':Nat->Prop}(hF:∀ b,F' b->F b){m:Mem}{β:Pla}{w:World}(h:MSim P F m β w):MSim P F' m β w:=
 ⟨fun i r hi=>by
  obtain⟨p,hp,hr⟩:=h.row i r hi
  exact⟨p,hp,hr.gen (Nat.le_refl _) (fun b _ hb hf=>⟨SameB.refl w b,hf,fun e=>hb (hF b e)⟩) (fun _ _ _ h=>.inl h) fun _ _=>rfl⟩,h.inj,h.lt,fun i p b hp hb e=>h.nf i p b hp hb (hF b e),fun b hb=>h.fb b (hF b hb)⟩
theorem Mi{β:Pla}{b:Nat}(h:¬ β.free b):∃ i p,β i=some p/\p.blk=some b:=by
 unfold Pla.free at h;simp only[Classical.not_forall] at h;obtain⟨i,p,hp,hb⟩:=h;exact⟨i,p,hp,Decidable.not_not.1 hb⟩
structure View(il n₀:Nat)(f:Nat->Option Nat)(mc:Mem)(nc:Nat)(m:Mem)(nx:Nat):Prop where
 low:n₀<=nc
 lt:il<nx
 id:∀ i,i<n₀->f i=some i
 EU:∀ i,i<nc->∃ j,f i=some j/\j<nx/\j≠il
 out:∀ i,nc<=i->f i=none
 inj:∀ i i' j,f i=some j->f i'=some j->i=i'
 rows:∀ i r,mc i=some r->∃ j,f i=some j/\m j=some (r.renB f)
theorem View.uU{il n₀:Nat}{f:Nat->Option Nat}{mc:Mem}{nc:Nat}{m:Mem}{nx:Nat}(h:View il n₀ f mc nc m nx){i j:Nat}(hf:f i=some j):i<nc/\j<nx/\j≠il:=by
 rcases Nat.lt_or_ge i nc with ao|C
 .obtain⟨j',h1,h2,h3⟩:=h.EU i ao;rw[hf] at h1;cases h1;exact⟨ao,h2,h3⟩
 .rw[h.out i C] at hf;cases hf
theorem View.ext{il n₀:Nat}{f:Nat->Option Nat}{mc:Mem}{nc:Nat}{m m':Mem}{nx nx':Nat}(h:View il n₀ f mc nc m nx)(C:nx<=nx')(he:∀ i,i<nx->m' i=m i):View il n₀ f mc nc m' nx':=
 ⟨h.low,Nat.lt_of_lt_of_le h.lt C,h.id,fun i hi=>by
  obtain⟨j,h1,h2,h3⟩:=h.EU i hi;exact⟨j,h1,by omega,h3⟩,h.out,h.inj,fun i r hi=>by
  obtain⟨j,h1,h2⟩:=h.rows i r hi
  exact⟨j,h1,(he j (h.uU h1).2.1).trans h2⟩⟩
theorem Xz{f:Nat->Option Nat}{m:Mem}{β:Pla}{w:World}(hm:MSim P F m β w){b:Nat}(h:hidden F β f b):b<w.heap.size:=by
 rcases h with h|⟨h,_⟩
 .exact hm.fb b h
 .obtain⟨i,p,hp,hb⟩:=Mi h;exact hm.lt i p b hp hb
theorem View.enter{il n₀:Nat}{f:Nat->Option Nat}{mc:Mem}{nc:Nat}{m:Mem}{nx:Nat}(h:View il n₀ f mc nc m nx){β:Pla}{w:World}(hm:MSim P F m β w):
 MSim P (hidden F β f) mc (β.via f) w/\∀ i,nc<=i->(β.via f) i=none:=by
 have look:∀ i p,(β.via f) i=some p->∃ j,f i=some j/\β j=some p:=fun i p hp=>Option.bind_eq_some_iff.1 hp;refine⟨⟨fun i r hi=>?_,fun i i' p q b hp hq e C=>?_,fun i p b hp e=>?_,fun i p b hp e hF=>?_,fun b hb=>Xz hm hb⟩,fun i hi=>?_⟩
 .obtain⟨j,h1,h2⟩:=h.rows i r hi;obtain⟨p,hp,hr⟩:=hm.row j _ h2;exact⟨p,by simp[Pla.via,h1,hp],hr.seen⟩
 .obtain⟨j,h1,h2⟩:=look i p hp;obtain⟨j',h3,h4⟩:=look i' q hq;have:=hm.inj j j' p q b h2 h4 e C;subst this;exact h.inj i i' j h1 h3
 .obtain⟨j,h1,h2⟩:=look i p hp;exact hm.lt j p b h2 e
 .obtain⟨j,h1,h2⟩:=look i p hp;rcases hF with hF|⟨_,hF⟩
  .exact hm.nf j p b h2 e hF
  .exact hF i p hp e
 .simp[Pla.via,h.out i hi]
theorem MSim.yW{m:Mem}{β:Pla}{w:World}{i l:Nat}{o:Obj}(h:MSim P F m β w)(hm:m i=some (.raw l o)):β i=some (.raw l)/\w.heap[l]? =some o/\¬ F l/\l<w.heap.size:=by
 obtain⟨p,hp,hr⟩:=h.row i _ hm;cases hr with
 |raw _ _ hc=>exact⟨hp,hc,h.nf i _ l hp rfl,h.lt i _ l hp rfl⟩
theorem View.Dx{il n₀:Nat}{f:Nat->Option Nat}{mc:Mem}{nc:Nat}{m:Mem}{nx:Nat}(h:View il n₀ f mc nc m nx){β:Pla}{w:World}(hm:MSim P F m β w){j:Nat}{p:Pl}{b:Nat}(hj:∀ i,f i≠some j)(hp:β j=some p)(hb:p.blk=some b):
 (β.via f).free b/\hidden F β f b:=by
 have C:(β.via f).free b:=fun i q hq e=>by
  obtain⟨j',h1,h2⟩:=Option.bind_eq_some_iff.1 hq;exact hj i (hm.inj j' j q p b h2 hp e hb▸h1)
 exact⟨C,.inr ⟨fun e=>e j p hp hb,C⟩⟩
structure r7(l:Nat)(β:Pla)(w:World)(β':Pla)(w':World):Prop where
 size:w.heap.size<=w'.heap.size
 imm:∀ b,b<w.heap.size->b≠l->β.free b->w'.heap[b]? =w.heap[b]? /\β'.free b
 keep:∀ i p,β i=some p->β' i=some p\/β' i=some .dead
 out:Out w w'
theorem Step.x{β β':Pla}{w w':World}(h:Step β w β' w')(l:Nat):r7 l β w β' w':=⟨h.size,fun b hb _=>h.imm b hb,h.keep,h.out⟩
theorem r7.trans{l:Nat}{β₁ β₂ β₃:Pla}{J U X:World}(h:r7 l β₁ J β₂ U)(k:r7 l β₂ U β₃ X):r7 l β₁ J β₃ X:=by
 refine⟨Nat.le_trans h.size k.size,fun b hb C hf=>?_,fun i p hp=>?_,h.out.trans k.out⟩
 .obtain⟨h1,h2⟩:=h.imm b hb C hf;obtain⟨k1,k2⟩:=k.imm b (Nat.lt_of_lt_of_le hb h.size) C h2;exact⟨k1.trans h1,k2⟩
 .rcases h.keep i p hp with h1|h1
  .exact k.keep i p h1
  .right;rcases k.keep i _ h1 with h2|h2<;>exact h2
theorem r7.put(l:Nat)(β:Pla)(w:World)(o:Obj):r7 l β w β (w.putObj l o):=⟨by simp,fun b _ C hf=>⟨World.putObj_heap_other C,hf⟩,fun _ _ h=>.inl h,rfl,rfl⟩
theorem Lq{n j:Nat}{f:Nat->Option Nat}(C:∀ i i' j,f i=some j->f i'=some j->i=i'):
 (∀ i,(List.range n).find? (fun i=>f i==some j)=some i->f i=some j/\i<n)/\(∀ i,i<n->f i=some j->(List.range n).find? (fun i=>f i==some j)=some i):=by
 refine⟨fun i hi=>⟨by simpa using List.find?_some hi,by simpa using List.mem_of_find?_eq_some hi⟩,fun i hi hf=>?_⟩;cases h:(List.range n).find? (fun i=>f i==some j) with
 |none=>
  have:=List.find?_eq_none.1 h i (by simpa using hi);simp[hf] at this
 |some k=>rw[C i k j hf (by simpa using List.find?_some h)]
theorem View.abJ{il n₀:Nat}{f:Nat->Option Nat}{mc:Mem}{nc:Nat}{m:Mem}{nx:Nat}(h:View il n₀ f mc nc m nx){β:Pla}{w:World}(hm:MSim P F m β w)(hn:∀ i,nx<=i->β i=none){l:Nat}{o o':Obj}(hl:m il=some (.raw l o))
 {m':Mem} {U:Nat} {β':Pla} {w':World} (jv:MSim P (hidden F β f) m' β' w') (hs:r7 l (β.via f) w β' w') (cY:∀ i,U<=i->β' i=none) (hle:nc<=U) (hg:∀ i,i<nc->(β.via f) i=none->β' i=none) (ho:w'.heap[l]? =some o'):
 ∃ C X pG J,View il n₀ C m' U X pG/\X il=some (.raw l o')/\MSim P F X J w'/\(∀ i,pG<=i->J i=none)/\Step β w J w'/\nx<=pG/\∀ i,i<nx->β i=none->J i=none:=by
 obtain⟨Jt,ns,pS,ao⟩:=hm.yW hl
 let C:Nat->Option Nat:=fun i=>if i<nc then f i else if i<U then some (nx+(i - nc)) else none
 have Bq:∀ i,i<nc->C i=f i:=fun i hi=>by simp[C,hi]
 have HL:∀ i,nc<=i->i<U->C i=some (nx+(i - nc)):=fun i h1 h2=>by simp[C,h2,Nat.not_lt.2 h1]
 have QW:∀ i,U<=i->C i=none:=fun i h1=>by simp[C,Nat.not_lt.2 h1,Nat.not_lt.2 (Nat.le_trans hle h1)]
 have wk:∀ i j,C i=some j->(f i=some j/\i<nc/\j<nx)\/(nc<=i/\i<U/\j=nx+(i - nc)):=fun i j hf=>by
  rcases Nat.lt_or_ge i nc with h1|h1
  .rw[Bq i h1] at hf;exact .inl ⟨hf,h.uU hf |>.1,(h.uU hf).2.1⟩
  .rcases Nat.lt_or_ge i U with h2|h2
   .rw[HL i h1 h2] at hf;cases hf;exact .inr ⟨h1,h2,rfl⟩
   .rw[QW i h2] at hf;cases hf
 have HM:∀ i i' j,C i=some j->C i'=some j->i=i':=fun i i' j h1 h2=>by
  rcases wk i j h1 with⟨a1,a2,a3⟩|⟨a1,a2,a3⟩<;>rcases wk i' j h2 with⟨b1,b2,b3⟩|⟨b1,b2,b3⟩
  .exact h.inj i i' j a1 b1
  .omega
  .omega
  .omega
 let inv:Nat->Option Nat:=fun j=>(List.range U).find? fun i=>C i==some j
 have wT:∀ i j,inv j=some i->C i=some j:=fun i j hi=>((Lq HM).1 i hi).1;have IA:∀ i j,C i=some j->inv j=some i:=fun i j hf=>(Lq HM).2 i (by rcases wk i j hf with h1|h1<;>omega) hf
 have aiq:∀ j,inv j=none->∀ i,f i≠some j:=fun j hj i hf=>by
  have:=IA i j (by rw[Bq i (h.uU hf).1];exact hf);rw[hj] at this;cases this
 let J:Pla:=fun j=>match inv j with|some i=>β' i|none=>β j
 let X:Mem:=fun j=>match inv j with|some i=>(m' i).map (Row.renB C)|none=>if j=il then some (.raw l o') else m j
 have βs:∀ i j,C i=some j->J j=β' i:=fun i j hf=>by simp[J,IA i j hf]
 have βn:∀ j,inv j=none->J j=β j:=fun j hj=>by simp[J,hj]
 have aaY:inv il=none:=by
  cases hi:inv il with
  |none=>rfl
  |some i=>
   rcases wk i il (wT i il hi) with⟨a1,a2,a3⟩|⟨a1,a2,a3⟩
   .exact absurd rfl (h.uU a1).2.2
   .have:=h.lt;omega
 have via:J.via C=β':=by
  funext i;simp only[Pla.via];cases hf:C i with
  |some j=>exact βs i j hf
  |none=>
   rcases Nat.lt_or_ge i U with h1|h1
   .rcases Nat.lt_or_ge i nc with h2|h2
    .obtain⟨j,h3,_⟩:=h.EU i h2;rw[Bq i h2,h3] at hf;cases hf
    .rw[HL i h2 h1] at hf;cases hf
   .exact(cY i h1).symm
 have look:∀ j p,J j=some p->(∃ i,inv j=some i/\C i=some j/\β' i=some p)\/(inv j=none/\β j=some p):=fun j p hp=>by
  cases hi:inv j with
  |some i=>exact .inl ⟨i,rfl,wT i j hi,by rw[<- βs i j (wT i j hi)];exact hp⟩
  |none=>exact .inr ⟨rfl,by rw[<- βn j hi];exact hp⟩
 have air:∀ b,β.free b->b≠l:=fun b hb e=>hb il _ Jt (e▸rfl)
 have imm:∀ b,b<w.heap.size->β.free b->w'.heap[b]? =w.heap[b]? /\J.free b:=fun b hb hf=>by
  obtain⟨h1,h2⟩:=hs.imm b hb (air b hf) (Pla.free_via hf f);refine⟨h1,fun j p hp=>?_⟩;rcases look j p hp with⟨i,_,_,h4⟩|⟨_,h4⟩
  .exact h2 i p h4
  .exact hf j p h4
 have keep:∀ j p,β j=some p->J j=some p\/J j=some .dead:=fun j p hp=>by
  cases hi:inv j with
  |none=>exact .inl ((βn j hi).trans hp)
  |some i=>
   have hf:=wT i j hi;rw[βs i j hf];rcases wk i j hf with⟨a1,a2,a3⟩|⟨a1,a2,a3⟩
   .exact hs.keep i p (by simp[Pla.via,a1,hp])
   .rw[hn j oG] at hp;cases hp
 have own:∀ j p b,inv j=none->β j=some p->p.blk=some b->hidden F β f b/\(b≠l->b<w.heap.size/\w'.heap[b]? =w.heap[b]?):=fun j p b hj hp hb=>by
  obtain⟨h1,h2⟩:=h.Dx hm (aiq j hj) hp hb;exact⟨h2,fun aI=>⟨hm.lt j p b hp hb,(hs.imm b (hm.lt j p b hp hb) aI h1).1⟩⟩
 refine⟨C,X,nx+(U - nc),J,⟨Nat.le_trans h.low hle,by have:=h.lt;omega,fun i hi=>?_,fun i hi=>?_,QW,HM,fun i r hi=>?_⟩,?_,⟨fun j r hj=>?_,fun i j p q b hp hq e e'=>?_,fun j p b hp e=>?_,fun j p b hp e hF=>?_,fun b hb=>?_⟩,fun i hi=>?_,⟨hs.size,imm,keep,hs.out⟩,by omega,fun i hi hb=>?_⟩
 .rw[Bq i (Nat.lt_of_lt_of_le hi h.low)];exact h.id i hi
 .rcases Nat.lt_or_ge i nc with h1|h1
  .obtain⟨j,h2,h3,h4⟩:=h.EU i h1;exact⟨j,by rw[Bq i h1];exact h2,by omega,h4⟩
  .exact⟨_,HL i h1 hi,by omega,by have:=h.lt;omega⟩
 .obtain⟨p,hp,_⟩:=jv.row i r hi
  have:∃ j,C i=some j:=by
   rw[<- via] at hp;obtain⟨j,h1,_⟩:=Option.bind_eq_some_iff.1 hp;exact⟨j,h1⟩
  obtain⟨j,hj⟩:=this;exact⟨j,hj,by simp[X,IA i j hj,hi]⟩
 .simp[X,aaY]
 .cases hi:inv j with
  |some i=>
   simp only[X,hi,Option.map_eq_some_iff] at hj;obtain⟨r0,xq,rfl⟩:=hj;obtain⟨p,hp,hr⟩:=jv.row i r0 xq;refine⟨p,(βs i j (wT i j hi)).trans hp,RowR.hide (F':=hidden F β f) (by rw[via];exact hr) (fun b hb=>.inl hb) fun b g1 g2=>?_⟩;obtain⟨k,q,hq,UP⟩:=Mi g1;rcases look k q hq with⟨i',_,_,h4⟩|⟨h3,h4⟩
   .exact absurd UP (g2 i' q (by rw[via];exact h4))
   .exact(own k q b h3 h4 UP).1
  |none=>
   simp only[X,hi] at hj;split at hj
   .rename_i e;subst e;cases hj;exact⟨.raw l,(βn j hi).trans Jt,.raw l o' ho⟩
   .rename_i aI;obtain⟨p,hp,hr⟩:=hm.row j r hj;refine⟨p,(βn j hi).trans hp,hr.gen hs.size (fun b hb g1 g2=>⟨same_of (imm b hb g2).1,(imm b hb g2).2,g1⟩) (fun i p _=>keep i p) fun b hb=>?_⟩;exact((own j p b hi hp hb).2 fun e=>aI (hm.inj j il p _ b hp Jt hb (e▸rfl))).2
 .rcases look i p hp with⟨i',a1,a2,a3⟩|⟨a1,a2⟩<;>rcases look j q hq with⟨j',b1,b2,b3⟩|⟨b1,b2⟩
  .have:=jv.inj i' j' p q b a3 b3 e e';subst this;rw[a2] at b2;cases b2;rfl
  .exact absurd (own j q b b1 b2 e').1 (jv.nf i' p b a3 e)
  .exact absurd (own i p b a1 a2 e).1 (jv.nf j' q b b3 e')
  .exact hm.inj i j p q b a2 b2 e e'
 .rcases look j p hp with⟨i',a1,a2,a3⟩|⟨a1,a2⟩
  .exact jv.lt i' p b a3 e
  .exact Nat.lt_of_lt_of_le (hm.lt j p b a2 e) hs.size
 .rcases look j p hp with⟨i',a1,a2,a3⟩|⟨a1,a2⟩
  .exact jv.nf i' p b a3 e (.inl hF)
  .exact hm.nf j p b a2 e hF
 .exact Nat.lt_of_lt_of_le (hm.fb b hb) hs.size
 .cases dn:inv i with
  |none=>exact(βn i dn).trans (hn i oG)
  |some i0=>
   rcases wk i0 i (wT i0 i dn) with⟨a1,a2,a3⟩|⟨a1,a2,a3⟩<;>omega
 .cases dn:inv i with
  |none=>exact(βn i dn).trans hb
  |some i0=>
   have hf:=wT i0 i dn;rw[βs i0 i hf];rcases wk i0 i hf with⟨a1,a2,a3⟩|⟨a1,a2,a3⟩
   .exact hg i0 a2 (by simp[Pla.via,a1,hb])
   .omega
theorem K4{β:Pla}{w:World}:∀ (ts:List Tmp) (ds:List D) (vs:List Value) (env:Env) (tmps:Array Value),vs.length=ds.length->(∀ (k:Nat) (d:D) (v:Value),ds[k]? =some d->vs[k]? =some v->R F β w d v)->
 (∀ t,t∈ts->t<tmps.size)->ESim F β w env { tmps:=tmps,defers:=[] }->
 ESim F β w (setAll env ts ds) { tmps:=(ts.zip vs).foldl (fun tmps (t,a)=>tmps.setIfInBounds t a) tmps,defers:=[] }/\((ts.zip vs).foldl (fun tmps (t,a)=>tmps.setIfInBounds t a) tmps).size=tmps.size
 |[],_,_,env,tmps,_,_,_,h=>by simpa[setAll] using h
 |_::_,[],[],env,tmps,_,_,_,h=>by simpa[setAll] using h
 |_::_,[],_::_,_,_,hl,_,_,_=>by simp at hl
 |_::_,_::_,[],_,_,hl,_,_,_=>by simp at hl
 |t::ts,d::ds,v::vs,env,tmps,hl,hR,ao,h=>by
  have h1:ESim F β w (up env t d) { tmps:=tmps.setIfInBounds t v,defers:=[] }:=by
   have:=h.put (some t) d v (hR 0 d v rfl rfl) (fun u C=>by cases C;exact ao t oS);simpa[Act.put,up] using this
  have:=K4 ts ds vs (up env t d) (tmps.setIfInBounds t v) (by simpa using hl) (fun k d v hd hv=>hR (k+1) d v (by simpa using hd) (by simpa using hv)) (fun u C=>by simpa using ao u (by simp[C])) h1;simp only[setAll,List.zip_cons_cons,List.foldl_cons];exact⟨this.1,by rw[this.2];simp⟩
theorem z'{c:Code}{b:Frame}{a:Act}{k:List Item}{cs:List Frame}{w:World}:step P (lone (b.atR a (.code (.scope c)::k)) cs w)=.next (lone (b.atR a (.code c::.inScope c::k)) cs w):=
 step_lone_go (by simp[stepG,stepG.exec,Frame.atR])
theorem We{c:Code}{b:Frame}{a:Act}{k:List Item}{cs:List Frame}{w:World}:step P (lone (b.atR a (.inScope c::k)) cs w)=.next (lone (b.atR a k) cs w):=
 step_lone_go (by simp[stepG,stepG.exec,Frame.atR])
theorem CR{I:Machine->Prop}{m:Machine}{b:Frame}{c:Code}{k:List Item}{cs:List Frame}{e:Exit}{a:Act}{w:World}
 (hn:e≠ .normal) (hg:∀ l,e≠ .goto l) (h:ArrivesIn I P m b (.inScope c::k) cs e a w):ArrivesIn I P m b k cs e a w:=by
 cases e with
 |normal=>exact absurd rfl hn
 |exit id=>exact⟨fun C hk=>h.1 C (by simp[exitTo,hk]),fun hr hk=>h.2 hr (by simp[exitTo,hk])⟩
 |goto l=>exact absurd rfl (hg l)
 |ret=>exact h
 |panic chain=>exact h
 |outgrown=>exact h
theorem WG{X:Fence}{n:Nat}{Q:Exit->Act->World->Prop}{a:Act}{w:World}{c:Code}(h:c.wpIn X n P (Exit.noGoto Q) a w):(Code.scope c).wpIn X n P Q a w:=by
 intro b k cs Js hb hr;have h0:(lone (b.atR a (.code (.scope c)::k)) cs w).fenced P X:=fenced_calm hb hr rfl;obtain⟨e,C,U,hq,J⟩:=h b (.inScope c::k) cs Js hb hr;cases e with
 |normal=>exact⟨.normal,C,U,hq,.head h0 z' (StepsIn.trans J (.one (fenced_calm hb hr rfl) We))⟩
 |goto l=>exact hq.elim
 |exit id=>exact⟨.exit id,C,U,hq,.of_steps (.one h0 z') (CR (c:=c) oS oS J)⟩
 |ret=>exact⟨.ret,C,U,hq,.of_steps (.one h0 z') (CR (c:=c) oS oS J)⟩
 |panic ch=>exact⟨.panic ch,C,U,hq,.of_steps (.one h0 z') (CR (c:=c) oS oS J)⟩
 |outgrown=>exact⟨.outgrown,C,U,hq,.of_steps (.one h0 z') (CR (c:=c) oS oS J)⟩
def Jump(env:Env)(Q:Exit->St->Prop):Code->Mem->Nat->Prop
 | .ret,m,nx=>Q .ret ⟨env,m,nx⟩
 | .exit id,m,nx=>Q (.exit id) ⟨env,m,nx⟩
 |_,_,_=>False
def yO(il l:Nat)(n₀:Nat)(o:Obj)(I:Mem->Nat->Prop)(m:Mem)(nx:Nat):Prop:=∃ f mc nc,View il n₀ f mc nc m nx/\m il=some (.raw l o)/\I mc nc
theorem yO.closed{il l n₀:Nat}{o:Obj}{I:Mem->Nat->Prop}:Closed (yO il l n₀ o I):=by
 rintro m nx m' nx' ⟨f,mc,nc,h1,h2,h3⟩ C he;exact⟨f,mc,nc,h1.ext C he,(he il h1.lt).trans h2,h3⟩
theorem XA(ps:Array Tmp)(us:Array Value)(tmps:Array Value):
 (ps.zip us).foldl (fun tmps (t,a)=>tmps.setIfInBounds t a) tmps=(ps.toList.zip us.toList).foldl (fun tmps (t,a)=>tmps.setIfInBounds t a) tmps:=by
 rw[<- Array.foldl_toList];simp
theorem Wf{β:Pla}{w:World}{a:Act}{g:Operand}{f:FuncId}{fs cs:List D}(hR:R F β w (.fn (.func f) fs cs) (a.eval g))(he:enterOk P f=true)(l:Nat)(w':World):
 ∃ (us vs:List Value) (d:Deferred),us.length=fs.length/\vs.length=cs.length/\(∀ (k:Nat) (d:D) (v:Value),fs[k]? =some d->us[k]? =some v->R F β w d v)/\(∀ (k:Nat) (d:D) (v:Value),cs[k]? =some d->vs[k]? =some v->R F β w d v)/\
  (resolve a.eval (rangeCall g l) 0).run P w'=.ok d w'/\(invoke d.target d.args).run P w'=.ok (.enter f (us.toArray++ #[.func (.yield l) #[] #[]]++vs.toArray)) w':=by
 generalize hv:a.eval g=v at hR;cases hR with
 |fn _ _ _ us vs hl kY J C=>
 refine⟨us,vs,{ target:=.fn (.func f) vs.toArray,args:=us.toArray++ #[.func (.yield l) #[] #[]] },hl,kY,J,C,?_,?_⟩
 .simp only[resolve,hv,Sem.run_bind,Deferred.ofValue];simp[go_sem]
 .simp only[invoke];unfold callFunc;unfold enterOk at he;simp only[Sem.run_bind,run_program,Result.andThen_ok];split at he
  .rename_i fn U;simp only[Bool.and_eq_true,Bool.not_eq_true'] at he
   have hb:fn.body.isNone=false:=by
    cases X:fn.body<;>simp_all
   rw[U];simp only[he.1,hb,Bool.false_eq_true,if_false,Sem.run_pure]
  .cases he
theorem Rs.append{β:Pla}{w:World}{aS bs:List D}{xs ys:Array Value}(h:Rs F β w aS xs)(k:Rs F β w bs ys):Rs F β w (aS++bs) (xs++ys):=by
 refine⟨by simp[h.1,k.1],fun j d v hd hv=>?_⟩;rcases Nat.lt_or_ge j aS.length with hj|hj
 .rw[List.getElem?_append_left hj] at hd;rw[Array.getElem?_append_left (by rw[h.1];exact hj)] at hv;exact h.2 j d v hd hv
 .rw[List.getElem?_append_right hj] at hd;rw[Array.getElem?_append_right (by rw[h.1];exact hj),h.1] at hv;exact k.2 _ d v hd hv
theorem YN(my:P.follows .mixedOrders=true):∀ (c:Code) (F:Nat->Prop) (r:Option Nat) (n:Nat) (Y:YSpec) (rf:Bool) (N₀:Nat) (β₀:Pla) (w₀:World) (a₀:Act),(rf=true->r=none)->
 (∀ l args m nx K,Y l args m nx K->YCall P F β₀ w₀ l args m nx K)->jM a₀.tmps.size c=true->∀ (Q:Exit->St->Prop) (st:St) (β:Pla) (w:World) (a:Act),
 AW P Y rf c Q st->ef P F st β w a->pR N₀ β₀ w₀ a₀ st β w a->c.wpIn (Fe r) n P (abI P F N₀ β₀ w₀ a₀ Q) a w:=by
 intro c
 induction c with
 |skip=>exact fun F r n Y rf N₀ β₀ w₀ a₀ iq X _ Q st β w a h C U=>wpIn_skip ⟨st,β,h,C,U⟩
 |ret=>exact fun F r n Y rf N₀ β₀ w₀ a₀ iq X _ Q st β w a h C U=>wpIn_ret ⟨st,β,h,C,U⟩
 |exit id=>exact fun F r n Y rf N₀ β₀ w₀ a₀ iq X _ Q st β w a h C U=>wpIn_exit ⟨st,β,h,C,U⟩
 |label l=>exact fun F r n Y rf N₀ β₀ w₀ a₀ iq X _ Q st β w a h C U=>wpIn_label ⟨st,β,h,C,U⟩
 |region id ops draw=>
  intro F r n Y rf N₀ β₀ w₀ a₀ iq X ao Q st β w a h C U;have wU:wH a.tmps.size ops=true:=by rw[U.size];exact ao
  cases draw with
  |false=>
   refine wpIn_mono (Ws (N:=st.nx) (β₀:=β) (w₀:=w) (a₀:=a) (fun l args m nx K hy=>(X l args m nx K hy).base U.step) wU h C (gB.refl st β w a)) fun e a' w' hp=>?_;obtain⟨st',β',hq,dw,fU⟩:=hp;exact⟨st',β',hq,dw,U.since fU⟩
  |true=>
   simp only[AW] at h;split at h
   .rename_i cf qW;refine wpIn_mono (Wt (N₀:=st.nx) (β₀:=β) (w₀:=w) (a₀:=a) my qW wU h C (gB.refl st β w a)) fun e a' w' hp=>?_;obtain⟨st',β',hq,dw,fU⟩:=hp;exact⟨st',β',hq,dw,U.since fU⟩
   .exact h.elim
 |seq x y EV EW=>
  intro F r n Y rf N₀ β₀ w₀ a₀ iq X ao Q st β w a h C U;simp only[jM,Bool.and_eq_true] at ao;refine wpIn_seq (wpIn_mono (EV F r n Y rf N₀ β₀ w₀ a₀ iq X ao.1 _ st β w a h C U) fun e a' w' hp=>?_);obtain⟨st',β',hq,dw,fU⟩:=hp;cases e with
  |normal=>
   obtain⟨ic,hg,hy⟩:=hq;obtain⟨iR,wV,HN⟩:=KS hg dw;exact EW F r n Y rf N₀ β₀ w₀ a₀ iq X ao.2 Q ic iR w' a' hy wV (fU.since HN)
  |_=>exact⟨st',β',hq,dw,fU⟩
 |cond c x y EV EW=>
  intro F r n Y rf N₀ β₀ w₀ a₀ iq X ao Q st β w a h C U;simp only[jM,Bool.and_eq_true] at ao;obtain⟨ha,h⟩:=h;have hR:=(C.e.opd c).core_of _ ha;split at h
  .rename_i t ht;rw[ht] at hR;exact wpIn_cond_split hR.s_inv.1 (fun e=>EV F r n Y rf N₀ β₀ w₀ a₀ iq X ao.1 Q st β w a (h.1 e) C U) fun e=>EW F r n Y rf N₀ β₀ w₀ a₀ iq X ao.2 Q st β w a (h.2 e) C U
  .rename_i ht;rw[ht] at hR;obtain⟨b,hb⟩:=hR.ub_inv;exact wpIn_cond_split hb (fun _=>EV F r n Y rf N₀ β₀ w₀ a₀ iq X ao.1 Q st β w a h.1 C U) fun _=>EW F r n Y rf N₀ β₀ w₀ a₀ iq X ao.2 Q st β w a h.2 C U
  .exact h.elim
 |scope b ih=>
  intro F r n Y rf N₀ β₀ w₀ a₀ iq X ao Q st β w a h C U;refine WG (wpIn_mono (ih F r n Y rf N₀ β₀ w₀ a₀ iq X ao _ st β w a h C U) fun e a' w' hp=>?_);obtain⟨st',β',hq,dw,fU⟩:=hp;cases e with
  |goto l=>exact hq.elim
  |_=>exact⟨st',β',hq,dw,fU⟩
 |block id b ih=>
  intro F r n Y rf N₀ β₀ w₀ a₀ iq X ao Q st β w a h C U;refine wpIn_block (wpIn_mono (ih F r n Y rf N₀ β₀ w₀ a₀ iq X ao _ st β w a h C U) fun e a' w' hp=>?_);obtain⟨st',β',hq,dw,fU⟩:=hp;cases e with
  |exit i=>
   simp only[blockQ] at hq;simp only[Exit.inBlock];split at hq
   .rename_i hi;rw[if_pos hi];exact⟨st',β',hq,dw,fU⟩
   .rename_i hi;rw[if_neg hi];exact⟨st',β',hq,dw,fU⟩
  |_=>exact⟨st',β',hq,dw,fU⟩
 |loop b ih=>
  intro F r n Y rf N₀ β₀ w₀ a₀ iq X ao Q st β w a h C U;obtain⟨I,μ,hI,yP⟩:=h;refine Wd (fun j a w=>∃ st β,I st/\μ st=j/\ef P F st β w a/\pR N₀ β₀ w₀ a₀ st β w a) ⟨st,β,hI,rfl,C,U⟩ ?_;rintro j a w ⟨st,β,hI,hμ,C,U⟩;refine wpIn_mono (ih F r n Y rf N₀ β₀ w₀ a₀ iq X ao _ st β w a (yP st hI) C U) fun e a' w' hp=>?_;obtain⟨st',β',hq,dw,fU⟩:=hp;cases e with
  |normal=>
   obtain⟨jw,hg,oz,aoN⟩:=hq;obtain⟨iR,wV,HN⟩:=KS hg dw;exact⟨μ jw,by omega,jw,iR,oz,rfl,wV,fU.since HN⟩
  |_=>exact⟨st',β',hq,dw,fU⟩
 |rangeFunc g ps assign body vn vp=>
  intro F r n Y rf N₀ β₀ w₀ a₀ iq X ao Q st β w a h C U;obtain⟨env,mem,nx⟩:=st;obtain⟨IB,ni,f,fs,cs,xs,I,yX,Ej,DZ,EX,yP,uJ⟩:=h;simp only at ni yX EX yP uJ;have hr:=iq IB;subst hr;simp only[jM,Bool.and_eq_true,List.all_eq_true,Nat.blt_eq] at ao;obtain⟨xr,ais,ait⟩:=ao;have bS:a.tmps.size=a₀.tmps.size:=U.size;have hR:=(C.e.opd g).core_of _ ni;simp only[yX] at hR;refine wpIn_rangeFunc fun fn vg=>?_;obtain⟨J,tf⟩:∃ J:LoopState->Option Code->Loop,J=fun st pe=>{ state:=st,pending:=pe,fn,tmps:=a.tmps,params:=ps,assign,body,defers:=w.heap.size }:=⟨_,rfl⟩
  obtain⟨W1,B3⟩:∃ W1,(w.alloc (.deferred (some []))).alloc (.loop (J .ready none))=W1:=⟨_,rfl⟩
  obtain⟨us,vs,d,Ju,pT,hu,hv,lF,hinv⟩:=Wf (P:=P) hR Ej.1 (w.heap.size+1) W1;have hn:∀ i,nx<=i->β i=none:=C.n;have pS:¬ F (w.heap.size+1):=fun e=>by have:=C.m.fb _ e;omega
  let f₀:Nat->Option Nat:=fun i=>if i<nx then some i else none
  have Ti:β.via f₀=β:=by
   funext i;simp only[Pla.via,f₀];split
   .rfl
   .exact(hn i oG).symm
  have tL:MSim P F (fun i=>(mem i).map (Row.renB f₀)) β w:=⟨fun i r hi=>by
   simp only[Option.map_eq_some_iff] at hi;obtain⟨r0,h1,rfl⟩:=hi;obtain⟨p,hp,hr⟩:=C.m.row i r0 h1
   exact⟨p,hp,RowR.hide (F':=F) (by rw[Ti];exact hr) (fun _ h=>h) fun b g1 g2=>absurd (Ti▸g2) g1⟩,C.m.inj,C.m.lt,C.m.nf,C.m.fb⟩
  have vq:Step β w β (w.alloc (.deferred (some []))):=step_ext oS fun b hb=>heap_alloc_old w _ hb;have zz:MSim P F (fun i=>(mem i).map (Row.renB f₀)) β (w.alloc (.deferred (some []))):=tL.ext oS fun b hb=>heap_alloc_old w _ hb
  have EY:MSim P F (up (fun i=>(mem i).map (Row.renB f₀)) nx (some (.raw (w.heap.size+1) (.loop (J .ready none))))) (up β nx (some (.raw (w.heap.size+1)))) W1:=by
   rw[<- B3];refine zz.alloc (hn nx (Nat.le_refl _)) _ _ _ (fun b hb=>by simp only[Pl.blk,Option.some.injEq] at hb;simp;omega) (.raw _ _ ?_);have:=World.alloc_heap_new (w.alloc (.deferred (some []))) (.loop (J .ready none))
   rwa[World.size_alloc] at this
  have sD:Step β w (up β nx (some (.raw (w.heap.size+1)))) W1:=by
   rw[<- B3];exact vq.trans (step_alloc zz _ (hn nx (Nat.le_refl _)) _ (fun b hb=>by simp only[Pl.blk,Option.some.injEq] at hb;simp;omega))
  have hD1:W1.heap[w.heap.size]? =some (.deferred (some [])):=by
   rw[<- B3];rw[heap_alloc_old _ _ oS];exact World.alloc_heap_new w _
  have O3:Pla.free (up β nx (some (.raw (w.heap.size+1)))) w.heap.size:=
   free_other (fun i p hp e=>by have:=C.m.lt i p _ hp e;omega) (by rintro q hq;cases hq;simp[Pl.blk])
  have aoO:W1.heap.size=w.heap.size+2:=by rw[<- B3];simp
  have Z6:∀ i,nx<=i->mem i=none:=fun i hi=>by
   cases hm:mem i with
   |none=>rfl
   |some row=>
    obtain⟨p,hp,_⟩:=C.m.row i row hm;rw[hn i hi] at hp;cases hp
  have own:∀ {f:Nat->Option Nat} {mc:Mem} {nc:Nat} {m:Mem} {fW:Nat} {β2:Pla} {w2:World},View nx nx f mc nc m fW->Step (up β nx (some (.raw (w.heap.size+1)))) W1 β2 w2->
   ∀ {d:D} {v:Value},R F β w d v->R (hidden F β2 f) (β2.via f) w2 d v:=fun {_ _ _ _ _ _ _} iG aO {d v} h=>by
   have qL:=sD.trans aO;refine h.gen qL.size (fun b hb hf lA=>?_) fun i p _ hp=>?_
   .obtain⟨g1,g2⟩:=qL.imm b hb lA;exact⟨same_of g1,Pla.free_via g2 _,fun e=>e.elim hf fun e=>e.1 g2⟩
   .have hi:i<nx:=by
     rcases Nat.lt_or_ge i nx with h1|h1
     .exact h1
     .rw[hn i h1] at hp;cases hp
    simp only[Pla.via,iG.id i hi,Option.bind_some];exact qL.keep i p hp
  refine⟨w.heap.size+1,[mark w.heap.size],W1,d,W1,f,_,W1,?_,lF,fun f' _=>trivial,hinv,fun hd=>by simp at hd,Mj ?_⟩
  .rw[<- B3,tf];exact run_enterLoop_outer _ _ _ _ _
  refine(Ej.2 F (w.heap.size+1) (fun k=>yO nx (w.heap.size+1) nx (.loop (J .ready none)) (I k)) (fun m k=>∃ c,yO nx (w.heap.size+1) nx (.loop (J .done (some c))) (Jump env Q c) m k)
   (up (fun i=>(mem i).map (Row.renB f₀)) nx (some (.raw (w.heap.size+1) (.loop (J .ready none))))) (nx+1) (up β nx (some (.raw (w.heap.size+1)))) W1 _ (fun k=>yO.closed) ?_ EY ?_ ?_ ?_ ?_).mono ?_
  .rintro m k m' k' ⟨c,hc⟩ hle he;exact⟨c,yO.closed m k m' k' hc hle he⟩
  .intro i hi;rw[up_ne _ _ (show i≠nx by omega)];exact hn i oG
  .refine Rs.append (Rs.append ?_ ?_) ?_
   .exact⟨by simp[Ju],fun k d v hd hv=>(hu k d v hd (by simpa using hv)).step sD⟩
   .refine⟨rfl,fun k d v hd hv=>?_⟩;cases k with
    |zero=>
     simp only[List.getElem?_cons_zero,Option.some.injEq] at hd;simp only[List.getElem?_toArray,List.getElem?_cons_zero,Option.some.injEq] at hv;subst hd;subst hv;exact .fn _ [] [] [] [] rfl rfl oS oS
    |succ k=>simp at hd
   .exact⟨by simp[pT],fun k d v hd Jv=>(hv k d v hd (by simpa using Jv)).step sD⟩
  .rintro k x m k' hx ⟨g,mc,nc,iG,fK,hIk⟩ β2 w2 EZ aiu k9 zA B4;obtain⟨UQ,yY,_,IC⟩:=k9.yW fK;have aiv:EZ.size=ps.size:=by rw[B4.1];exact(DZ x (List.mem_of_getElem? hx)).1
   have hy:=run_yield (P:=P) (args:=EZ) yY (by rw[tf];exact aiv);simp only[tf,XA] at hy;refine⟨fn,_,assign,body,hy,fun n'=>?_⟩;obtain⟨Jw,zB⟩:=iG.enter k9;have B5:hidden F β2 g (w.heap.size+1):=(iG.Dx k9 (fun i e=>(iG.uU e).2.2 rfl) UQ rfl).2;have O4:(β2.via g).free (w.heap.size+1):=(iG.Dx k9 (fun i e=>(iG.uU e).2.2 rfl) UQ rfl).1;have hE2:ESim (hidden F β2 g) (β2.via g) w2 env { tmps:=a.tmps,defers:=[] }:=fun t=>own iG aiu (C.e t)
   obtain⟨hE3,Tj⟩:=K4 ps.toList x EZ.toList env a.tmps (by simp[B4.1]) (fun j d v hd hv=>
    ((DZ x (List.mem_of_getElem? hx)).2 d (List.mem_of_getElem? hd) F β2 w2 v (B4.2 j d v hd (by simpa using hv))).gen (Nat.le_refl _)
     (fun b _ hb _=>⟨SameB.refl _ b,Pla.free_via (owned_free hb).2 _,fun e=>e.elim (owned_free hb).1 fun e=>e.1 (owned_free hb).2⟩) (fun i p _ hp=>by cases hp)) (fun t ht=>by rw[bS];exact xr t ht) hE2
   have aiw:=vn (hidden F β2 g) (some (w.heap.size+1)) n' noY false nc (β2.via g) w2
    { tmps:=(ps.toList.zip EZ.toList).foldl (fun tmps (t,a)=>tmps.setIfInBounds t a) a.tmps,defers:=[] } oS (fun _ _ _ _ _ h=>h.elim) (by show jM (Array.size _) assign=true;rw[Tj,bS];exact ais) _ ⟨setAll env ps.toList x,mc,nc⟩ (β2.via g) w2 _
    (yP k mc nc x hx hIk) ⟨hE3,Jw,zB⟩ (gB.refl ⟨setAll env ps.toList x,mc,nc⟩ _ _ _).xm
   refine roundIn_of_wpIn trivial (wpIn_mono aiw fun e a3 w3 hp=>?_);obtain⟨jw,β3,UR,E0,vr⟩:=hp;cases e with
   |normal=>
    have HO:w.heap.size+1<w3.heap.size:=Nat.lt_of_lt_of_le IC vr.step.size;have abK:w3.heap[w.heap.size+1]? =some (.loop (J .ready none)):=(vr.step.imm _ IC O4).1.trans yY;refine⟨_,run_beginRound abK (by rw[tf]),?_⟩;have aix:=E0.sj (l:=w.heap.size+1) B5 (.loop { J .ready none with state:=.busy });have abL:=vp (hidden F β2 g) (some (w.heap.size+1)) n' noY false jw.nx β3 _ a3 oS (fun _ _ _ _ _ h=>h.elim) (by rw[vr.size];show jM (Array.size _) body=true;rw[Tj,bS];exact ait) _ jw β3 _ a3 UR aix (gB.refl jw _ _ _).xm;refine wpIn_mono abL fun e a4 w4 hp4=>?_;obtain⟨US,β4,E1,UT,B6⟩:=hp4;have abM:w.heap.size+1<w4.heap.size:=Nat.lt_of_lt_of_le (by simpa using HO) B6.step.size
    have abN:w4.heap[w.heap.size+1]? =some (.loop { J .ready none with state:=.busy }):=
     (B6.step.imm _ (by simpa using HO) (vr.step.imm _ IC O4).2).1.trans (World.putObj_heap_same HO)
    have fin:∀ (jump:Option Code) (K:D->Mem->Nat->Prop),(∀ f' jX pG,View nx nx f' US.mem US.nx jX pG->jX nx=some (.raw (w.heap.size+1) (.loop (J (if jump.isNone then .ready else .done) jump)))->K (.s (.bool jump.isNone)) jX pG)->
     ∃ v w',(Instr.endRound (w.heap.size+1) jump).run P w4=.ok v w'/\∃ v' d m' nx' β',Ending.returned v=.returned v'/\K d m' nx'/\MSim P F m' β' w'/\(∀ i,nx'<=i->β' i=none)/\R F β' w' d v'/\Step β2 w2 β' w'/\k'<=nx'/\∀ i,i<k'->β2 i=none->β' i=none:=fun jump K hK=>by
     have eP:=run_endRound (P:=P) jump abN;have e1:∀ s p,({ ({ J .ready none with state:=.busy }:Loop) with state:=s,pending:=p }:Loop)=J s p:=fun s p=>by rw[tf]
     rw[e1] at eP
     obtain⟨f',jX,pG,iR,v1,v2,v3,v4,v5,v6,v7⟩:=iG.abJ k9 zA fK (o':=.loop (J (if jump.isNone then .ready else .done) jump)) (UT.m.sj B5 _)
      (((vr.step.x _).trans (r7.put _ β3 w3 _)).trans ((B6.step.x _).trans (r7.put _ β4 w4 _))) UT.n (Nat.le_trans vr.le B6.le) (fun i hi hb=>B6.grow i (Nat.lt_of_lt_of_le hi vr.le) (vr.grow i hi hb)) (World.putObj_heap_same abM)
     exact⟨_,_,eP,.bool jump.isNone,_,jX,pG,iR,rfl,hK f' jX pG v1 v2,v3,v4,.s _ rfl,v5,v6,v7⟩
    cases e with
    |normal=>exact fin none _ fun f' jX pG v1 v2=>.inl ⟨rfl,f',_,_,v1,v2,E1⟩
    |ret=>exact fin (some .ret) _ fun f' jX pG v1 v2=>.inr ⟨rfl,.ret,f',_,_,v1,v2,E1⟩
    |exit id=>exact fin (some (.exit id)) _ fun f' jX pG v1 v2=>.inr ⟨rfl,.exit id,f',_,_,v1,v2,E1⟩
    |_=>exact E1.elim
   |_=>exact UR.elim
  .refine⟨f₀,mem,nx,⟨Nat.le_refl _,by omega,fun i hi=>by simp[f₀,hi],fun i hi=>⟨i,by simp[f₀,hi],by omega,by omega⟩,fun i hi=>by simp[f₀,Nat.not_lt.2 hi],fun i i' j h1 h2=>?_,fun i r hi=>?_⟩,up_same _ _ _,EX⟩
   .simp only[f₀,Option.ite_none_right_eq_some,Option.some.injEq] at h1 h2;omega
   .have ao:i<nx:=by
     rcases Nat.lt_or_ge i nx with h1|h1
     .exact h1
     .rw[Z6 i h1] at hi;cases hi
    exact⟨i,by simp[f₀,ao],by rw[up_ne _ _ (show i≠nx by omega),hi];rfl⟩
  .rintro e w6 ⟨v,d6,m6,nx6,β6,rfl,Tk,tM,hn6,_,tg,aoP,aiy⟩
   have fin:∀ {g:Nat->Option Nat} {mc:Mem} {nc:Nat} (o':Obj),View nx nx g mc nc m6 nx6->
    ef P F ⟨env,mc,nc⟩ (β6.via g) (w6.putObj (w.heap.size+1) o') { a with defers:=[mark w.heap.size]++a.defers }/\
    pR N₀ β₀ w₀ a₀ ⟨env,mc,nc⟩ (β6.via g) (w6.putObj (w.heap.size+1) o') { a with defers:=[mark w.heap.size]++a.defers }:=fun {g mc nc} o' iG=>by
    obtain⟨Jw,zB⟩:=iG.enter tM
    have B5:hidden F β6 g (w.heap.size+1):=by
     have hβ:β6 nx=some (.raw (w.heap.size+1))\/β6 nx=some .dead:=tg.keep nx _ (up_same _ _ _);rcases hβ with hβ|hβ
     .exact(iG.Dx tM (fun i e=>(iG.uU e).2.2 rfl) hβ rfl).2
     .exfalso;rcases Tk with⟨f',mc',ow,_,ID,_⟩|⟨c,f',mc',ow,_,ID,_⟩
      .rw[(tM.yW ID).1] at hβ;cases hβ
      .rw[(tM.yW ID).1] at hβ;cases hβ
    refine⟨⟨fun t=>((own iG tg (C.e t)).sj B5 o').weak fun b hb=>.inl hb,(Jw.sj B5 o').weak fun b hb=>.inl hb,zB⟩,U.trans ⟨⟨?_,fun b hb hf=>?_,fun i p hp=>?_,(sD.out.trans tg.out).trans ⟨rfl,rfl⟩⟩,iG.low,fun i hi hb=>?_,rfl,[mark w.heap.size],rfl,?_⟩⟩
    .have:=tg.size;simp;omega
    .obtain⟨g1,g2⟩:=sD.imm b hb hf;obtain⟨g3,g4⟩:=tg.imm b oG g2;exact⟨(World.putObj_heap_other oG).trans (g3.trans g1),Pla.free_via g4 _⟩
    .have hi:i<nx:=by
      rcases Nat.lt_or_ge i nx with h1|h1
      .exact h1
      .rw[hn i h1] at hp;cases hp
     simp only[Pla.via,iG.id i hi,Option.bind_some];exact(sD.trans tg).keep i p hp
    .have hi:i<nx:=hi;simp only[Pla.via,iG.id i hi,Option.bind_some];exact aiy i oG (by rw[up_ne _ _ oG];exact hb)
    .refine⟨w.heap.size,rfl,Nat.le_refl _,?_,?_,?_,trivial⟩
     .have:=tg.size;simp;omega
     .exact(World.putObj_heap_other oG).trans ((tg.imm _ oG O3).1.trans hD1)
     .exact Pla.free_via (tg.imm _ oG O3).2 _
   rcases Tk with⟨g,mc,nc,iG,fK,hI⟩|⟨c,g,mc,nc,iG,fK,hj⟩
   .have eP:(Instr.endLoop (w.heap.size+1)).run P w6=.ok none (w6.putObj (w.heap.size+1) (.loop (J .exhausted none))):=by
     have:=run_endLoop (P:=P) (tM.yW fK).2.1 (by rw[tf];simp);rw[tf] at this ⊢;exact this
    obtain⟨g1,g2⟩:=fin (.loop (J .exhausted none)) iG;exact⟨none,_,eP,⟨env,mc,nc⟩,_,uJ mc nc hI,g1,g2⟩
   .have eP:(Instr.endLoop (w.heap.size+1)).run P w6=.ok (some c) (w6.putObj (w.heap.size+1) (.loop (J .exhausted (some c)))):=by
     have:=run_endLoop (P:=P) (tM.yW fK).2.1 (by rw[tf];simp);rw[tf] at this ⊢;exact this
    obtain⟨g1,g2⟩:=fin (.loop (J .exhausted (some c))) iG;refine⟨some c,_,eP,?_⟩;cases c with
    |ret=>exact wpIn_ret ⟨⟨env,mc,nc⟩,_,hj,g1,g2⟩
    |exit id=>exact wpIn_exit ⟨⟨env,mc,nc⟩,_,hj,g1,g2⟩
    |_=>exact hj.elim
 |_=>intro F r n Y rf N₀ β₀ w₀ a₀ iq X ao Q st β w a h;exact h.elim
end
section
variable{P:Program}{F:Nat->Prop}{fn:Func}
def zb(tmps:Array Value):ResultVar->Sem Value
 | .tmp t=>pure (tmps.getD t undef)
 | .cell x t=>do loadVar t (<- asAddr (tmps.getD x undef))
theorem WJ(fn:Func)(tmps:Array Value):results fn tmps=(do
 let vs<- fn.results.mapM (zb tmps)
 pure (if h:vs.size=1 then vs[0] else .tuple vs)):=by
 unfold results;congr 1
theorem aac{st:St}{β:Pla}{w:World}{a:Act}(C:ef P F st β w a){r:ResultVar}{p:Prop}{d:D}(h:resD P st r=some (p,d))(hp:p):
 ∃ v,(zb a.tmps r).run P w=.ok v w/\R F β w d v:=by
 unfold resD at h;split at h
 .cases h;exact⟨_,by simp[zb],C.e _⟩
 .rename_i x t;have hx:=C.e x;split at h
  .rename_i i off U;rw[U] at hx;split at h
   .rename_i cs e hm;cases h;obtain⟨b,o,room,sz,hβ,hv,aq⟩:=hx.rp_inv C.m hm;obtain⟨u,J,hr⟩:=run_load_rd (P:=P) hp.1 (aq.rd.1.drop off) oP;refine⟨u,?_,hr⟩;simp only[zb,hv,Sem.run_bind];simp[asAddr,J]
   .cases h
  .rename_i cs U;rw[U] at hx;cases h;obtain⟨b,o,hv,_,_,_,X⟩:=hx.pt_inv;obtain⟨u,J,hr⟩:=run_load_rd (P:=P) hp.1 X hp.2;refine⟨u,?_,hr⟩;simp only[zb,hv,Sem.run_bind];simp[asAddr,J]
  .cases h
theorem Mp{st:St}{β:Pla}{w:World}{a:Act}(J:ef P F st β w a){K:List D->Prop}:∀ (rs:List ResultVar) (C:List D),retL P st rs C K->
 ∃ vs ds,(rs.mapM (zb a.tmps)).run P w=.ok vs w/\vs.length=ds.length/\K (C++ds)/\
  ∀ (k:Nat) (d:D) (v:Value),ds[k]? =some d->vs[k]? =some v->R F β w d v
 |[],C,h=>⟨[],[],by simp,rfl,by simpa[retL] using h,by simp⟩
 |r::rs,C,h=>by
  simp only[retL] at h;split at h
  .rename_i p d hr;obtain⟨v,h1,h2⟩:=aac J hr h.1;obtain⟨vs,ds,h3,h4,h5,U⟩:=Mp J rs _ h.2;refine⟨v::vs,d::ds,?_,by simp[h4],by simpa using h5,fun k d' X hd hv=>?_⟩
   .rw[List.mapM_cons];simp only[Sem.run_bind];rw[h1];simp only[Result.andThen_ok,Sem.run_bind];rw[h3];simp
   .cases k with
    |zero=>simp at hd hv;subst hd;subst hv;exact h2
    |succ k=>exact U k d' X (by simpa using hd) (by simpa using hv)
  .exact h.elim
theorem Wu{st:St}{β:Pla}{w:World}{a:Act}(C:ef P F st β w a){K:D->Prop}(h:retL P st fn.results.toList [] fun ds=>K (one1 ds)):
 ∃ v d,(results fn a.tmps).run P w=.ok v w/\K d/\R F β w d v:=by
 obtain⟨vs,ds,h1,h2,h3,h4⟩:=Mp C _ _ h;simp only[List.nil_append] at h3;refine⟨if h:vs.toArray.size=1 then vs.toArray[0] else .tuple vs.toArray,one1 ds,?_,h3,?_⟩
 .rw[WJ,Array.mapM_eq_mapM_toList];simp only[Sem.run_bind,map_eq_pure_bind,bind_assoc];rw[h1];simp
 .split
  .rename_i bS;simp only[List.size_toArray] at bS;obtain⟨v,rfl⟩:=List.length_eq_one_iff.1 bS;obtain⟨d,rfl⟩:=List.length_eq_one_iff.1 (show ds.length=1 by simpa using h2.symm);exact h4 0 d v rfl rfl
  .rename_i bS;simp only[List.size_toArray] at bS
   have:one1 ds=.tup ds:=by
    unfold one1;split
    .rename_i d;simp at h2;exact absurd h2 bS
    .rfl
   rw[this];exact .tup ds vs h2 h4
theorem Wh{w:World}{b:Nat}{x:Option (List Deferred)}(h:w.heap[b]? =some (.deferred x))(o:Nat):w.cell? ⟨b,o,none⟩=none:=by
 simp[World.cell?,h]
theorem R.Mq{w:World}{b:Nat}{x:Option (List Deferred)}(hb:w.heap[b]? =some (.deferred x))(o:Obj)(J:Nat):SameB w (w.putObj b o) J:=by
 refine⟨fun k u U=>?_,fun ms c hm=>?_⟩
 .have C:J≠b:=fun e=>by rw[e,Wh hb] at U;cases U
  exact(cell_of_heap (World.putObj_heap_other C)).trans U
 .have C:J≠b:=fun e=>by rw[e,hb] at hm;cases hm
  exact(World.putObj_heap_other C).trans hm
theorem ef.putD{st:St}{β:Pla}{w:World}{a:Act}{b:Nat}{x:Option (List Deferred)}(hb:w.heap[b]? =some (.deferred x))(hf:β.free b)(o:Obj)(h:ef P F st β w a):ef P F st β (w.putObj b o) a:=
 ⟨fun t=>(h.e t).gen oS (fun C _ h1 h2=>⟨R.Mq hb o C,h2,h1⟩) fun _ _ _ h=>.inl h,⟨fun i r hi=>by
  obtain⟨p,hp,hr⟩:=h.m.row i r hi;exact⟨p,hp,hr.gen oS (fun C _ h1 h2=>⟨R.Mq hb o C,h2,h1⟩) (fun _ _ _ h=>.inl h) fun c hc=>World.putObj_heap_other fun e=>hf i p hp (e▸hc)⟩,
  h.m.inj,fun i p c hp hc=>by simpa using h.m.lt i p c hp hc,h.m.nf,fun c hc=>by simpa using h.m.fb c hc⟩,h.n⟩
theorem Marks.put{β:Pla}{w:World}{lo b:Nat}(o:Obj):∀ {ds:List Deferred} {hi:Nat},hi<=b->Marks β w lo ds hi->Marks β (w.putObj b o) lo ds hi
 |[],_,_,_=>trivial
 |_::_,_,hle,⟨c,h1,h2,h3,h4,h5,h6⟩=>⟨c,h1,h2,h3,(World.putObj_heap_other oG).trans h4,h5,Marks.put o oG h6⟩
theorem KM{n:Nat}{tmps:Array Value}{R:Ending->World->Prop}{st:St}{β₀ β:Pla}{w₀:World}{a:Act}:∀ (ds:List Deferred) (hi:Nat) (w:World),Marks β w w₀.heap.size ds hi->ef P F st β w a->Step β₀ w₀ β w->
 (∀ w',ef P F st β w' a->Step β₀ w₀ β w'->∃ v,(results fn tmps).run P w'=.ok v w'/\R (.returned v) w')->LeavesInM (Fe none) n P fn tmps R ds .returning w
 |[],_,w,_,hs,aO,K=>K w hs aO
 |d::ds,hi,w,⟨b,h1,h2,h3,h4,h5,h6⟩,hs,aO,K=>by
  subst h1;refine⟨by simp,.inl ⟨b,_,rfl,run_takeDeferred h4,KM ds b _ (h6.put _ (Nat.le_refl _)) (hs.putD h4 h5 _) ?_ K⟩⟩;refine⟨by simpa using aO.size,fun c hc hf=>?_,aO.keep,aO.out.trans ⟨rfl,rfl⟩⟩;obtain⟨C,J⟩:=aO.imm c hc hf;exact⟨(World.putObj_heap_other oG).trans C,J⟩
theorem Ap(my:P.follows .mixedOrders=true){Y:YSpec}{f:FuncId}{c:Code}(hf:P.funcs[f]? =some fn)(hb:fn.body=some c)(ao:jM fn.ntmps c=true){args:List D}(hn:Nat.ble args.length fn.ntmps=true){m:Mem}{nx:Nat}{K:D->St->Prop}
 (h:AW P Y true c (retQ P fn.results.toList K) ⟨envOf args,m,nx⟩) {β:Pla} {w:World} {vs:Array Value} (hY:∀ l args m nx K,Y l args m nx K->YCall P F β w l args m nx K) (hm:MSim P F m β w) (fC:∀ i,nx<=i->β i=none) (hR:Rs F β w args vs):
 Calls P f vs w fun e w'=>∃ v d st' β',e=.returned v/\K d st'/\R F β' w' d v/\MSim P F st'.mem β' w'/\(∀ i,st'.nx<=i->β' i=none)/\Step β w β' w'/\nx<=st'.nx/\∀ i,i<nx->β i=none->β' i=none:=by
 have hle:args.length<=fn.ntmps:=by simpa using hn
 refine(callsIn_wide (n:=0)).1 (callsIn_of_wp_marks hf hb trivial ?_)
 have bS:(vs++Array.replicate (fn.ntmps - vs.size) undef).size=fn.ntmps:=by
  simp only[Array.size_append,Array.size_replicate,hR.1];omega
 let a₀:Act:={ tmps:=vs++Array.replicate (fn.ntmps - vs.size) undef,defers:=[] }
 have hE:ESim F β w (envOf args) a₀:=fun t=>by
  unfold envOf;rcases Nat.lt_or_ge t args.length with ao|aY
  .have h1:args.getD t .u=args[t]:=by simp[ao]
   have h2:a₀.tmps.getD t undef=vs[t]'(by rw[hR.1];exact ao):=by
    show(vs++Array.replicate (fn.ntmps - vs.size) undef).getD t undef=_;have h3:t<vs.size:=by rw[hR.1];exact ao
    simp[Array.getD_eq_getD_getElem?,Array.getElem?_append_left h3,h3]
   rw[h1,h2];exact hR.2 t _ _ (by simp[ao]) (by simp[hR.1,ao])
  .have h1:args.getD t .u=.u:=by simp[aY]
   rw[h1];exact .u _
 have:=YN my c F none 0 Y true nx β w a₀ (fun _=>rfl) hY (by show jM (vs++Array.replicate (fn.ntmps - vs.size) undef).size c=true;rw[bS];exact ao) _ ⟨envOf args,m,nx⟩ β w a₀ h ⟨hE,hm,fC⟩ (gB.refl ⟨envOf args,m,nx⟩ β w a₀).xm;refine wpIn_mono this fun e a' w' hp=>?_;obtain⟨st',β',hq,dw,C⟩:=hp
 have X:(retL P st' fn.results.toList [] fun ds=>K (one1 ds) st')->LeavesInM (Fe none) 0 P fn a'.tmps (fun e w'=>∃ v d st' β',e=.returned v/\K d st'/\R F β' w' d v/\MSim P F st'.mem β' w'/\(∀ i,st'.nx<=i->β' i=none)/\Step β w β' w'/\nx<=st'.nx/\∀ i,i<nx->β i=none->β' i=none) a'.defers .returning w':=fun hq=>by
  obtain⟨ds,h1,h2⟩:=C.defers;rw[h1,show a₀.defers=[] from rfl,List.append_nil];refine KM ds _ w' h2 dw C.step fun w'' U J=>?_;obtain⟨v,d,g1,g2,g3⟩:=Wu (K:=fun d=>K d st') U hq;exact⟨v,g1,v,d,st',β',rfl,g2,g3,U.m,U.n,J,C.le,C.grow⟩
 cases e with
 |normal=>exact X hq
 |ret=>exact X hq
 |_=>exact hq.elim
theorem F9{w:World}(hF:∀ b,F b->b<w.heap.size):MSim P F (fun _=>none) noRows w:=
 ⟨fun i r h=>oH,fun i j p q b h=>oH,fun i p b h=>oH,fun i p b h=>oH,hF⟩
theorem FM{β':Pla}{w w':World}(h:Step noRows w β' w'):Kept w w':=
 ⟨h.size,fun b hb=>(h.imm b hb fun i p hp=>by cases hp).1,h.out⟩
theorem Tr.Br{d:D}(h:Tr d){β:Pla}{w:World}{v:Value}(hv:R F β w d v):R F noRows w d v:=
 (h F β w v hv).lift fun b hb=>⟨fun e=>hb (.inl e),fun i p hp=>by cases hp⟩
structure pI(P:Program)(f:FuncId)(fn:Func)(c:Code):Prop where
 hf:P.funcs[f]? =some fn
 hb:fn.body=some c
 ao:jM fn.ntmps c=true
 he:enterOk P f=true
theorem uu(my:P.follows .mixedOrders=true){f:FuncId}{c:Code}(hf:pI P f fn c){args:List D}(hn:Nat.ble args.length fn.ntmps=true){m:Mem}{nx:Nat}{dS:D->Mem->Nat->Prop}
 (h:AW P noY true c (retQ P fn.results.toList fun d st=>dS d st.mem st.nx) ⟨envOf args,m,nx⟩):ACalls P f args m nx dS:=
 ⟨hf.he,fun F β w vs hm C hR=>(Ap my hf.hf hf.hb hf.ao hn h (fun _ _ _ _ _ h=>h.elim) hm C hR).mono fun e w' ⟨v,d,st',β',h1,h2,h3,h4,h5,J,U,X⟩=>⟨v,d,st'.mem,st'.nx,β',h1,h2,h4,h5,h3,J,U,X⟩⟩
theorem aX(J:P.follows .mixedOrders=true){f:FuncId}{c:Code}(hf:pI P f fn c){args:List D}(hn:Nat.ble args.length fn.ntmps=true)(ht:∀ a∈args,Tr a){r:D}(hr:Tr r)
 (h:AW P noY true c (retQ P fn.results.toList fun d _=>d=r) ⟨envOf args,fun _=>none,0⟩):PCall P f args r:=
 ⟨hf.he,ht,fun F w vs hF hR=>(Ap J hf.hf hf.hb hf.ao hn h (fun _ _ _ _ _ h=>h.elim) (F9 hF) (fun _ _=>rfl) hR).mono fun e w' hp=>by
  obtain⟨v,d,st',β',h1,rfl,h3,h4,h5,C,U,X⟩:=hp
  exact⟨v,h1,hr.Br h3,FM C⟩⟩
theorem uv (my:P.follows .mixedOrders=true){f:FuncId}{c:Code}(hf:pI P f fn c){args:List D}(hn:Nat.ble args.length fn.ntmps=true)(ht:∀ a∈args,Tr a){es:List D}(gL:∀ a∈es,Tr a){k:Nat}{t:TypeId}
 (h:AW P noY true c (retQ P fn.results.toList fun d st=>∃ i,d=.rs i 0 k/\st.mem i=some (.cells es t)) ⟨envOf args,fun _=>none,0⟩):OCall P f args es k t:=
 ⟨hf.he,ht,fun F w vs hF hR=>(Ap my hf.hf hf.hb hf.ao hn h (fun _ _ _ _ _ h=>h.elim) (F9 hF) (fun _ _=>rfl) hR).mono fun e w' hp=>by
  obtain⟨v,d,st',β',h1,⟨i,rfl,hi⟩,h3,h4,h5,J,h7,h8⟩:=hp;obtain⟨p,hp,aq⟩:=h4.row i _ hi;refine⟨v,p,h1,?_,fun b hb=>⟨?_,h4.lt i p b hp hb⟩,?_,?_,FM J⟩
  .rintro rfl;cases aq
  .rcases Nat.lt_or_ge b w.heap.size with ao|U
   .exact absurd hb ((J.imm b ao fun i p hp=>by cases hp).2 i p hp)
   .exact U
  .have lift:∀ d∈es,∀ u,R F β' w' d u->R (fun x=>F x\/p.blk=some x) noRows w' d u:=fun d hd u hu=>
    (gL d hd F β' w' u hu).lift fun b hb=>⟨fun e=>hb (by
     rcases e with e|e
     .exact .inl e
     .exact .inr fun lA=>lA i p hp e),fun i p hp=>by cases hp⟩
   cases aq with
   |nil _=>exact .nil _
   |cells _ _ b o room sz c q1 q2 q3 q4 q5=>
    refine .cells es t b o room sz c q1 q2 q3 q4 fun j d hd=>?_;obtain⟨u,u1,u2,u3⟩:=q5 j d hd;exact⟨u,u1,lift d (List.mem_of_getElem? hd) u u2,u3⟩
  .cases h3 with
   |rsd _ _ _ _ C _=>rw[C] at hp;cases hp;cases aq
   |rsn _ a C=>rw[C] at hp;cases hp;exact .rsn 0 a (up_same _ _ _)
   |rsz _ _ a b o len room sz C=>rw[C] at hp;cases hp;exact .rsz 0 0 a b o len room sz (up_same _ _ _)
   |rs _ _ _ cap b o len room sz C X g2 g3 g4=>rw[C] at hp;cases hp;exact .rs 0 0 k cap b o len room sz (up_same _ _ _) X g2 g3 g4⟩
def To(C:Nat)(xs:List (List D))(I:Nat->Mem->Nat->Prop)(Stop:Mem->Nat->Prop):YSpec:=fun l args m nx dS=>
 l=C/\∃ k,xs[k]? =some args/\I k m nx/\∀ d m' nx',SeqPost I Stop k d m' nx'->dS d m' nx'
theorem YCall.mono{β:Pla}{w:World}{l:Nat}{args:List D}{m:Mem}{nx:Nat}{K K':D->Mem->Nat->Prop}(hk:∀ d m nx,K d m nx->K' d m nx)(h:YCall P F β w l args m nx K):YCall P F β w l args m nx K':=
 fun β' w' us h1 h2 h3 h4=>by
  obtain⟨f,tmps,assign,body,C,J⟩:=h β' w' us h1 h2 h3 h4;exact⟨f,tmps,assign,body,C,fun n=>RoundIn.mono (F:=Fence.wide) (J n) fun e w' ⟨v,d,m',nx',β',U,X,q3⟩=>⟨v,d,m',nx',β',U,hk _ _ _ X,q3⟩⟩
theorem Hv(my:P.follows .mixedOrders=true){f:FuncId}{c:Code}(hf:pI P f fn c){fs cs:List D}(hn:Nat.ble (fs.length+1+cs.length) fn.ntmps=true){xs:List (List D)}
 (h:∀ (l:Nat) (I:Nat->Mem->Nat->Prop) (Stop:Mem->Nat->Prop) (m:Mem) (nx:Nat),(∀ k,Closed (I k))->Closed Stop->I 0 m nx->
  AW P (To l xs I Stop) true c (retQ P fn.results.toList fun _ st=>I xs.length st.mem st.nx\/Stop st.mem st.nx) ⟨envOf (fs++[.fn (.yield l) [] []]++cs),m,nx⟩):SeqA P f fs cs xs:=
 ⟨hf.he,fun F l I Stop m nx β w vs hI C hm J hR hy h0=>
  (Ap my hf.hf hf.hb hf.ao (by simpa[Nat.add_assoc,Nat.add_comm,Nat.add_left_comm] using hn) (h l I Stop m nx hI C h0) (fun l' args m' nx' K hK=>by
   obtain⟨rfl,k,h1,h2,h3⟩:=hK
   exact(hy k args m' nx' h1 h2).mono h3) hm J hR).mono fun e w' ⟨v,d,st',β',h1,h2,h3,h4,h5,U,X,h8⟩=>⟨v,d,st'.mem,st'.nx,β',h1,h2,h4,h5,h3,U,X,h8⟩⟩
end
section
variable{P:Program}{Y:YSpec}{rf:Bool}{Q:Exit->St->Prop}{st:St}
theorem Nh(c a b):AW P Y rf (.cond c a b) Q st=((opd st.env c).ask/\match (opd st.env c).core with
 | .s (.bool t)=>(t=true->AW P Y rf a Q st)/\(t=false->AW P Y rf b Q st)
 | .ub=>AW P Y rf a Q st/\AW P Y rf b Q st
 |_=>False):=rfl
theorem Ni{b:Code}(I:St->Prop)(μ:St->Nat)(h0:I st)(h:∀ st',I st'->AW P Y rf b (seqQ (fun J=>∃ C,Ghost P J C/\I C/\μ C<μ st') Q) st'):AW P Y rf (.loop b) Q st:=⟨I,μ,h0,h⟩
theorem ACalls.mono{f:FuncId}{args:List D}{m:Mem}{nx:Nat}{dS C:D->Mem->Nat->Prop}(h:ACalls P f args m nx dS)(hp:∀ d m' nx',dS d m' nx'->C d m' nx'):ACalls P f args m nx C:=
 ⟨h.1,fun F β w vs hm hn hR=>(h.2 F β w vs hm hn hR).mono fun e w' ⟨v,d,m',nx',β',h1,h2,h3⟩=>⟨v,d,m',nx',β',h1,hp _ _ _ h2,h3⟩⟩
theorem CallOp.mono{dr:Bool}{f:FuncId}{args:List D}{K K':D->Mem->Nat->List Nat->List Nat->Prop}(hk:∀ d m nx rd wr,K d m nx rd wr->K' d m nx rd wr)(h:CallOp P dr st f args K):CallOp P dr st f args K':=by
 rcases h with⟨r,h1,h2⟩|⟨args',rds,r,h1,h2,h3,h4⟩|⟨es,n,t,h1,h2⟩|⟨h1,h2⟩|⟨r,ups,rds,h1,h2,h3⟩|⟨es,n,t,ups,rds,h1,h2,h3,h4⟩
 .exact .inl ⟨r,h1,hk _ _ _ _ _ h2⟩
 .exact .inr (.inl ⟨args',rds,r,h1,h2,h3,hk _ _ _ _ _ h4⟩)
 .exact .inr (.inr (.inl ⟨es,n,t,h1,hk _ _ _ _ _ h2⟩))
 .exact .inr (.inr (.inr (.inl ⟨h1,h2.mono fun d m nx h=>hk _ _ _ _ _ h⟩)))
 .exact .inr (.inr (.inr (.inr (.inl ⟨r,ups,rds,h1,h2,hk _ _ _ _ _ h3⟩))))
 .exact .inr (.inr (.inr (.inr (.inr ⟨es,n,t,ups,rds,h1,h2,h3,hk _ _ _ _ _ h4⟩))))
class dD(Y:YSpec):Prop where
 mono:∀ l args m nx K K',(∀ d m nx,K d m nx->K' d m nx)->Y l args m nx K->Y l args m nx K'
instance:dD noY:=⟨fun _ _ _ _ _ _ _ h=>h⟩
instance{l:Nat}{xs:List (List D)}{I:Nat->Mem->Nat->Prop}{Stop:Mem->Nat->Prop}:dD (To l xs I Stop):=⟨fun _ _ _ _ _ _ hk ⟨h1,k,h2,h3,h4⟩=>⟨h1,k,h2,h3,fun d m nx h=>hk _ _ _ (h4 d m nx h)⟩⟩
theorem AOp.mono[dD Y]{ops:Array Oper}{dr:Bool}{o:Oper}{K K':St->List Nat->List Nat->Prop}(hk:∀ st rd wr,K st rd wr->K' st rd wr)(h:AOp P Y ops dr o st K):AOp P Y ops dr o st K':=by
 unfold AOp at h ⊢;split at h
 .refine⟨h.1,?_⟩;have h:=h.2;split at h
  .exact h.mono fun _ _ _ _ _ h=>hk _ _ _ h
  .split at h
   .exact⟨h.1,dD.mono _ _ _ _ _ _ (fun _ _ _ h=>hk _ _ _ h) h.2⟩
   .split at h
    .exact⟨h.1,hk _ _ _ h.2⟩
    .exact h
 .split at h
  .exact h
  .split at h
   .rcases h with⟨r,h1,h2⟩|⟨h1,h2⟩
    .exact .inl ⟨r,h1,hk _ _ _ h2⟩
    .exact .inr ⟨fun hc=>⟨(h1 hc).1,(h1 hc).2.mono fun _ _ _ _ _ h=>hk _ _ _ h⟩,fun hc=>hk _ _ _ (h2 hc)⟩
   .split at h
    .exact⟨fun hc=>⟨(h.1 hc).1,(h.1 hc).2.1,dD.mono _ _ _ _ _ _ (fun _ _ _ h=>hk _ _ _ h) (h.1 hc).2.2⟩,fun hc=>hk _ _ _ (h.2 hc)⟩
    split at h
    .split at h
     .rename_i hc;rw[if_pos hc];exact⟨h.1,hk _ _ _ h.2⟩
     .rename_i hc;rw[if_neg hc];exact⟨fun hc=>⟨(h.1 hc).1,(h.1 hc).2.1,hk _ _ _ (h.1 hc).2.2⟩,fun hc=>hk _ _ _ (h.2 hc)⟩
    .exact⟨h.1,hk _ _ _ h.2⟩
theorem AOps.mono[dD Y]{ops:Array Oper}{dr:Bool}{cf:List (Nat×Nat)}{Q C:Exit->St->Prop}(hq:∀ st,Q .normal st->C .normal st):∀ (l:List Oper) (st:St) (tr:Tra),AOps P Y ops dr cf Q l st tr->AOps P Y ops dr cf C l st tr
 |[],st,tr,h=>⟨h.1,hq _ h.2⟩
 |o::l,st,tr,h=>AOp.mono (fun st' rd wr h=>AOps.mono hq l st' _ h) h
theorem sX:∀ (c:Code) {Y:YSpec} [dD Y] {rf:Bool} {Q C:Exit->St->Prop} {st:St},(∀ e st,Q e st->C e st)->AW P Y rf c Q st->AW P Y rf c C st:=by
 intro c
 induction c with
 |skip=>intro Y _ rf;exact fun hq h=>hq _ _ h
 |ret=>intro Y _ rf;exact fun hq h=>hq _ _ h
 |exit id=>intro Y _ rf;exact fun hq h=>hq _ _ h
 |region id ops draw=>
  intro Y _ rf Q C st hq h;cases draw with
  |false=>exact AOps.mono (hq .normal) _ _ _ h
  |true=>
   simp only[AW] at h ⊢;split at h
   .exact AOps.mono (hq .normal) _ _ _ h
   .exact h
 |seq a b J U=>
  intro Y _ rf Q C st hq h;refine J (fun e st' h=>?_) h;cases e with
  |normal=>obtain⟨X,hg,hb⟩:=h;exact⟨X,hg,U hq hb⟩
  |_=>exact hq _ _ h
 |cond c a b J U=>
  intro Y _ rf Q C st hq h;refine⟨h.1,?_⟩;have h:=h.2;split at h
  .exact⟨fun ht=>J hq (h.1 ht),fun ht=>U hq (h.2 ht)⟩
  .exact⟨J hq h.1,U hq h.2⟩
  .exact h
 |block id b ih=>
  intro Y _ rf Q C st hq h;refine ih (fun e st' h=>?_) h;cases e with
  |exit i=>
   simp only[blockQ] at h ⊢;split at h
   .rename_i hi;rw[if_pos hi];exact hq _ _ h
   .rename_i hi;rw[if_neg hi];exact hq _ _ h
  |_=>exact hq _ _ h
 |scope b ih=>
  intro Y _ rf Q C st hq h;refine ih (fun e st' h=>?_) h;cases e with
  |goto l=>exact h
  |_=>exact hq _ _ h
 |loop b ih=>
  intro Y _ rf Q C st hq h;obtain⟨I,μ,h0,h1⟩:=h;refine⟨I,μ,h0,fun st' hi=>ih (fun e X h=>?_) (h1 st' hi)⟩;cases e with
  |normal=>exact h
  |_=>exact hq _ _ h
 |label l=>intro Y _ rf;exact fun hq h=>hq _ _ h
 |rangeFunc g ps assign body J U=>
  intro Y _ rf Q C st hq h;obtain⟨IB,ni,f,fs,cs,xs,I,yX,Ej,DZ,EX,yP,uJ⟩:=h;refine⟨IB,ni,f,fs,cs,xs,I,yX,Ej,DZ,EX,fun k m nx x hx hI=>J (fun e s h=>?_) (yP k m nx x hx hI),fun m nx h=>hq _ _ (uJ m nx h)⟩;cases e with
  |normal=>
   refine U (fun e s h=>?_) h;cases e with
   |normal=>exact h
   |ret=>exact hq _ _ h
   |exit id=>exact hq _ _ h
   |_=>exact h
  |_=>exact h
 |_=>intro Y _ rf;exact fun _ h=>h.elim
theorem least{p:Nat->Prop}:∀ j,p j->∃ i,p i/\∀ k,p k->i<=k:=by
 intro j
 induction j using Nat.strongRecOn with
 |_ j ih=>
  intro hj;by_cases h:∃ k,k<j/\p k
  .obtain⟨k,hk,hp⟩:=h;exact ih k hk hp
  .exact⟨j,hj,fun k hk=>Nat.le_of_not_lt fun ao=>h ⟨k,ao,hk⟩⟩
open Classical in
theorem Mu[dD Y]{b:Code}(J:Nat->St->Prop){j₀:Nat}(h0:J j₀ st)(h:∀ j st',J j st'->AW P Y rf b (seqQ (fun ic=>∃ U,Ghost P ic U/\∃ j',j'<j/\J j' U) Q) st'):AW P Y rf (.loop b) Q st:=by
 have C:∀ st,(∃ j,J j st)->∃ i,J i st/\∀ k,J k st->i<=k:=fun st ⟨j,hj⟩=>least j hj
 let μ:St->Nat:=fun st=>if h:∃ j,J j st then Classical.choose (C st h) else 0
 have hμ:∀ st,(hj:∃ j,J j st)->J (μ st) st/\∀ k,J k st->μ st<=k:=fun st hj=>by
  have:μ st=Classical.choose (C st hj):=by simp only[μ];rw[dif_pos hj]
  rw[this];exact Classical.choose_spec (C st hj)
 refine Ni (fun st=>∃ j,J j st) μ ⟨j₀,h0⟩ fun st' hj=>sX b (fun e ic hq=>?_) (h (μ st') st' (hμ st' hj).1);cases e with
 |normal=>
  obtain⟨U,hg,j',ao,X⟩:=hq;exact⟨U,hg,⟨j',X⟩,Nat.lt_of_le_of_lt ((hμ U ⟨j',X⟩).2 j' X) ao⟩
 |_=>exact hq
end
section
variable{P:Program}{F:Nat->Prop}{β:Pla}{w:World}
theorem Tr.opt{c:Bool}{d:D}(h:Tr d):Tr (.opt c d):=fun F β w v hv=>by
 cases hv with
 |opt _ _ _ h1 h2=>exact .opt c d v (fun hc=>h F β w v (h1 hc)) h2
theorem Tr.agg{cs:List D}(h:∀ d∈cs,Tr d):Tr (.agg cs):=fun F β w v hv=>by
 obtain⟨vs,rfl,hl,C⟩:=hv.agg_inv;exact .agg cs vs hl fun k d u hd J=>h d (List.mem_of_getElem? hd) F β w u (C k d u hd J)
theorem Tr.tup{cs:List D}(h:∀ d∈cs,Tr d):Tr (.tup cs):=fun F β w v hv=>by
 obtain⟨vs,rfl,hl,C⟩:=hv.tup_inv;exact .tup cs vs hl fun k d u hd J=>h d (List.mem_of_getElem? hd) F β w u (C k d u hd J)
theorem Tr.sl{cs:List D}{n:Nat}(h:∀ d∈cs,Tr d):Tr (.sl cs n):=fun F β w v hv=>by
 cases hv with
 |sln a cap=>exact .sln a cap
 |sl _ _ b o cap us hf hb ao pH eh hc C=>
  exact .sl cs n b o cap us (fun e=>e.elim hf fun e=>e hb) (fun i p hp=>by cases hp) ao pH eh hc fun k d hd=>h d (List.mem_of_getElem? hd) F β w _ (C k d hd)
theorem Tr.pt{cs:List D}(h:∀ d∈cs,Tr d):Tr (.pt cs):=fun F β w v hv=>by
 cases hv with
 |pt _ b o us hf hb ao hc C=>
  exact .pt cs b o us (fun e=>e.elim hf fun e=>e hb) (fun i p hp=>by cases hp) ao hc fun k d hd=>h d (List.mem_of_getElem? hd) F β w _ (C k d hd)
theorem Tr.fn{f:Fn}{fs cs:List D}(h:∀ d∈fs,Tr d)(h':∀ d∈cs,Tr d):Tr (.fn f fs cs):=fun F β w v hv=>by
 cases hv with
 |fn _ _ _ us vs hl kY h1 h2=>
  exact .fn f fs cs us vs hl kY (fun k d u hd C=>h d (List.mem_of_getElem? hd) F β w u (h1 k d u hd C)) fun k d u hd C=>h' d (List.mem_of_getElem? hd) F β w u (h2 k d u hd C)
theorem Tr.im{es:List (Value×D)}(h:∀ x∈es,Tr x.2):Tr (.im es):=fun F β w v hv=>by
 cases hv with
 |im _ r ms clock hf hb hc hl dm hk C=>
  exact .im es r ms clock (fun e=>e.elim hf fun e=>e hb) (fun i p hp=>by cases hp) hc hl dm hk fun k x m hx hm=>h x (List.mem_of_getElem? hx) F β w _ (C k x m hx hm)
theorem Tr.s(x:Value):Tr (.s x):=fun F β w v hv=>by
 obtain⟨rfl,h⟩:=hv.s_inv;exact .s _ h
theorem Tr.ub:Tr .ub:=fun F β w v hv=>by
 obtain⟨b,rfl⟩:=hv.ub_inv;exact .ub b
theorem Tr.u:Tr .u:=fun F β w v _=>.u v
theorem Tr.z:Tr .z:=fun F β w v hv=>by
 obtain⟨a,rfl⟩:=hv.z_inv;exact .z a
theorem Tr.nil:∀ a∈([]:List D),Tr a:=fun _ h=>by cases h
theorem Tr.cons{d:D}{l:List D}(h:Tr d)(hl:∀ a∈l,Tr a):∀ a∈d::l,Tr a:=fun a ha=>by
 cases ha with
 |head=>exact h
 |tail _ ha=>exact hl a ha
theorem Tr.map{α:Type}{f:α->D}{l:List α}(h:∀ x,Tr (f x)):∀ a∈l.map f,Tr a:=fun a ha=>by
 obtain⟨x,_,rfl⟩:=List.mem_map.1 ha;exact h x
theorem Tr.flat{α:Type}{f:α->List D}{l:List α}(h:∀ x,∀ a∈f x,Tr a):∀ a∈l.flatMap f,Tr a:=fun a ha=>by
 obtain⟨x,_,hx⟩:=List.mem_flatMap.1 ha;exact h x a hx
end
instance(d:D):Decidable d.ask:=match d with
 | .opt c _=>inferInstanceAs (Decidable (c=true))
 | .u | .s _ | .ub | .agg _ | .tup _ | .z | .sl _ _ | .pt _ | .rs _ _ _ | .rp _ _ | .mp _ | .im _ | .fn _ _ _=>isTrue trivial
structure ei where
 pre:Prop
 [dec:Decidable pre]
 val:D
 ups:List (Nat×Option Row):=[]
 rd:List Nat:=[]
 new:Nat:=0
structure PD(α:Type) where
 p:Prop
 [dec:Decidable p]
 d:α
def ei.gM(e:ei):Eff:=⟨e.pre,e.val,e.ups,e.rd,e.new⟩
def D2(op:BinOp)(x y:Value):Option (PD Value):=
 match op,x,y with
 | .shl,.int k a,.int _ b=>some ⟨0<=b,.int k (k.wrap (a*2 ^ (min b.toNat k.bits)))⟩
 | .shr,.int k a,.int _ b=>some ⟨0<=b,.int k (a.fdiv (2 ^ (min b.toNat k.bits)))⟩
 | .add,.int k a,.int k' b=>some ⟨k=k',.int k (k.wrap (a+b))⟩
 | .sub,.int k a,.int k' b=>some ⟨k=k',.int k (k.wrap (a - b))⟩
 | .mul,.int k a,.int k' b=>some ⟨k=k',.int k (k.wrap (a*b))⟩
 | .quo,.int k a,.int k' b=>some ⟨k=k'/\b≠0,.int k (k.wrap (a.tdiv b))⟩
 | .rem,.int k a,.int k' b=>some ⟨k=k'/\b≠0,.int k (a.tmod b)⟩
 | .and,.int k a,.int k' b=>some ⟨k=k',.int k (intBitsV .and k a b)⟩
 | .or,.int k a,.int k' b=>some ⟨k=k',.int k (intBitsV .or k a b)⟩
 | .xor,.int k a,.int k' b=>some ⟨k=k',.int k (intBitsV .xor k a b)⟩
 | .andNot,.int k a,.int k' b=>some ⟨k=k',.int k (intBitsV .andNot k a b)⟩
 | .eql,.int k a,.int k' b=>some ⟨k=k',.bool (a==b)⟩
 | .neq,.int k a,.int k' b=>some ⟨k=k',.bool (a !=b)⟩
 | .lss,.int k a,.int k' b=>some ⟨k=k',.bool (decide (a<b))⟩
 | .leq,.int k a,.int k' b=>some ⟨k=k',.bool (decide (a<=b))⟩
 | .gtr,.int k a,.int k' b=>some ⟨k=k',.bool (decide (b<a))⟩
 | .geq,.int k a,.int k' b=>some ⟨k=k',.bool (decide (b<=a))⟩
 | .eql,.string a,.string b=>some ⟨True,.bool (a.toList==b.toList)⟩
 | .neq,.string a,.string b=>some ⟨True,.bool !(a.toList==b.toList)⟩
 | .lss,.string a,.string b=>some ⟨True,.bool (Op.bytesLess a.toList b.toList)⟩
 | .geq,.string a,.string b=>some ⟨True,.bool !(Op.bytesLess a.toList b.toList)⟩
 |_,_,_=>none
def G0(P:Program)(op:BinOp)(t:TypeId)(xs ys:List D):Option (PD D):=
 match op,flatT P t,zipV xs ys with
 | .eql,some ks,some q=>some ⟨q.1.map kindV=ks/\P.eqGuardType P.depth t=false,.s (.bool (veqs q.1 q.2))⟩
 | .neq,some ks,some q=>some ⟨q.1.map kindV=ks/\P.eqGuardType P.depth t=false,.s (.bool !(veqs q.1 q.2))⟩
 |_,_,_=>none
def HZ(P:Program)(op:BinOp)(t:TypeId)(x y:D):Option (PD D):=
 match x,y with
 | .s (.bool a),.s (.bool b)=>match op with
  | .eql=>some ⟨boT P t=true,.s (.bool (a==b))⟩
  | .neq=>some ⟨boT P t=true,.s (.bool !(a==b))⟩
  |_=>none
 | .s a,.s b=>(D2 op a b).map fun r=> @PD.mk _ r.p r.dec (.s r.d)
 | .agg xs,.agg ys=>G0 P op t xs ys
 |_,_=>none
def D3(P:Program)(m:Mem)(op:BinOp)(t:TypeId)(x:D)(y:Operand):Option ei:=
 match y,op,x with
 | .const (.slice none 0 0),.eql,.sl _ n=>some { pre:=slT P t=true,val:=if n=0 then .ub else .s (.bool false) }
 | .const (.pointer none),.eql,.rp i _=>match m i with
  |some _=>some { pre:=ptT P t=true,val:=.s (.bool false),rd:=[i] }
  |none=>none
 | .const (.pointer none),.neq,.rp i _=>match m i with
  |some _=>some { pre:=ptT P t=true,val:=.s (.bool true),rd:=[i] }
  |none=>none
 |_,_,_=>none
def H0(P:Program)(m:Mem)(t:TypeId):D->Option ei
 | .sl _ n=>some { pre:=slT P t=true,val:=.s (.int .i64 n) }
 | .rs i _ n=>match m i with
  |some _=>some { pre:=slT P t=true,val:=.s (.int .i64 n),rd:=[i] }
  |none=>none
 | .z=>some { pre:=slT P t=true,val:=.s (.int .i64 0) }
 | .s (.string b)=>some { pre:=stT P t=true,val:=.s (.int .i64 b.size) }
 | .agg _=>some { pre:=arT P t=true,val:=.s (.int .i64 (lenP P t)) }
 |_=>none
def CU(m:Mem)(sz:Nat):D->Option (PD (List Nat×Nat×List D))
 | .sl es n=>some ⟨n*sz<=es.length,([],n,es.take (n*sz))⟩
 | .z=>some ⟨True,([],0,[])⟩
 | .rs i off n=>match m i with
  |some (.cells cs _)=>some ⟨off+n*sz<=cs.length,([i],n,(cs.drop off).take (n*sz))⟩
  |_=>none
 |_=>none
def Gu(P:Program)(m:Mem)(nx:Nat)(t:TypeId)(s x:D):Option ei:=
 let e:=elemP P t
 let sz:=P.cellsOf e
 match CU m sz x with
 |none=>none
 |some (@PD.mk _ p _ (rd,k,news))=>
  match s with
  | .z=>some { pre:=slT P t=true/\p/\0<sz/\k<=maxLen/\k*P.bytesOf e<=140737488355328,val:=.rs nx 0 k,ups:=[(nx,some (.cells news e))],rd:=rd,new:=1 }
  | .rs i off n=>match m i with
   |some (.cells cs e')=>some { pre:=slT P t=true/\e'=e/\p/\0<sz/\off+n*sz=cs.length/\n+k<=maxLen/\(n+k)*P.bytesOf e<=140737488355328/\i∉rd,val:=.rs nx 0 (n+k),ups:=[(i,none),(nx,some (.cells (cs.drop off++news) e))],rd:=i::rd,new:=1 }
   |_=>none
  |_=>none
def Gv(P:Program)(m:Mem)(t:TypeId)(x k:D)(ok:Bool):Option ei:=match keyV k,x with
 |some key,.mp i=>match m i with
  |some (.map es)=>some { pre:=mapT P t=true/\keyP P (mkeyP P t) key=true/\es.all (fun e=>keyP P (mkeyP P t) e.1)=true,val:=gotD P t ok (lookD key es),rd:=[i] }
  |_=>none
 |some key,.im es=>some { pre:=mapT P t=true/\keyP P (mkeyP P t) key=true/\es.all (fun e=>keyP P (mkeyP P t) e.1)=true,val:=gotD P t ok (lookD key es) }
 |some key,.s (.map none)=>some { pre:=mapT P t=true/\keyP P (mkeyP P t) key=true,val:=gotD P t ok none }
 |_,_=>none
def Dl(P:Program)(m:Mem)(t:TypeId)(x k v:D):Option ei:=match keyV k,x with
 |some key,.mp i=>match m i with
  |some (.map es)=>some { pre:=mapT P t=true/\keyP P (mkeyP P t) key=true/\es.all (fun e=>keyP P (mkeyP P t) e.1)=true,val:=.tup [],ups:=[(i,some (.map (putD key v es)))],rd:=[i] }
  |_=>none
 |_,_=>none
def Gw(P:Program)(m:Mem)(t:TypeId)(x k:D):Option ei:=match keyV k,x with
 |some key,.mp i=>match m i with
  |some (.map es)=>some { pre:=mapT P t=true/\keyP P (mkeyP P t) key=true/\es.all (fun e=>keyP P (mkeyP P t) e.1)=true,val:=.tup [],ups:=[(i,some (.map (delD key es)))],rd:=[i] }
  |_=>none
 |_,_=>none
def Db(P:Program)(m:Mem)(nx:Nat)(b:Builtin)(ts:Array TypeId)(args:List D):Option ei:=
 match b,args with
 | .len,[x]=>H0 P m (ts.getD 0 0) x
 | .append,[s,x]=>if ts.getD 0 0=ts.getD 1 0 then Gu P m nx (ts.getD 0 0) s x else none
 | .min,[.s (.int k a),.s (.int k' b)]=>some { pre:=k=k',val:=.s (.int k (if b<a then b else a)) }
 | .clear,[.rs i off n]=>match m i with
  |some (.cells cs e)=>some { pre:=slT P (ts.getD 0 0)=true/\off+n*P.cellsOf e<=cs.length/\e=elemP P (ts.getD 0 0),val:=.tup [],ups:=[(i,some (.cells (splice cs off (replD n (zeroP P e))) e))],rd:=[i] }
  |_=>none
 | .delete,[x,k]=>Gw P m (ts.getD 0 0) x k
 |_,_=>none
def G3(P:Program)(m:Mem)(t:TypeId)(x:D)(lo hi C:Option D):Option ei:=
 match x with
 | .sl es n=>match bndD lo 0,bndD hi n,C with
  |some l,some h,none=>some { pre:=slT P t=true/\0<=l/\l<=h/\h<=n,val:=.sl ((es.drop (l.toNat*P.cellsOf (elemP P t))).take ((h - l).toNat*P.cellsOf (elemP P t))) (h - l).toNat }
  |some l,some h,some d=>match d.int? with
   |some k=>some { pre:=slT P t=true/\hi.isSome=true/\0<=l/\l<=h/\h<=k/\k<=n,val:=.sl ((es.drop (l.toNat*P.cellsOf (elemP P t))).take ((h - l).toNat*P.cellsOf (elemP P t))) (h - l).toNat }
   |none=>none
  |_,_,_=>none
 | .rs i off n=>match m i with
  |some (.cells _ e)=>match bndD lo 0,bndD hi n,C with
   |some l,some h,none=>some { pre:=(slT P t=true/\P.cellsOf e=P.cellsOf (elemP P t))/\0<=l/\l<=h/\h<=n,val:=.rs i (off+l.toNat*P.cellsOf (elemP P t)) (h - l).toNat,rd:=[i] }
   |_,_,_=>none
  |_=>none
 | .s (.string b)=>match bndD lo 0,bndD hi b.size,C with
  |some l,some h,none=>some { pre:=stT P t=true/\0<=l/\l<=h/\h<=b.size,val:=.s (.string (b.extract l.toNat h.toNat)) }
  |_,_,_=>none
 |_=>none
def iI(P:Program)(o:Op)(ρ:Operand->D)(m:Mem)(nx:Nat):Option ei:=
 match o with
 | .move x=>some { pre:=True,val:=ρ x }
 | .assign x=>some { pre:=True,val:=ρ x }
 | .pick c a b=>match (ρ c).core.bool? with
  |some t=>some { pre:=(t=true->(ρ a).ask/\(ρ a).core.bool?.isSome=true)/\(t=false->(ρ b).ask/\(ρ b).core.bool?.isSome=true),val:=.s (.bool (if t then(ρ a).core.bool?.getD false else(ρ b).core.bool?.getD false)) }
  |none=>none
 | .alloc t=>some { pre:=tyOk P t=true,val:=.rp nx 0,ups:=[(nx,some (.cells (zeroP P t) t))],new:=1 }
 | .box t x=>some { pre:=(ρ x).cells.all D.one=true,val:=.rp nx 0,ups:=[(nx,some (.cells (ρ x).cells t))],new:=1 }
 | .build t ps=>match P.underlying t with
  |some (.struct fs)=>(fillD (fun i=>(fs[i]?).map fun f=>(f.offset,P.cellsOf f.type)) (zeroP P t) (ps.toList.map fun q=>(q.1,ρ q.2))).map fun cs=>{ pre:=tyOk P t=true/\fs.toList.all (fun f=>(P.info? f.type).isSome)=true,val:=.agg cs }
  |some (.array _ e)=>(fillD (fun i=>some (i*P.cellsOf e,P.cellsOf e)) (zeroP P t) (ps.toList.map fun q=>(q.1,ρ q.2))).map fun cs=>{ pre:=tyOk P t=true/\tyOk P e=true,val:=.agg cs }
  |_=>none
 | .buildSlice t n ps=>(fillD (fun i=>some (i*P.cellsOf (elemP P t),P.cellsOf (elemP P t))) (replD n (zeroP P (elemP P t))) (ps.toList.map fun q=>(q.1,ρ q.2))).map fun cs=>
   { pre:=cs.all D.one=true/\n*P.cellsOf (elemP P t)<=2 ^ 24/\slT P t=true/\n<=maxLen,val:=.rs nx 0 n,ups:=[(nx,some (.cells cs (elemP P t)))],new:=1 }
 | .load t a=>match ρ a with
  | .pt cs=>some { pre:=tyOk P t=true/\P.cellsOf t<=cs.length,val:=takeV P t cs }
  | .rp i off=>match m i with
   |some (.cells cs _)=>some { pre:=tyOk P t=true/\off+P.cellsOf t<=cs.length,val:=takeV P t (cs.drop off),rd:=[i] }
   |_=>none
  |_=>none
 | .store t a x=>match ρ a with
  | .rp i off=>match m i with
   |some (.cells cs e)=>some { pre:=tyOk P t=true/\(ρ x).cells.length=P.cellsOf t/\off+P.cellsOf t<=cs.length/\(ρ x).cells.all D.one=true,val:=.tup [],ups:=[(i,some (.cells (splice cs off (ρ x).cells) e))],rd:=[i] }
   |_=>none
  |_=>none
 | .nilCheck x=>match ρ x with
  | .pt cs=>some { pre:=True,val:=.pt cs }
  | .rp i off=>match m i with
   |some _=>some { pre:=True,val:=.rp i off,rd:=[i] }
   |none=>none
  |_=>none
 | .binOp op t x y _=>match D3 P m op t (ρ x) y with
  |some e=>some e
  |none=>(HZ P op t (ρ x) (ρ y)).map fun r=> @ei.mk r.p r.dec r.d [] [] 0
 | .unOp op _ x=>match ρ x with
  | .s v=>(unV op v).map fun r=>{ pre:=True,val:=.s r }
  |_=>none
 | .convert src dst x=>match P.underlying dst,ρ x with
  |some (.int k),.s (.int _ n)=>some { pre:=tyOk P src=true,val:=.s (.int k (k.wrap n)) }
  |some (.slice e),.s (.string b)=>match P.underlying e with
   |some (.int .u8)=>some { pre:=stT P src=true/\b.size<=maxLen,val:=.sl (b.data.toList.map fun c=>.s (.int .u8 c.toNat)) b.size }
   |_=>none
  |_,_=>none
 | .makeFunc f fs cs=>some { pre:=True,val:=.fn f (fs.toList.map ρ) (cs.toList.map ρ) }
 | .makeMap _ r=>match r with
  |none=>some { pre:=True,val:=.mp nx,ups:=[(nx,some (.map []))],new:=1 }
  |some _=>none
 | .makeSlice t l c=>match ρ l,ρ c with
  | .s (.int .i64 n),.s (.int .i64 k)=>some { pre:=0<=n/\n=k/\n<=9223372036854775807/\P.bytesOf (elemP P t)*n<=281474976710656/\slT P t=true,val:=.rs nx 0 n.toNat,ups:=[(nx,some (.cells (replD n.toNat (zeroP P (elemP P t))) (elemP P t)))],new:=1 }
  |_,_=>none
 | .lookup t x k ok=>Gv P m t (ρ x) (ρ k) ok
 | .mapUpdate t x k v=>Dl P m t (ρ x) (ρ k) (ρ v)
 | .insert t x k v=>Dl P m t (ρ x) (ρ k) (ρ v)
 | .slice t x lo hi C=>G3 P m t (ρ x) (lo.map ρ) (hi.map ρ) (C.map ρ)
 | .fieldAddr t x k=>match fieldP P t k,ρ x with
  |some (off,ft),.pt cs=>some { pre:=0<P.cellsOf ft,val:=.pt (cs.drop off) }
  |some (off,ft),.rp i o=>match m i with
   |some _=>some { pre:=0<P.cellsOf ft,val:=.rp i (o+off),rd:=[i] }
   |none=>none
  |_,_=>none
 | .field t x k=>match fieldP P t k,ρ x with
  |some (off,ft),.agg cs=>some { pre:=tyOk P ft=true/\off+P.cellsOf ft<=cs.length,val:=takeV P ft (cs.drop off) }
  |_,_=>none
 | .indexAddr t x i=>match ρ x,ρ i with
  | .sl es n,.s (.int _ k)=>some { pre:=slT P t=true/\0<=k/\k<n/\(k.toNat+1)*P.cellsOf (elemP P t)<=es.length,val:=.pt (es.drop (k.toNat*P.cellsOf (elemP P t))) }
  | .rs j off n,.s (.int _ k)=>match m j with
   |some _=>some { pre:=slT P t=true/\0<=k/\k<n,val:=.rp j (off+k.toNat*P.cellsOf (elemP P t)),rd:=[j] }
   |none=>none
  | .rp j off,.s (.int _ k)=>match m j with
   |some _=>some { pre:=arT P t=true/\0<=k/\k<lenP P t,val:=.rp j (off+k.toNat*P.cellsOf (elemP P t)),rd:=[j] }
   |none=>none
  |_,_=>none
 | .index t x i=>match ρ x,ρ i with
  | .s (.string b),.s (.int _ k)=>some { pre:=stT P t=true/\0<=k/\k<b.size,val:=.s (.int .u8 (b.data.toList.getD k.toNat 0).toNat) }
  | .agg cs,.s (.int _ k)=>some { pre:=arT P t=true/\0<=k/\k<lenP P t/\(k.toNat+1)*P.cellsOf (elemP P t)<=cs.length,val:=takeV P (elemP P t) (cs.drop (k.toNat*P.cellsOf (elemP P t))) }
  |_,_=>none
 | .extract x k=>match ρ x with
  | .tup cs=>some { pre:=k<cs.length,val:=cs.getD k .u }
  |_=>none
 | .call c=>match c.callee with
  | .builtin b=>if c.argTypes.size=c.args.size then Db P m nx b c.argTypes (c.args.toList.map ρ) else none
  |_=>none
 |_=>none
theorem YS(op:BinOp)(x y:Value):binV op x y=(D2 op x y).map fun r=>(r.p,r.d):=by
 cases op<;>cases x<;>first|rfl|(cases y<;>rfl)
theorem WK(P:Program)(op:BinOp)(t:TypeId)(xs ys:List D):aggEqD P op t xs ys=(G0 P op t xs ys).map fun r=>(r.p,r.d):=by
 unfold aggEqD G0;cases op<;>first|rfl|skip
 all_goals cases flatT P t<;>first|rfl|skip
 all_goals cases zipV xs ys<;>rfl
theorem YT(P:Program)(op:BinOp)(t:TypeId)(x y:D):binD P op t x y=(HZ P op t x y).map fun r=>(r.p,r.d):=by
 have C:∀ a b,(binV op a b).map (fun r=>(r.1,D.s r.2))=((D2 op a b).map fun r=> @PD.mk _ r.p r.dec (D.s r.d)).map fun r=>(r.p,r.d):=fun a b=>by
  rw[YS];cases D2 op a b<;>rfl
 cases x with
 |s a=>
  cases y with
  |s b=>
   cases a with
   |bool a=>
    cases b with
    |bool b=>cases op<;>rfl
    |_=>exact C _ _
   |_=>exact C _ _
  |_=>cases a<;>rfl
 |agg xs=>
  cases y with
  |agg ys=>exact WK P op t xs ys
  |_=>rfl
 |_=>rfl
theorem YU(P:Program)(m:Mem)(op:BinOp)(t:TypeId)(x:D)(y:Operand):nilD P m op t x y=(D3 P m op t x y).map ei.gM:=by
 unfold nilD D3;split<;>split<;>simp_all[ei.gM]
 all_goals split<;>simp_all[ei.gM]
theorem YV(P:Program)(m:Mem)(t:TypeId)(x:D):lenD P m t x=(H0 P m t x).map ei.gM:=by
 unfold lenD H0;split<;>first|rfl|skip
 all_goals split<;>simp_all[ei.gM]
theorem Wb(m:Mem)(sz:Nat)(x:D):sliceCells m sz x=(CU m sz x).map fun r=>(r.p,r.d):=by
 unfold sliceCells CU;split<;>first|rfl|skip
 all_goals split<;>simp_all
theorem Wv(P:Program)(m:Mem)(nx:Nat)(t:TypeId)(s x:D):appendD P m nx t s x=(Gu P m nx t s x).map ei.gM:=by
 unfold appendD Gu;simp only[Wb];cases CU m (P.cellsOf (elemP P t)) x with
 |none=>rfl
 |some r=>
  obtain⟨p,rd,k,news⟩:=r;simp only[Option.map_some];split<;>first|rfl|skip
  all_goals split<;>simp_all[ei.gM]
theorem Ww(P:Program)(m:Mem)(t:TypeId)(x k:D)(ok:Bool):lookupD P m t x k ok=(Gv P m t x k ok).map ei.gM:=by
 unfold lookupD Gv;split<;>first|rfl|skip
 all_goals split<;>simp_all[ei.gM]
theorem KU(P:Program)(m:Mem)(t:TypeId)(x k v:D):mapPutD P m t x k v=(Dl P m t x k v).map ei.gM:=by
 unfold mapPutD Dl;split<;>first|rfl|skip
 all_goals split<;>simp_all[ei.gM]
theorem Wx(P:Program)(m:Mem)(t:TypeId)(x k:D):mapDelD P m t x k=(Gw P m t x k).map ei.gM:=by
 unfold mapDelD Gw;split<;>first|rfl|skip
 all_goals split<;>simp_all[ei.gM]
theorem Wl(P:Program)(m:Mem)(nx:Nat)(b:Builtin)(ts:Array TypeId)(args:List D):builtinD P m nx b ts args=(Db P m nx b ts args).map ei.gM:=by
 cases b with
 |len=>
  match args with
  |[]=>rfl
  |[x]=>exact YV _ _ _ _
  |_::_::_=>rfl
 |append=>
  match args with
  |[]=>rfl
  |[x]=>rfl
  |[s,x]=>
   simp only[builtinD,Db];split
   .exact Wv _ _ _ _ _ _
   .rfl
  |_::_::_::_=>rfl
 |min=>
  match args with
  |[]=>rfl
  |[x]=>
   cases x with
   |s a=>cases a<;>rfl
   |_=>rfl
  |[x,y]=>
   cases x with
   |s a=>
    cases a with
    |int k a=>
     cases y with
     |s b=>cases b<;>rfl
     |_=>rfl
    |_=>rfl
   |_=>rfl
  |x::y::_::_=>
   cases x with
   |s a=>
    cases a with
    |int k a=>
     cases y with
     |s b=>cases b<;>rfl
     |_=>rfl
    |_=>rfl
   |_=>rfl
 |clear=>
  match args with
  |[]=>rfl
  |[x]=>
   cases x with
   |rs i off n=>
    simp only[builtinD,Db];cases m i with
    |none=>rfl
    |some r=>cases r<;>rfl
   |_=>rfl
  |x::_::_=>cases x<;>rfl
 |delete=>
  match args with
  |[]=>rfl
  |[x]=>rfl
  |[x,k]=>exact Wx _ _ _ _ _
  |_::_::_::_=>rfl
 |_=>rfl
theorem WL(P:Program)(m:Mem)(t:TypeId)(x:D)(lo hi C:Option D):sliceD P m t x lo hi C=(G3 P m t x lo hi C).map ei.gM:=by
 unfold sliceD G3;cases x with
 |sl es n=>
  simp only;cases bndD lo 0<;>first|rfl|skip
  cases bndD hi n<;>first|rfl|skip
  cases C with
  |none=>rfl
  |some d=>
   simp only;cases d.int? <;>rfl
 |rs i off n=>
  simp only;cases m i with
  |none=>rfl
  |some r=>
   cases r<;>first|rfl|skip
   simp only;cases bndD lo 0<;>first|rfl|skip
   cases bndD hi n<;>first|rfl|skip
   cases C<;>rfl
 |s v=>
  cases v<;>first|rfl|skip
  simp only;cases bndD lo 0<;>first|rfl|skip
  rename_i b _;cases bndD hi b.size<;>first|rfl|skip
  cases C<;>rfl
 |_=>rfl
theorem Nd(P:Program)(o:Op)(ρ:Operand->D)(m:Mem)(nx:Nat):aop P o ρ m nx=(iI P o ρ m nx).map ei.gM:=by
 cases o with
 |call c=>
  simp only[aop,iI];cases c.callee with
  |builtin b=>
   simp only;split
   .exact Wl _ _ _ _ _ _
   .rfl
  |_=>rfl
 |binOp op t x y _=>
  simp only[aop,iI,YU,YT];cases D3 P m op t (ρ x) y with
  |some e=>rfl
  |none=>
   cases HZ P op t (ρ x) (ρ y) with
   |some r=>rfl
   |none=>rfl
 |lookup t x k ok=>exact Ww _ _ _ _ _ _
 |mapUpdate t x k v=>exact KU _ _ _ _ _ _
 |insert t x k v=>exact KU _ _ _ _ _ _
 |slice t x lo hi J=>exact WL _ _ _ _ _ _ _
 |build t ps=>
  simp only[aop,iI];cases P.underlying t with
  |none=>rfl
  |some u=>
   cases u with
   |struct fs=>simp only;cases fillD _ _ _<;>rfl
   |array n e=>simp only;cases fillD _ _ _<;>rfl
   |_=>rfl
 |buildSlice t n ps=>
  simp only[aop,iI];cases fillD _ _ _<;>rfl
 |unOp op t x=>
  simp only[aop,iI];cases ρ x with
  |s v=>simp only;cases unV op v<;>rfl
  |_=>rfl
 |load t a=>
  simp only[aop,iI];cases ρ a with
  |rp i off=>simp only;cases m i with
   |none=>rfl
   |some r=>cases r<;>rfl
  |_=>rfl
 |store t a x=>
  simp only[aop,iI];cases ρ a with
  |rp i off=>simp only;cases m i with
   |none=>rfl
   |some r=>cases r<;>rfl
  |_=>rfl
 |pick c a b=>
  simp only[aop,iI];cases (ρ c).core.bool? <;>rfl
 |nilCheck x=>
  simp only[aop,iI];cases ρ x with
  |rp i off=>simp only;cases m i<;>rfl
  |_=>rfl
 |makeMap t r=>cases r<;>rfl
 |makeSlice t l c=>
  simp only[aop,iI];cases ρ l with
  |s v=>
   cases v with
   |int k n=>
    cases k with
    |i64=>
     cases ρ c with
     |s v=>cases v with
      |int k n=>cases k<;>rfl
      |_=>rfl
     |_=>rfl
    |_=>rfl
   |_=>rfl
  |_=>rfl
 |convert src dst x=>
  simp only[aop,iI];cases P.underlying dst with
  |none=>rfl
  |some u=>
   cases u with
   |int k=>cases ρ x with
    |s v=>cases v<;>rfl
    |_=>rfl
   |slice e=>cases ρ x with
    |s v=>cases v with
     |string b=>
      simp only;cases P.underlying e with
      |none=>rfl
      |some u=>
       cases u with
       |int k=>cases k<;>rfl
       |_=>rfl
     |_=>rfl
    |_=>rfl
   |_=>rfl
 |fieldAddr t x k=>
  simp only[aop,iI];cases fieldP P t k with
  |none=>rfl
  |some q=>
   obtain⟨off,C⟩:=q;cases ρ x with
   |rp i o=>simp only;cases m i<;>rfl
   |_=>rfl
 |field t x k=>
  simp only[aop,iI];cases fieldP P t k with
  |none=>rfl
  |some q=>
   obtain⟨off,C⟩:=q;cases ρ x<;>rfl
 |indexAddr t x i=>
  simp only[aop,iI];cases ρ x with
  |sl es n=>cases ρ i with
   |s v=>cases v<;>rfl
   |_=>rfl
  |rs j off n=>cases ρ i with
   |s v=>cases v with
    |int k n=>simp only;cases m j<;>rfl
    |_=>rfl
   |_=>rfl
  |rp j off=>cases ρ i with
   |s v=>cases v with
    |int k n=>simp only;cases m j<;>rfl
    |_=>rfl
   |_=>rfl
  |_=>rfl
 |index t x i=>
  simp only[aop,iI];cases ρ x with
  |s v=>cases v with
   |string b=>cases ρ i with
    |s v=>cases v<;>rfl
    |_=>rfl
   |_=>rfl
  |agg cs=>cases ρ i with
   |s v=>cases v<;>rfl
   |_=>rfl
  |_=>rfl
 |extract x k=>
  simp only[aop,iI];cases ρ x<;>rfl
 |_=>rfl
inductive T(α:Type) where
 |leaf
 |node (v:Option α) (l r:T α)
def T.get{α:Type}:T α->Nat->Option α
 | .leaf,_=>none
 | .node v l r,i=>bif Nat.beq i 0 then v else bif Nat.beq (i % 2) 1 then l.get (i / 2) else r.get (i / 2 - 1)
def T.set{α:Type}:Nat->T α->Nat->Option α->T α
 |0,t,_,_=>t
 |f+1,.leaf,i,v=>bif Nat.beq i 0 then .node v .leaf .leaf else bif Nat.beq (i % 2) 1 then .node none (T.set f .leaf (i / 2) v) .leaf else .node none .leaf (T.set f .leaf (i / 2 - 1) v)
 |f+1,.node v0 l r,i,v=>bif Nat.beq i 0 then .node v l r else bif Nat.beq (i % 2) 1 then .node v0 (T.set f l (i / 2) v) r else .node v0 l (T.set f r (i / 2 - 1) v)
theorem T.sT{α:Type}(v:Option α)(l r:T α)(i:Nat):(T.node v l r).get i=if i=0 then v else if i % 2=1 then l.get (i / 2) else r.get (i / 2 - 1):=by
 simp only[T.get,Bool.cond_eq_ite,Nat.beq_eq]
theorem T.Av{α:Type}(v:Option α):∀ (f:Nat) (t:T α) (i j:Nat),i+1<2 ^ f->(T.set f t i v).get j=if j=i then v else t.get j
 |0,t,i,j,h=>by simp at h
 |f+1,t,i,j,h=>by
  have h2:2 ^ (f+1)=2*2 ^ f:=by rw[Nat.pow_succ];omega
  have X:i % 2=1->i / 2+1<2 ^ f:=fun _=>by omega
  have iS:i≠0->i % 2≠1->i / 2 - 1+1<2 ^ f:=fun _ _=>by omega
  have U:∀ k,(T.leaf:T α).get k=none:=fun k=>rfl;cases t with
  |leaf=>
   simp only[T.set,Bool.cond_eq_ite,Nat.beq_eq];by_cases h0:i=0
   .subst h0;simp only[if_true,T.sT,U];by_cases hj:j=0<;>simp[hj]
   .rw[if_neg h0];by_cases h1:i % 2=1
    .rw[if_pos h1,T.sT,T.Av v f _ _ _ (X h1)];simp only[U];by_cases hj:j=i
     .subst hj;simp[h0,h1]
     .rw[if_neg hj];by_cases C:j=0
      .rw[if_pos C]
      .rw[if_neg C];by_cases J:j % 2=1
       .rw[if_pos J,if_neg oG]
       .rw[if_neg J]
    .rw[if_neg h1,T.sT,T.Av v f _ _ _ (iS h0 h1)];simp only[U];by_cases hj:j=i
     .subst hj;simp[h0,h1]
     .rw[if_neg hj];by_cases C:j=0
      .rw[if_pos C]
      .rw[if_neg C];by_cases J:j % 2=1
       .rw[if_pos J]
       .rw[if_neg J,if_neg oG]
  |node v0 l r=>
   simp only[T.set,Bool.cond_eq_ite,Nat.beq_eq];by_cases h0:i=0
   .subst h0;simp only[if_true,T.sT];by_cases hj:j=0<;>simp[hj]
   .rw[if_neg h0];by_cases h1:i % 2=1
    .rw[if_pos h1,T.sT,T.sT,T.Av v f _ _ _ (X h1)];by_cases hj:j=i
     .subst hj;simp[h0,h1]
     .rw[if_neg hj];by_cases C:j=0
      .rw[if_pos C,if_pos C]
      .rw[if_neg C,if_neg C];by_cases J:j % 2=1
       .rw[if_pos J,if_pos J,if_neg oG]
       .rw[if_neg J,if_neg J]
    .rw[if_neg h1,T.sT,T.sT,T.Av v f _ _ _ (iS h0 h1)];by_cases hj:j=i
     .subst hj;simp[h0,h1]
     .rw[if_neg hj];by_cases C:j=0
      .rw[if_pos C,if_pos C]
      .rw[if_neg C,if_neg C];by_cases J:j % 2=1
       .rw[if_pos J,if_pos J]
       .rw[if_neg J,if_neg J,if_neg oG]
def T.put{α:Type}(t:T α)(i:Nat)(v:Option α):Option (T α):=bif Nat.blt i 1000000 then some (T.set 20 t i v) else none
theorem T.Nf{α:Type}{t C:T α}{i:Nat}{v:Option α}(h:t.put i v=some C)(j:Nat):C.get j=if j=i then v else t.get j:=by
 unfold T.put at h;cases hb:Nat.blt i 1000000 with
 |false=>rw[hb] at h;cases h
 |true=>
  rw[hb] at h;simp only[cond_true,Option.some.injEq] at h;subst h;have:i<1000000:=by simpa using hb
  exact T.Av v 20 t i j oG
structure bQ where
 env:T D
 mem:T Row
 nx:Nat
def cT(t:T D):Env:=fun i=>(t.get i).getD .u
def dT(t:T Row):Mem:=fun i=>t.get i
def bQ.st(c:bQ):St:=⟨cT c.env,dT c.mem,c.nx⟩
theorem Gx{t C:T D}{i:Nat}{d:D}(h:t.put i (some d)=some C):cT C=up (cT t) i d:=by
 funext j;simp only[cT,T.Nf h,up_apply];split<;>rfl
theorem Mr{t C:T Row}{i:Nat}{r:Option Row}(h:t.put i r=some C):dT C=up (dT t) i r:=by
 funext j;simp only[dT,T.Nf h,up_apply]
def zc(t:T D):Option Nat->D->Option (T D)
 |none,_=>some t
 |some i,d=>t.put i (some d)
def BC(m:T Row):List (Nat×Option Row)->Option (T Row)
 |[]=>some m
 |(i,r)::us=>match m.put i r with
  |some m'=>BC m' us
  |none=>none
theorem G4{t C:T D}{dst:Option Nat}{d:D}(h:zc t dst d=some C)(m:Mem)(nx:Nat):(⟨cT C,m,nx⟩:St)=St.put ⟨cT t,m,nx⟩ dst d:=by
 cases dst with
 |none=>simp only[zc,Option.some.injEq] at h;subst h;rfl
 |some i=>simp only[zc] at h;simp only[St.put,Gx h]
theorem Ms:∀ {us:List (Nat×Option Row)} {m m':T Row},BC m us=some m'->dT m'=upds (dT m) us
 |[],m,m',h=>by simp only[BC,Option.some.injEq] at h;subst h;rfl
 |(i,r)::us,m,m',h=>by
  simp only[BC] at h;cases hp:m.put i r with
  |none=>rw[hp] at h;cases h
  |some C=>
   rw[hp] at h;simp only at h;rw[Ms h,Mr hp];rfl
def oB:Nat->D->Bool
 |0,_=>false
 |n+1,d=>match d with
  | .rs .. | .rp .. | .mp _=>false
  | .opt _ d=>oB n d
  | .agg cs | .tup cs | .pt cs | .sl cs _=>cs.all (oB n)
  | .fn _ fs cs=>fs.all (oB n)&&cs.all (oB n)
  | .im es=>es.all fun x=>oB n x.2
  |_=>true
section
variable{P:Program}{F:Nat->Prop}{β:Pla}{w:World}
theorem nP:∀ {n:Nat} {d:D},oB n d=true->Tr d
 |0,_,h=>by cases h
 |n+1,d,h=>by
  cases d with
  |rs=>cases h
  |rp=>cases h
  |mp=>cases h
  |opt c d=>exact .opt (nP h)
  |agg cs=>exact .agg fun d hd=>nP (List.all_eq_true.1 h d hd)
  |tup cs=>exact .tup fun d hd=>nP (List.all_eq_true.1 h d hd)
  |sl cs n=>exact .sl fun d hd=>nP (List.all_eq_true.1 h d hd)
  |pt cs=>exact .pt fun d hd=>nP (List.all_eq_true.1 h d hd)
  |fn f fs cs=>
   simp only[oB,Bool.and_eq_true] at h;exact .fn (fun d hd=>nP (List.all_eq_true.1 h.1 d hd)) fun d hd=>nP (List.all_eq_true.1 h.2 d hd)
  |im es=>exact .im fun x hx=>nP (List.all_eq_true.1 h x hx)
  |s v=>exact .s v
  |ub=>exact .ub
  |u=>exact .u
  |z=>exact .z
def gF{α β:Type}(f:α->Option (β×List Nat)):List α->Option (List β×List Nat)
 |[]=>some ([],[])
 |x::xs=>match f x with
  |none=>none
  |some y=>match gF f xs with
   |none=>none
   |some ys=>some (y.1::ys.1,y.2++ys.2)
theorem Dc{α β:Type}{f:α->Option (β×List Nat)}:∀ {xs:List α} {ys:List β} {r:List Nat},gF f xs=some (ys,r)->
 ys.length=xs.length/\(∀ (k:Nat) (y:β),ys[k]? =some y->∃ x r',xs[k]? =some x/\f x=some (y,r')/\∀ i∈r',i∈r)
 |[],ys,r,h=>by simp only[gF,Option.some.injEq,Prod.mk.injEq] at h;obtain⟨rfl,rfl⟩:=h;simp
 |x::xs,ys,r,h=>by
  simp only[gF] at h;cases hx:f x with
  |none=>rw[hx] at h;cases h
  |some y=>
   rw[hx] at h;simp only at h;cases J:gF f xs with
   |none=>rw[J] at h;cases h
   |some U=>
    rw[J] at h;simp only[Option.some.injEq,Prod.mk.injEq] at h;obtain⟨rfl,rfl⟩:=h;obtain⟨h1,h2⟩:=Dc (ys:=U.1) (r:=U.2) J;refine⟨by simp[h1],fun k z C=>?_⟩;cases k with
    |zero=>
     simp only[List.getElem?_cons_zero,Option.some.injEq] at C;subst C;exact⟨x,y.2,rfl,hx,fun i hi=>by simp[hi]⟩
    |succ k=>
     obtain⟨x',r',X,g2,g3⟩:=h2 k z (by simpa using C);exact⟨x',r',by simpa using X,g2,fun i hi=>by simp[g3 i hi]⟩
def b9(P:Program)(m:Mem):Nat->D->Option (D×List Nat)
 |0,_=>none
 |n+1,d=>match d with
  | .mp i=>match m i with
   |some (.map es)=>(gF (fun x=>(b9 P m n x.2).map fun y=>((x.1,y.1),y.2)) es).map fun x=>(.im x.1,i::x.2)
   |_=>none
  | .im es=>(gF (fun x=>(b9 P m n x.2).map fun y=>((x.1,y.1),y.2)) es).map fun x=>(.im x.1,x.2)
  | .rs i off k=>match m i with
   |some (.cells cs e)=>(gF (b9 P m n) ((cs.drop off).take (k*P.cellsOf e))).map fun x=>(.sl x.1 k,i::x.2)
   |_=>none
  | .rp i off=>match m i with
   |some (.cells cs _)=>(gF (b9 P m n) (cs.drop off)).map fun x=>(.pt x.1,i::x.2)
   |_=>none
  | .opt true d=>(b9 P m n d).map fun x=>(.opt true x.1,x.2)
  | .opt false _=>some (.opt false .u,[])
  | .agg cs=>(gF (b9 P m n) cs).map fun x=>(.agg x.1,x.2)
  | .tup cs=>(gF (b9 P m n) cs).map fun x=>(.tup x.1,x.2)
  | .sl cs k=>(gF (b9 P m n) cs).map fun x=>(.sl x.1 k,x.2)
  | .pt cs=>(gF (b9 P m n) cs).map fun x=>(.pt x.1,x.2)
  | .fn f fs cs=>match gF (b9 P m n) fs with
   |none=>none
   |some x=>(gF (b9 P m n) cs).map fun y=>(.fn f x.1 y.1,x.2++y.2)
  | .s v=>some (.s v,[])
  | .ub=>some (.ub,[])
  | .u=>some (.u,[])
  | .z=>some (.z,[])
theorem qf{α β:Type}{f:α->Option (β×List Nat)}{xs:List α}{ys:List β}{r:List Nat}(h:gF f xs=some (ys,r)){p:β->Prop}(hp:∀ x y r',f x=some (y,r')->p y):∀ y∈ys,p y:=fun y hy=>by
 obtain⟨k,hk⟩:=List.getElem?_of_mem hy;obtain⟨x,r',_,h2,_⟩:=(Dc h).2 k y hk;exact hp x y r' h2
theorem DA{m:Mem}:∀ {n:Nat} {d d':D} {r:List Nat},b9 P m n d=some (d',r)->Tr d'
 |0,_,_,_,h=>by cases h
 |n+1,d,d',r,h=>by
  have ih:∀ x y r',b9 P m n x=some (y,r')->Tr y:=fun x y r' h=>DA h
  have C:∀ (x:Value×D) (y:Value×D) r',(b9 P m n x.2).map (fun y=>((x.1,y.1),y.2))=some (y,r')->Tr y.2:=fun x y r' h=>by
   simp only[Option.map_eq_some_iff,Prod.mk.injEq] at h;obtain⟨z,J,rfl,_⟩:=h;exact DA (r:=z.2) J
  cases d with
  |mp i=>
   simp only[b9] at h;split at h
   .simp only[Option.map_eq_some_iff,Prod.mk.injEq] at h;obtain⟨x,hx,rfl,_⟩:=h;exact .im (qf (ys:=x.1) (r:=x.2) hx C)
   .cases h
  |im es=>
   simp only[b9,Option.map_eq_some_iff,Prod.mk.injEq] at h;obtain⟨x,hx,rfl,_⟩:=h;exact .im (qf (ys:=x.1) (r:=x.2) hx C)
  |rs i off k=>
   simp only[b9] at h;split at h
   .simp only[Option.map_eq_some_iff,Prod.mk.injEq] at h;obtain⟨x,hx,rfl,_⟩:=h;exact .sl (qf (ys:=x.1) (r:=x.2) hx ih)
   .cases h
  |rp i off=>
   simp only[b9] at h;split at h
   .simp only[Option.map_eq_some_iff,Prod.mk.injEq] at h;obtain⟨x,hx,rfl,_⟩:=h;exact .pt (qf (ys:=x.1) (r:=x.2) hx ih)
   .cases h
  |opt c d=>
   cases c with
   |true=>
    simp only[b9,Option.map_eq_some_iff,Prod.mk.injEq] at h;obtain⟨x,hx,rfl,_⟩:=h;exact .opt (DA (r:=x.2) hx)
   |false=>simp only[b9,Option.some.injEq,Prod.mk.injEq] at h;obtain⟨rfl,_⟩:=h;exact .opt .u
  |agg cs=>
   simp only[b9,Option.map_eq_some_iff,Prod.mk.injEq] at h;obtain⟨x,hx,rfl,_⟩:=h;exact .agg (qf (ys:=x.1) (r:=x.2) hx ih)
  |tup cs=>
   simp only[b9,Option.map_eq_some_iff,Prod.mk.injEq] at h;obtain⟨x,hx,rfl,_⟩:=h;exact .tup (qf (ys:=x.1) (r:=x.2) hx ih)
  |sl cs k=>
   simp only[b9,Option.map_eq_some_iff,Prod.mk.injEq] at h;obtain⟨x,hx,rfl,_⟩:=h;exact .sl (qf (ys:=x.1) (r:=x.2) hx ih)
  |pt cs=>
   simp only[b9,Option.map_eq_some_iff,Prod.mk.injEq] at h;obtain⟨x,hx,rfl,_⟩:=h;exact .pt (qf (ys:=x.1) (r:=x.2) hx ih)
  |fn f fs cs=>
   simp only[b9] at h;cases hx:gF (b9 P m n) fs with
   |none=>rw[hx] at h;cases h
   |some x=>
    rw[hx] at h;simp only[Option.map_eq_some_iff,Prod.mk.injEq] at h;obtain⟨y,hy,rfl,_⟩:=h;exact .fn (qf (ys:=x.1) (r:=x.2) hx ih) (qf (ys:=y.1) (r:=y.2) hy ih)
  |s v=>simp only[b9,Option.some.injEq,Prod.mk.injEq] at h;obtain⟨rfl,_⟩:=h;exact .s v
  |ub=>simp only[b9,Option.some.injEq,Prod.mk.injEq] at h;obtain⟨rfl,_⟩:=h;exact .ub
  |u=>simp only[b9,Option.some.injEq,Prod.mk.injEq] at h;obtain⟨rfl,_⟩:=h;exact .u
  |z=>simp only[b9,Option.some.injEq,Prod.mk.injEq] at h;obtain⟨rfl,_⟩:=h;exact .z
def abV(P:Program)(F:Nat->Prop)(β:Pla)(w:World)(m:Mem)(rds:List Nat):Prop:=∀ i∈rds,∀ r,m i=some r->∃ p,β i=some p/\RowR P F β w r p/\∀ b,p.blk=some b->¬ F b
theorem yf(b:Nat):noRows.free b:=fun i p hp=>by cases hp
theorem A'{m:Mem}:∀ {n:Nat} {d d':D} {r:List Nat},b9 P m n d=some (d',r)->abV P F β w m r->∀ {v:Value},R F β w d v->R F noRows w d' v
 |0,_,_,_,h,_,_,_=>by cases h
 |n+1,d,d',r,h,hl,v,hv=>by
  have many:∀ {xs ys:List D} {r':List Nat},gF (b9 P m n) xs=some (ys,r')->(∀ i∈r',i∈r)->ys.length=xs.length/\∀ (k:Nat) (d:D) (u:Value),ys[k]? =some d->(∀ d0,xs[k]? =some d0->R F β w d0 u)->R F noRows w d u:=fun h hr=>by
   obtain⟨h1,h2⟩:=Dc h;refine⟨h1,fun k d u hd hu=>?_⟩;obtain⟨x,r2,C,J,g3⟩:=h2 k d hd;exact A' J (fun i hi=>hl i (hr i (g3 i hi))) (hu x C)
  have look:∀ {i:Nat} {cs:List D} {e:TypeId},i∈r->m i=some (.cells cs e)->∃ p,β i=some p/\RowR P F β w (.cells cs e) p/\∀ b,p.blk=some b->¬ F b:=fun hi hm=>hl _ hi _ hm
  have Tq:∀ {es ys:List (Value×D)} {r':List Nat} {ms:Array MapEntry},gF (fun x=>(b9 P m n x.2).map fun y=>((x.1,y.1),y.2)) es=some (ys,r')->(∀ i∈r',i∈r)->ms.size=es.length->(es.map (·.1)).Nodup->
   (∀ (k:Nat) (x:Value×D) (m:MapEntry),es[k]? =some x->ms[k]? =some m->m.key=x.1/\R F β w x.2 m.val)->
   ms.size=ys.length/\(ys.map (·.1)).Nodup/\(∀ (k:Nat) (x:Value×D) (m:MapEntry),ys[k]? =some x->ms[k]? =some m->m.key=x.1)/\∀ (k:Nat) (x:Value×D) (m:MapEntry),ys[k]? =some x->ms[k]? =some m->R F noRows w x.2 m.val:=fun {es ys r' ms} h hr bS dm X=>by
   obtain⟨h1,h2⟩:=Dc h
   have key:∀ (k:Nat) (y:Value×D),ys[k]? =some y->∃ x r2,es[k]? =some x/\y.1=x.1/\b9 P m n x.2=some (y.2,r2)/\∀ i∈r2,i∈r':=fun k y hy=>by
    obtain⟨x,r2,C,J,g3⟩:=h2 k y hy;simp only[Option.map_eq_some_iff,Prod.mk.injEq] at J;obtain⟨z,hz,rfl,rfl⟩:=J;exact⟨x,z.2,C,rfl,hz,g3⟩
   have keys:ys.map (·.1)=es.map (·.1):=by
    refine List.ext_getElem? fun k=>?_;simp only[List.getElem?_map];cases hy:ys[k]? with
    |some y=>
     obtain⟨x,_,C,J,_⟩:=key k y hy;simp[C,J]
    |none=>
     have:es[k]? =none:=by
      rw[List.getElem?_eq_none_iff] at hy ⊢;omega
     simp[this]
   refine⟨by rw[h1];exact bS,by rw[keys];exact dm,fun k y mm hy ek=>?_,fun k y mm hy ek=>?_⟩
   .obtain⟨x,r2,C,J,_⟩:=key k y hy;rw[J];exact(X k x mm C ek).1
   .obtain⟨x,r2,C,_,g3,g4⟩:=key k y hy;exact A' g3 (fun i hi=>hl i (hr i (g4 i hi))) (X k x mm C ek).2
  cases d with
  |mp i=>
   simp only[b9] at h;split at h
   .rename_i es hm;simp only[Option.map_eq_some_iff,Prod.mk.injEq] at h;obtain⟨x,hx,rfl,rfl⟩:=h;obtain⟨p,hp,aq,tO⟩:=hl i (List.mem_cons_self ..) _ hm;cases hv with
    |mpd _ _ h1 _=>rw[h1] at hp;cases hp;exact absurd rfl aq.live
    |mp _ b h1=>
     rw[h1] at hp;cases hp;cases aq with
     |map _ _ ms clock C J g3 g4=>
      obtain⟨k1,k2,k3,k4⟩:=Tq (ys:=x.1) (r':=x.2) hx (fun i hi=>List.mem_cons_of_mem _ hi) J g3 g4;exact .im x.1 b ms clock (tO b rfl) (yf b) C k1 k2 k3 k4
   .cases h
  |im es=>
   simp only[b9,Option.map_eq_some_iff,Prod.mk.injEq] at h;obtain⟨x,hx,rfl,rfl⟩:=h;cases hv with
   |im _ b ms clock hf hb hc J g3 g4 g5=>
    obtain⟨k1,k2,k3,k4⟩:=Tq (ys:=x.1) (r':=x.2) hx (fun _ h=>h) J g3 (fun k x m hx hm=>⟨g4 k x m hx hm,g5 k x m hx hm⟩);exact .im x.1 b ms clock hf (yf b) hc k1 k2 k3 k4
  |rs i off k=>
   simp only[b9] at h;split at h
   .rename_i cs e hm;simp only[Option.map_eq_some_iff,Prod.mk.injEq] at h;obtain⟨x,hx,rfl,rfl⟩:=h;obtain⟨p,hp,aq,tO⟩:=look (List.mem_cons_self ..) hm;obtain⟨C,J⟩:=many (ys:=x.1) (r':=x.2) hx (fun i hi=>List.mem_cons_of_mem _ hi)
    have nil:(cs.drop off).take (k*P.cellsOf e)=[]->x.1=[]:=fun e=>by
     rw[e] at C;exact List.eq_nil_of_length_eq_zero (by simpa using C)
    cases hv with
    |rsd _ _ _ _ h1 _=>
     rw[h1] at hp;cases hp;exact absurd rfl aq.live
    |rsn _ a h1=>
     rw[h1] at hp;cases hp;cases aq;rw[nil oS];exact .sln a 0
    |rsz _ _ a b o len room sz h1=>
     rw[nil oS];exact .sln a 0
    |rs _ _ _ cap b o len room sz h1 hn eh h2 h3=>
     rw[h1] at hp;cases hp;obtain⟨cF,hl,bS,_⟩:=aq.rd;obtain⟨us,u1,u2⟩:=(cF.drop off).take (k*P.cellsOf e)
     have ao:b<w.heap.size:=by
      cases aq with
      |cells _ _ _ _ _ _ c hb=>exact(Array.getElem?_eq_some_iff.1 hb).1
     exact .sl x.1 k b (o+off) cap us (tO b rfl) (yf b) ao hn eh (fun j hj=>u1 j (by rw[<- C];exact hj)) fun j d hd=>J j d _ hd fun d0 U=>u2 j d0 U
   .cases h
  |rp i off=>
   simp only[b9] at h;split at h
   .rename_i cs e hm;simp only[Option.map_eq_some_iff,Prod.mk.injEq] at h;obtain⟨x,hx,rfl,rfl⟩:=h;obtain⟨p,hp,aq,tO⟩:=look (List.mem_cons_self ..) hm;obtain⟨C,J⟩:=many (ys:=x.1) (r':=x.2) hx (fun i hi=>List.mem_cons_of_mem _ hi);cases hv with
    |rpd _ _ _ h1 _=>
     rw[h1] at hp;cases hp;exact absurd rfl aq.live
    |rp _ _ b o len room sz h1=>
     rw[h1] at hp;cases hp;obtain⟨cF,hl,bS,_⟩:=aq.rd;obtain⟨us,u1,u2⟩:=cF.drop off
     have ao:b<w.heap.size:=by
      cases aq with
      |cells _ _ _ _ _ _ c hb=>exact(Array.getElem?_eq_some_iff.1 hb).1
     exact .pt x.1 b (o+off) us (tO b rfl) (yf b) ao (fun j hj=>u1 j (by rw[<- C];exact hj)) fun j d hd=>J j d _ hd fun d0 U=>u2 j d0 U
   .cases h
  |opt c d=>
   cases hv with
   |opt _ _ _ h1 h2=>
   cases c with
   |true=>
    simp only[b9,Option.map_eq_some_iff,Prod.mk.injEq] at h;obtain⟨x,hx,rfl,rfl⟩:=h;exact .opt true _ v (fun _=>A' (r:=x.2) hx hl (h1 rfl)) oS
   |false=>simp only[b9,Option.some.injEq,Prod.mk.injEq] at h;obtain⟨rfl,_⟩:=h;exact .opt false _ v oS h2
  |agg cs=>
   simp only[b9,Option.map_eq_some_iff,Prod.mk.injEq] at h;obtain⟨x,hx,rfl,rfl⟩:=h;obtain⟨vs,rfl,pT,X⟩:=hv.agg_inv;obtain⟨C,J⟩:=many (ys:=x.1) (r':=x.2) hx (fun _ h=>h);exact .agg _ vs (by rw[C];exact pT) fun k d u hd hu=>J k d u hd fun d0 U=>X k d0 u U hu
  |tup cs=>
   simp only[b9,Option.map_eq_some_iff,Prod.mk.injEq] at h;obtain⟨x,hx,rfl,rfl⟩:=h;obtain⟨vs,rfl,pT,X⟩:=hv.tup_inv;obtain⟨C,J⟩:=many (ys:=x.1) (r':=x.2) hx (fun _ h=>h);exact .tup _ vs (by rw[C];exact pT) fun k d u hd hu=>J k d u hd fun d0 U=>X k d0 u U hu
  |sl cs k=>
   simp only[b9,Option.map_eq_some_iff,Prod.mk.injEq] at h;obtain⟨x,hx,rfl,rfl⟩:=h;obtain⟨C,J⟩:=many (ys:=x.1) (r':=x.2) hx (fun _ h=>h);cases hv with
   |sln a cap=>
    have:x.1=[]:=List.eq_nil_of_length_eq_zero (by simpa using C);rw[this];exact .sln a cap
   |sl _ _ b o cap us hf hb ao pH eh hc X=>
    exact .sl _ k b o cap us hf (yf b) ao pH eh (fun j hj=>hc j (by rw[<- C];exact hj)) fun j d hd=>J j d _ hd fun d0 U=>X j d0 U
  |pt cs=>
   simp only[b9,Option.map_eq_some_iff,Prod.mk.injEq] at h;obtain⟨x,hx,rfl,rfl⟩:=h;obtain⟨C,J⟩:=many (ys:=x.1) (r':=x.2) hx (fun _ h=>h);cases hv with
   |pt _ b o us hf hb ao hc X=>
    exact .pt _ b o us hf (yf b) ao (fun j hj=>hc j (by rw[<- C];exact hj)) fun j d hd=>J j d _ hd fun d0 U=>X j d0 U
  |fn f fs cs=>
   simp only[b9] at h;cases hx:gF (b9 P m n) fs with
   |none=>rw[hx] at h;cases h
   |some x=>
    rw[hx] at h;simp only[Option.map_eq_some_iff,Prod.mk.injEq] at h;obtain⟨y,hy,rfl,rfl⟩:=h;obtain⟨C,J⟩:=many (ys:=x.1) (r':=x.2) hx (fun _ h=>List.mem_append_left _ h);obtain⟨k1,k2⟩:=many (ys:=y.1) (r':=y.2) hy (fun _ h=>List.mem_append_right _ h);cases hv with
    |fn _ _ _ us vs Ju pT h1 h2=>
     exact .fn f _ _ us vs (by rw[C];exact Ju) (by rw[k1];exact pT) (fun k d u hd hu=>J k d u hd fun d0 U=>h1 k d0 u U hu) fun k d u hd hu=>k2 k d u hd fun d0 U=>h2 k d0 u U hu
  |s v=>simp only[b9,Option.some.injEq,Prod.mk.injEq] at h;obtain⟨rfl,_⟩:=h;obtain⟨rfl,h⟩:=hv.s_inv;exact .s _ h
  |ub=>simp only[b9,Option.some.injEq,Prod.mk.injEq] at h;obtain⟨rfl,_⟩:=h;obtain⟨b,rfl⟩:=hv.ub_inv;exact .ub b
  |u=>simp only[b9,Option.some.injEq,Prod.mk.injEq] at h;obtain⟨rfl,_⟩:=h;exact .u v
  |z=>simp only[b9,Option.some.injEq,Prod.mk.injEq] at h;obtain⟨rfl,_⟩:=h;obtain⟨a,rfl⟩:=hv.z_inv;exact .z a
end
section
variable(P:Program)
def uL(env:Env)(o:Op):Bool:=match o with
 | .pick c _ _=>decide (opd env c).ask
 |o=>o.operands.toList.all fun x=>decide (opd env x).ask
theorem FZ{env:Env}{o:Op}(h:uL env o=true):asks env o:=by
 unfold uL at h;unfold asks;cases o<;>first|exact of_decide_eq_true h|exact fun x hx=>of_decide_eq_true (List.all_eq_true.1 h x hx)
abbrev r8:=FuncId->List D->Bool->T Row->Nat->Option (D×T Row×Nat×List Nat×List Nat)
def DB(call:r8)(f:FuncId)(args:List D)(dr:Bool)(o:Oper)(c:bQ):Option (bQ×List Nat×List Nat):=
 bif uL (cT c.env) o.op then match call f args dr c.mem c.nx with
  |some (r,m,nx,rd,wr)=>match zc c.env o.dst r with
   |some env=>some (⟨env,m,nx⟩,rd,wr)
   |none=>none
  |none=>none
 else none
def Em(e:ei)(o:Oper)(c:bQ):Option (bQ×List Nat×List Nat):=
 bif uL (cT c.env) o.op then match e.dec with
  |isTrue _=>match BC c.mem e.ups with
   |some m=>match zc c.env o.dst e.val with
    |some env=>some (⟨env,m,c.nx+e.new⟩,e.rd,e.ups.map (·.1))
    |none=>none
   |none=>none
  |isFalse _=>none
 else none
def uM(o:Oper)(d:D)(rd:List Nat)(c:bQ):Option (bQ×List Nat×List Nat):=match zc c.env o.dst d with
 |some env=>some (⟨env,c.mem,c.nx⟩,rd,[])
 |none=>none
def JD(call:r8)(ops:Array Oper)(dr:Bool)(o:Oper)(c:bQ):Option (bQ×List Nat×List Nat):=
 match o.guard with
 |none=>match callD (rho (cT c.env) o.op) o.op with
  |some (f,args)=>DB call f args dr o c
  |none=>match yieldD (rho (cT c.env) o.op) o.op with
   |some _=>none
   |none=>match iI P o.op (rho (cT c.env) o.op) (dT c.mem) c.nx with
    |some e=>Em e o c
    |none=>none
 |some (j,b)=>match ((ops[j]?).bind (·.dst)).bind fun t=>guardC (cT c.env t) b with
  |none=>none
  |some g=>match callD (rho (cT c.env) o.op) o.op with
   |some (f,args)=>bif g then DB call f args dr o c else uM o skipD [] c
   |none=>match yieldD (rho (cT c.env) o.op) o.op with
    |some _=>bif g then none else uM o skipD [] c
    |none=>match iI P o.op (rho (cT c.env) o.op) (dT c.mem) c.nx with
     |some e=>bif e.ups.isEmpty&&Nat.beq e.new 0 then
      bif g then bif uL (cT c.env) o.op then match e.dec with
       |isTrue _=>uM o (.opt true e.val) e.rd c
       |isFalse _=>none
      else none
      else uM o (.opt false e.val) e.rd c
      else bif g then Em e o c else uM o skipD [] c
     |none=>bif g then none else uM o skipD [] c
def zd(call:r8)(ops:Array Oper)(dr:Bool):List Oper->bQ->Tra->Option (bQ×Tra)
 |[],c,tr=>some (c,tr)
 |o::os,c,tr=>match JD P call ops dr o c with
  |some (c',rd,wr)=>zd call ops dr os c' (tr++[(rd,wr)])
  |none=>none
def DQ(tr:Tra)(i j:Nat):Bool:=
 let a:=tr.getD i ([],[])
 let b:=tr.getD j ([],[])
 (a.2.all fun x=> !(b.1.any (Nat.beq x))&& !(b.2.any (Nat.beq x)))&&b.2.all fun x=> !(a.1.any (Nat.beq x))
theorem YW{tr:Tra}{i j:Nat}(h:DQ tr i j=true):apartT tr i j:=by
 unfold DQ at h;simp only[Bool.and_eq_true,List.all_eq_true,Bool.not_eq_true',List.any_eq_false,Nat.beq_eq] at h;obtain⟨h1,h2⟩:=h;exact⟨fun x hx=>⟨fun hb=>(h1 x hx).1 x hb rfl,fun hb=>(h1 x hx).2 x hb rfl⟩,fun x hx ha=>h2 x hx x ha rfl⟩
def G5(call:r8)(ops:Array Oper)(dr:Bool)(c:bQ):Option bQ:=
 bif dr then match drawInfo ops with
  |some cf=>match zd P call ops true ops.toList c [] with
   |some (c',tr)=>bif cf.all fun q=>DQ tr q.1 q.2 then some c' else none
   |none=>none
  |none=>none
 else match zd P call ops false ops.toList c [] with
  |some (c',_)=>some c'
  |none=>none
def Ba(call:r8):Prop:=∀ f args dr m nx r m' nx' rd wr,call f args dr m nx=some (r,m',nx',rd,wr)->∀ env (K:D->Mem->Nat->List Nat->List Nat->Prop),K r (dT m') nx' rd wr->CallOp P dr ⟨env,dT m,nx⟩ f args K
end
section
variable{P:Program}
theorem La{call:r8}(hc:Ba P call){f:FuncId}{args:List D}{dr:Bool}{o:Oper}{c:bQ}{C:bQ}{rd wr:List Nat}(h:DB call f args dr o c=some (C,rd,wr)){K:St->List Nat->List Nat->Prop}(J:K C.st rd wr):
 asks c.st.env o.op/\CallOp P dr c.st f args fun r m nx rd wr=>K (St.put ⟨c.st.env,m,nx⟩ o.dst r) rd wr:=by
 unfold DB at h;cases ha:uL (cT c.env) o.op with
 |false=>rw[ha] at h;cases h
 |true=>
  rw[ha] at h;simp only[cond_true] at h;refine⟨FZ ha,?_⟩;split at h
  .rename_i r m nx JE wr' U;split at h
   .rename_i env X;simp only[Option.some.injEq,Prod.mk.injEq] at h;obtain⟨rfl,rfl,rfl⟩:=h;refine hc _ _ _ _ _ _ _ _ _ _ U _ _ ?_;have:=G4 X (dT m) nx;simp only[bQ.st] at J ⊢;rw[<- this];exact J
   .cases h
  .cases h
theorem yh{o:Oper}{d:D}{rd C wr:List Nat}{c J:bQ}(h:uM o d rd c=some (J,C,wr)):J.st=St.put c.st o.dst d/\C=rd/\wr=[]:=by
 unfold uM at h;split at h
 .rename_i env U;simp only[Option.some.injEq,Prod.mk.injEq] at h;obtain⟨rfl,rfl,rfl⟩:=h;exact⟨G4 U (dT c.mem) c.nx,rfl,rfl⟩
 .cases h
theorem Mt{e:ei}{o:Oper}{c C:bQ}{rd wr:List Nat}(h:Em e o c=some (C,rd,wr)){K:St->List Nat->List Nat->Prop}(J:K C.st rd wr):
 asks c.st.env o.op/\e.pre/\K (St.put ⟨c.st.env,upds c.st.mem e.ups,c.st.nx+e.new⟩ o.dst e.val) e.rd (e.ups.map (·.1)):=by
 unfold Em at h;cases ha:uL (cT c.env) o.op with
 |false=>rw[ha] at h;cases h
 |true=>
  rw[ha] at h;simp only[cond_true] at h;refine⟨FZ ha,?_⟩;split at h
  .rename_i hp _;refine⟨hp,?_⟩;split at h
   .rename_i m hm;split at h
    .rename_i env U;simp only[Option.some.injEq,Prod.mk.injEq] at h;obtain⟨rfl,rfl,rfl⟩:=h;have:=G4 U (dT m) (c.nx+e.new);simp only[bQ.st] at J ⊢;rw[<- Ms hm, <- this];exact J
    .cases h
   .cases h
  .cases h
theorem Lt{o:Op}{ρ:Operand->D}{m:Mem}{nx:Nat}{e:ei}(h:iI P o ρ m nx=some e):aop P o ρ m nx=some e.gM:=by rw[Nd,h];rfl
theorem XD{o:Op}{ρ:Operand->D}{m:Mem}{nx:Nat}(h:iI P o ρ m nx=none):aop P o ρ m nx=none:=by rw[Nd,h];rfl
theorem aa7{call:r8}(m8:Ba P call){ops:Array Oper}{dr:Bool}{o:Oper}{c c':bQ}{rd wr:List Nat}(h:JD P call ops dr o c=some (c',rd,wr)){K:St->List Nat->List Nat->Prop}(C:K c'.st rd wr):
 AOp P noY ops dr o c.st K:=by
 unfold JD at h;unfold AOp;split at h
 .rename_i hg;simp only[hg];split at h
  .rename_i f args hc;obtain⟨h1,h2⟩:=La m8 h C;refine⟨h1,?_⟩;simp only[bQ.st] at h2 ⊢;rw[hc];exact h2
  .rename_i hc;split at h
   .cases h
   .rename_i hy;split at h
    .rename_i e he;obtain⟨h1,h2,h3⟩:=Mt h C;refine⟨h1,?_⟩;have:=Lt he;simp only[bQ.st] at h2 h3 ⊢;rw[hc];simp only;rw[hy];simp only;rw[this];exact⟨h2,h3⟩
    .cases h
 .rename_i j b hg;simp only[hg];split at h
  .cases h
  .rename_i g hgc;have X:(((ops[j]?).bind (·.dst)).bind fun t=>guardC (c.st.env t) b)=some g:=hgc;rw[X];simp only;split at h
   .rename_i f args hc;have zD:callD (rho c.st.env o.op) o.op=some (f,args):=hc;rw[zD];simp only;cases g with
    |true=>
     simp only[cond_true] at h;exact .inr ⟨fun _=>La m8 h C,by simp⟩
    |false=>
     simp only[cond_false] at h;obtain⟨h1,rfl,rfl⟩:=yh h;exact .inr ⟨by simp,fun _=>h1▸C⟩
   .rename_i hc;have zD:callD (rho c.st.env o.op) o.op=none:=hc;rw[zD];simp only;split at h
    .rename_i y hy;have U:yieldD (rho c.st.env o.op) o.op=some y:=hy;rw[U];obtain⟨l,args⟩:=y;cases g with
     |true=>simp at h
     |false=>
      simp only[cond_false] at h;obtain⟨h1,rfl,rfl⟩:=yh h;exact⟨by simp,fun _=>h1▸C⟩
    .rename_i hy;have U:yieldD (rho c.st.env o.op) o.op=none:=hy;rw[U];simp only;split at h
     .rename_i e he;have gm:aop P o.op (rho c.st.env o.op) c.st.mem c.st.nx=some e.gM:=Lt he;rw[gm];cases J:(e.ups.isEmpty&&Nat.beq e.new 0) with
      |true=>
       have hb:(e.gM.ups.isEmpty&&e.gM.new==0)=true:=by
        have:∀ a:Nat,(a==0)=Nat.beq a 0:=fun a=>by cases a<;>rfl
        simp only[ei.gM,this];exact J
       simp only[hb,if_true];rw[J] at h;simp only[cond_true] at h;cases g with
       |true=>
        simp only[cond_true] at h;cases ha:uL (cT c.env) o.op with
        |false=>rw[ha] at h;cases h
        |true=>
         rw[ha] at h;simp only[cond_true] at h;split at h
         .rename_i hp _;obtain⟨h1,rfl,rfl⟩:=yh h;exact⟨fun _=>⟨FZ ha,hp⟩,h1▸C⟩
         .cases h
       |false=>
        simp only[cond_false] at h;obtain⟨h1,rfl,rfl⟩:=yh h;exact⟨by simp,h1▸C⟩
      |false=>
       have hb:(e.gM.ups.isEmpty&&e.gM.new==0)=false:=by
        have:∀ a:Nat,(a==0)=Nat.beq a 0:=fun a=>by cases a<;>rfl
        simp only[ei.gM,this];exact J
       simp only[hb,Bool.false_eq_true,if_false];rw[J] at h;simp only[cond_false] at h;cases g with
       |true=>
        simp only[cond_true] at h;exact⟨fun _=>Mt h C,by simp⟩
       |false=>
        simp only[cond_false] at h;obtain⟨h1,rfl,rfl⟩:=yh h;exact⟨by simp,fun _=>h1▸C⟩
     .rename_i he;have gm:aop P o.op (rho c.st.env o.op) c.st.mem c.st.nx=none:=XD he;rw[gm];simp only;cases g with
      |true=>simp at h
      |false=>
       simp only[cond_false] at h;obtain⟨h1,rfl,rfl⟩:=yh h;exact⟨rfl,h1▸C⟩
theorem Gy{call:r8}(X:Ba P call){ops:Array Oper}{dr:Bool}{cf:List (Nat×Nat)}{Q:Exit->St->Prop}:∀ (U:List Oper) (c C:bQ) (tr J:Tra),zd P call ops dr U c tr=some (C,J)->(∀ q∈cf,apartT J q.1 q.2)->Q .normal C.st->
 AOps P noY ops dr cf Q U c.st tr
 |[],c,C,tr,J,h,qW,hQ=>by
  simp only[zd,Option.some.injEq,Prod.mk.injEq] at h;obtain⟨rfl,rfl⟩:=h;exact⟨qW,hQ⟩
 |o::U,c,C,tr,J,h,qW,hQ=>by
  simp only[zd] at h;split at h
  .rename_i c1 rd wr h1;exact aa7 X h1 (Gy X U c1 C _ J h qW hQ)
  .cases h
theorem WM{call:r8}(X:Ba P call){ops:Array Oper}{dr:Bool}{c J:bQ}(h:G5 P call ops dr c=some J){id:Nat}{rf:Bool}{Q:Exit->St->Prop}(U:Q .normal J.st):AW P noY rf (.region id ops dr) Q c.st:=by
 unfold G5 at h;cases dr with
 |true=>
  simp only[cond_true] at h;split at h
  .rename_i cf qW;split at h
   .rename_i c1 tr h1;cases C:cf.all fun q=>DQ tr q.1 q.2 with
    |false=>rw[C] at h;cases h
    |true=>
     rw[C] at h;simp only[cond_true,Option.some.injEq] at h;subst h
     show match drawInfo ops with
      |some cf=>AOps P noY ops true cf Q ops.toList c.st []
      |none=>False
     rw[qW];exact Gy X _ _ _ _ _ h1 (fun q hq=>YW (List.all_eq_true.1 C q hq)) U
   .cases h
  .cases h
 |false=>
  simp only[cond_false] at h;split at h
  .rename_i c1 tr h1;simp only[Option.some.injEq] at h;subst h;exact Gy (cf:=[]) X _ _ _ _ _ h1 oS U
  .cases h
end
structure Ctx where
 E4:FuncId->Option (Func×Code)
 iter:FuncId->List D->List D->Option (List (List D))
 known:FuncId->List D->Option D
structure Ctx.Ok(P:Program)(x:Ctx):Prop where
 mix:P.follows .mixedOrders=true
 E4:∀ f fn c,x.E4 f=some (fn,c)->pI P f fn c
 iter:∀ f fs cs xs,x.iter f fs cs=some xs->SeqA P f fs cs xs/\∀ y∈xs,∀ d∈y,Tr d
 known:∀ f args r,x.known f args=some r->PCall P f args r
def uF:Nat->List D->T D->Option (T D)
 |_,[],t=>some t
 |k,d::ds,t=>match t.put k (some d) with
  |some C=>uF (k+1) ds C
  |none=>none
theorem Lb:∀ {ds:List D} {k:Nat} {t C:T D},uF k ds t=some C->∀ j,cT C j=if k<=j/\j<k+ds.length then ds.getD (j - k) .u else cT t j
 |[],k,t,C,h,j=>by
  simp only[uF,Option.some.injEq] at h;subst h;rw[if_neg oS]
 |d::ds,k,t,C,h,j=>by
  simp only[uF] at h;split at h
  .rename_i J h1;rw[Lb h j,Gx h1];by_cases hj:j=k
   .subst hj;rw[if_neg oG,up_same,if_pos oS];simp
   .rw[up_ne _ _ hj];by_cases ao:k+1<=j/\j<k+1+ds.length
    .rw[if_pos ao,if_pos oP];have:j - k=(j - (k+1))+1:=by omega
     rw[this];simp
    .rw[if_neg ao,if_neg oP]
  .cases h
theorem Lc{args:List D}{t:T D}(h:uF 0 args .leaf=some t):cT t=envOf args:=by
 funext j;rw[Lb h j];unfold envOf;split
 .simp
 .rename_i hj;have:args.length<=j:=by omega
  simp[cT,T.get,this]
def yB:T D->List Tmp->List D->Option (T D)
 |t,p::ps,d::ds=>match t.put p (some d) with
  |some C=>yB C ps ds
  |none=>none
 |t,_,_=>some t
theorem KV:∀ {ps:List Tmp} {ds:List D} {t C:T D},yB t ps ds=some C->cT C=setAll (cT t) ps ds
 |[],ds,t,C,h=>by simp only[yB,Option.some.injEq] at h;subst h;rfl
 |_::_,[],t,C,h=>by simp only[yB,Option.some.injEq] at h;subst h;rfl
 |p::ps,d::ds,t,C,h=>by
  simp only[yB] at h;split at h
  .rename_i J h1;rw[KV h,Gx h1];rfl
  .cases h
section
variable(P:Program)
def IF(c:bQ):ResultVar->Option D
 | .tmp t=>some (cT c.env t)
 | .cell a t=>match cT c.env a with
  | .rp i off=>match c.mem.get i with
   |some (.cells cs _)=>bif tyOk P t&&Nat.ble (off+P.cellsOf t) cs.length then some (takeV P t (cs.drop off)) else none
   |_=>none
  | .pt cs=>bif tyOk P t&&Nat.ble (P.cellsOf t) cs.length then some (takeV P t cs) else none
  |_=>none
def ze(c:bQ):List ResultVar->Option (List D)
 |[]=>some []
 |r::rs=>match IF P c r with
  |some d=>match ze c rs with
   |some ds=>some (d::ds)
   |none=>none
  |none=>none
def BD(x:Ctx)(C:Bool->Code->bQ->Option (Exit×bQ))(f:FuncId)(args:List D)(m:T Row)(nx:Nat):Option (D×T Row×Nat):=
 match x.E4 f with
 |none=>none
 |some (fn,c)=>bif Nat.ble args.length fn.ntmps then
  match uF 0 args .leaf with
  |none=>none
  |some t=>match C true c ⟨t,m,nx⟩ with
   |some (.normal,s)=>match ze P s fn.results.toList with
    |some ds=>some (one1 ds,s.mem,s.nx)
    |none=>none
   |some (.ret,s)=>match ze P s fn.results.toList with
    |some ds=>some (one1 ds,s.mem,s.nx)
    |none=>none
   |_=>none
  else none
def depth:Nat:=12
def yZ(x:Ctx)(C:Bool->Code->bQ->Option (Exit×bQ))(f:FuncId)(args:List D):Option (D ⊕ (List D×Nat×TypeId)):=
 match BD P x C f args .leaf 0 with
 |none=>none
 |some (d,m,_)=>match d with
  | .rs i 0 k=>match m.get i with
   |some (.cells es t)=>bif es.all (oB depth) then some (.inr (es,k,t)) else match b9 P (dT m) depth (.rs i 0 k) with
    |some (r,_)=>some (.inl r)
    |none=>none
   |_=>none
  |d=>match b9 P (dT m) depth d with
   |some (r,_)=>some (.inl r)
   |none=>none
def H2(x:Ctx)(C:Bool->Code->bQ->Option (Exit×bQ)):r8:=fun f args dr m nx=>
 match x.known f args with
 |some r=>some (r,m,nx,[],[])
 |none=>bif args.all (oB depth) then match yZ P x C f args with
  |some (.inl r)=>some (r,m,nx,[],[])
  |some (.inr (es,k,t))=>match m.put nx (some (.cells es t)) with
   |some m'=>some (.rs nx 0 k,m',nx+1,[],[nx])
   |none=>none
  |none=>none
  else bif dr then match gF (b9 P (dT m) depth) args with
   |none=>none
   |some (args',rds)=>match x.known f args' with
    |some r=>bif r.scal then some (r,m,nx,rds,[]) else none
    |none=>match yZ P x C f args' with
     |some (.inl r)=>bif r.scal then some (r,m,nx,rds,[]) else none
     |_=>none
  else match BD P x C f args m nx with
   |some (d,m',nx')=>some (d,m',nx',[],[])
   |none=>none
def Aw(C:Bool->Code->bQ->Option (Exit×bQ))(env:T D)(ps:List Tmp)(assign body:Code):List (List D)->T Row->Nat->Option (Exit×T Row×Nat)
 |[],m,nx=>some (.normal,m,nx)
 |y::ys,m,nx=>match yB env ps y with
  |none=>none
  |some t=>match C false assign ⟨t,m,nx⟩ with
   |some (.normal,s)=>match C false body s with
    |some (.normal,s')=>Aw C env ps assign body ys s'.mem s'.nx
    |some (.ret,s')=>some (.ret,s'.mem,s'.nx)
    |some (.exit i,s')=>some (.exit i,s'.mem,s'.nx)
    |_=>none
   |_=>none
def pB(x:Ctx)(C:Bool->Code->bQ->Option (Exit×bQ))(rf:Bool)(c:Code)(s:bQ):Option (Exit×bQ):=match c with
 | .skip=>some (.normal,s)
 | .region _ ops dr=>match G5 P (H2 P x C) ops dr s with
  |some s'=>some (.normal,s')
  |none=>none
 | .seq a b=>match C rf a s with
  |some (.normal,s')=>C rf b s'
  |r=>r
 | .cond c a b=>bif decide (opd (cT s.env) c).ask then match (opd (cT s.env) c).core with
   | .s (.bool t)=>bif t then C rf a s else C rf b s
   |_=>none
  else none
 | .block id b=>match C rf b s with
  |some (.exit i,s')=>bif Nat.beq i id then some (.normal,s') else some (.exit i,s')
  |r=>r
 | .scope b=>match C rf b s with
  |some (.goto _,_)=>none
  |r=>r
 | .loop b=>match C rf b s with
  |some (.normal,s')=>C rf (.loop b) s'
  |r=>r
 | .rangeFunc g ps assign body=>bif rf&&decide (opd (cT s.env) g).ask then match (opd (cT s.env) g).core with
   | .fn (.func f) fs cs=>match x.iter f fs cs with
    |some ys=>bif ys.all fun y=>Nat.beq y.length ps.size then match Aw C s.env ps.toList assign body ys s.mem s.nx with
     |some (e,m,nx)=>some (e,⟨s.env,m,nx⟩)
     |none=>none
     else none
    |none=>none
   |_=>none
  else none
 | .exit id=>some (.exit id,s)
 | .label _=>some (.normal,s)
 | .ret=>some (.ret,s)
 |_=>none
def xy(x:Ctx):Nat->Bool->Code->bQ->Option (Exit×bQ)
 |0=>fun _ _ _=>none
 |n+1=>pB P x (xy x n)
end
section
variable{P:Program}{x:Ctx}
theorem Hw{c:bQ}{K:List D->Prop}:∀ {rs:List ResultVar} {ds C:List D},ze P c rs=some ds->K (C++ds)->retL P c.st rs C K
 |[],ds,C,h,hK=>by
  simp only[ze,Option.some.injEq] at h;subst h;simpa[retL] using hK
 |r::rs,ds,C,h,hK=>by
  simp only[ze] at h;split at h
  .rename_i d hd;split at h
   .rename_i vh J;simp only[Option.some.injEq] at h;subst h
    have X:∃ p,resD P c.st r=some (p,d)/\p:=by
     cases r with
     |tmp t=>
      simp only[IF,Option.some.injEq] at hd;exact⟨True,by simp only[resD,bQ.st,hd],trivial⟩
     |cell a t=>
      simp only[IF] at hd;simp only[resD,bQ.st];split at hd
      .rename_i i off ha;rw[ha];simp only;split at hd
       .rename_i cs e hm;have U:dT c.mem i=some (.cells cs e):=hm;rw[U];simp only;cases hb:(tyOk P t&&Nat.ble (off+P.cellsOf t) cs.length) with
        |false=>rw[hb] at hd;cases hd
        |true=>
         rw[hb] at hd;simp only[cond_true,Option.some.injEq] at hd;simp only[Bool.and_eq_true,Nat.ble_eq] at hb;exact⟨_,by rw[hd],hb⟩
       .cases hd
      .rename_i cs ha;rw[ha];simp only;cases hb:(tyOk P t&&Nat.ble (P.cellsOf t) cs.length) with
       |false=>rw[hb] at hd;cases hd
       |true=>
        rw[hb] at hd;simp only[cond_true,Option.some.injEq] at hd;simp only[Bool.and_eq_true,Nat.ble_eq] at hb;exact⟨_,by rw[hd],hb⟩
      .cases hd
    obtain⟨p,h1,h2⟩:=X;simp only[retL,h1];exact⟨h2,Hw J (by simpa using hK)⟩
   .cases h
  .cases h
def zg(P:Program)(C:Bool->Code->bQ->Option (Exit×bQ)):Prop:=∀ rf c s e s',C rf c s=some (e,s')->∀ Q:Exit->St->Prop,Q e s'.st->AW P noY rf c Q s.st
theorem Ng(hx:x.Ok P){X:Bool->Code->bQ->Option (Exit×bQ)}(iS:zg P X){f:FuncId}{args:List D}{m m':T Row}{nx nx':Nat}{d:D}(h:BD P x X f args m nx=some (d,m',nx')):
 ∃ fn c,pI P f fn c/\Nat.ble args.length fn.ntmps=true/\∀ K:D->St->Prop,(∀ env,K d ⟨env,dT m',nx'⟩)->AW P noY true c (retQ P fn.results.toList K) ⟨envOf args,dT m,nx⟩:=by
 unfold BD at h;split at h
 .cases h
 .rename_i fn c C;cases hb:Nat.ble args.length fn.ntmps with
  |false=>rw[hb] at h;cases h
  |true=>
   rw[hb] at h;simp only[cond_true] at h;split at h
   .cases h
   .rename_i t ht;refine⟨fn,c,hx.E4 f fn c C,hb,fun K hK=>?_⟩;rw[<- Lc ht];split at h
    .rename_i s U;split at h
     .rename_i ds J;simp only[Option.some.injEq,Prod.mk.injEq] at h;obtain⟨rfl,rfl,rfl⟩:=h;exact iS _ _ _ _ _ U _ (Hw (K:=fun ds=>K (one1 ds) s.st) J (hK _))
     .cases h
    .rename_i s U;split at h
     .rename_i ds J;simp only[Option.some.injEq,Prod.mk.injEq] at h;obtain⟨rfl,rfl,rfl⟩:=h;exact iS _ _ _ _ _ U _ (Hw (K:=fun ds=>K (one1 ds) s.st) J (hK _))
     .cases h
    .cases h
theorem XE:dT .leaf=fun _=>none:=rfl
theorem WN(J:P.follows .mixedOrders=true){fn:Func}{f:FuncId}{c:Code}(hf:pI P f fn c){args:List D}(hn:Nat.ble args.length fn.ntmps=true)(ht:∀ a∈args,Tr a){d r:D}{m:Mem}{n:Nat}{rds:List Nat}(hd:b9 P m n d=some (r,rds))
 (h:AW P noY true c (retQ P fn.results.toList fun d' st=>d'=d/\st.mem=m) ⟨envOf args,fun _=>none,0⟩):PCall P f args r:=
 ⟨hf.he,ht,fun F w vs hF hR=>(Ap J hf.hf hf.hb hf.ao hn h (fun _ _ _ _ _ h=>h.elim) (F9 hF) (fun _ _=>rfl) hR).mono fun e w' hp=>by
  obtain⟨v,d',st',β',h1,⟨rfl,rfl⟩,h3,h4,h5,C,U,X⟩:=hp
  exact⟨v,h1,A' hd (fun i _ r hr=>by
   obtain⟨p,hp,aq⟩:=h4.row i r hr
   exact⟨p,hp,aq,fun b hb=>h4.nf i p b hp hb⟩) h3,FM C⟩⟩
theorem F0(hx:x.Ok P){J:Bool->Code->bQ->Option (Exit×bQ)}(iS:zg P J){f:FuncId}{args:List D}(ht:∀ a∈args,Tr a):
 (∀ r,yZ P x J f args=some (.inl r)->PCall P f args r)/\∀ es k t,yZ P x J f args=some (.inr (es,k,t))->OCall P f args es k t:=by
 unfold yZ;cases X:BD P x J f args .leaf 0 with
 |none=>exact⟨fun r h=>oH,fun es k t h=>oH⟩
 |some q=>
  obtain⟨d,m,nx⟩:=q;obtain⟨fn,c,hf,hn,C⟩:=Ng hx iS X
  have deep:∀ d r rds,d=d->b9 P (dT m) depth d=some (r,rds)->(∀ K:D->St->Prop,(∀ env,K d ⟨env,dT m,nx⟩)->AW P noY true c (retQ P fn.results.toList K) ⟨envOf args,dT .leaf,0⟩)->PCall P f args r:=fun d r rds _ hd C=>
   WN hx.mix hf hn ht hd (C _ fun env=>⟨rfl,rfl⟩)
  simp only;split
  .rename_i i k;split
   .rename_i es t hm;cases U:es.all (oB depth) with
    |true=>
     simp only[cond_true];refine⟨fun r h=>(by simp at h),fun es' k' t' h=>?_⟩;simp only[Option.some.injEq,Sum.inr.injEq,Prod.mk.injEq] at h;obtain⟨rfl,rfl,rfl⟩:=h;exact uv hx.mix hf hn ht (fun a ha=>nP (List.all_eq_true.1 U a ha)) (C _ fun env=>⟨i,rfl,hm⟩)
    |false=>
     simp only[cond_false];split
     .rename_i r rds hd;exact⟨fun r' h=>(by simp only[Option.some.injEq,Sum.inl.injEq] at h;subst h;exact deep _ _ _ rfl hd C),fun es k t h=>(by simp at h)⟩
     .exact⟨fun r h=>oH,fun es k t h=>oH⟩
   .exact⟨fun r h=>oH,fun es k t h=>oH⟩
  .split
   .rename_i r rds hd;exact⟨fun r' h=>(by simp only[Option.some.injEq,Sum.inl.injEq] at h;subst h;exact deep _ _ _ rfl hd C),fun es k t h=>(by simp at h)⟩
   .exact⟨fun r h=>oH,fun es k t h=>oH⟩
theorem KW{m:Mem}{n:Nat}{rds:List Nat}:∀ {aS bs:List D} {r:List Nat},gF (b9 P m n) aS=some (bs,r)->(∀ i∈r,i∈rds)->Sns P rds m aS bs
 |[],bs,r,h,_=>by
  simp only[gF,Option.some.injEq,Prod.mk.injEq] at h;obtain⟨rfl,_⟩:=h;trivial
 |a::aS,bs,r,h,hr=>by
  simp only[gF] at h;split at h
  .cases h
  .rename_i y hy;split at h
   .cases h
   .rename_i ys C;simp only[Option.some.injEq,Prod.mk.injEq] at h;obtain⟨rfl,rfl⟩:=h;exact⟨fun F β w v hl hv=>A' (r:=y.2) hy (fun i hi=>hl i (hr i (List.mem_append_left _ hi))) hv,KW (r:=ys.2) C fun i hi=>hr i (List.mem_append_right _ hi)⟩
theorem YX(hx:x.Ok P){ev:Bool->Code->bQ->Option (Exit×bQ)}(X:zg P ev):Ba P (H2 P x ev):=by
 intro f args dr m nx r m' nx' rd wr h env K C;unfold H2 at h;split at h
 .rename_i r' hk;simp only[Option.some.injEq,Prod.mk.injEq] at h;obtain⟨rfl,rfl,rfl,rfl,rfl⟩:=h;exact .inl ⟨_,hx.known _ _ _ hk,C⟩
 .cases U:args.all (oB depth) with
  |true=>
   rw[U] at h;simp only[cond_true] at h;obtain⟨h1,h2⟩:=F0 hx X (f:=f) (args:=args) fun a ha=>nP (List.all_eq_true.1 U a ha);split at h
   .rename_i r' hp;simp only[Option.some.injEq,Prod.mk.injEq] at h;obtain⟨rfl,rfl,rfl,rfl,rfl⟩:=h;exact .inl ⟨_,h1 _ hp,C⟩
   .rename_i es k t hp;split at h
    .rename_i m1 hm;simp only[Option.some.injEq,Prod.mk.injEq] at h;obtain⟨rfl,rfl,rfl,rfl,rfl⟩:=h;rw[Mr hm] at C;exact .inr (.inr (.inl ⟨es,k,t,h2 _ _ _ hp,C⟩))
    .cases h
   .cases h
  |false=>
   rw[U] at h;simp only[cond_false] at h;cases dr with
   |true=>
    simp only[cond_true] at h;split at h
    .cases h
    .rename_i args' rds Q6;have aR:∀ a∈args',Tr a:=qf Q6 fun x y r' h=>DA h;have om:Sns P rds (dT m) args args':=KW Q6 fun _ h=>h;split at h
     .rename_i r' hk;cases J:r'.scal with
      |false=>rw[J] at h;cases h
      |true=>
       rw[J] at h;simp only[cond_true,Option.some.injEq,Prod.mk.injEq] at h;obtain⟨rfl,rfl,rfl,rfl,rfl⟩:=h;exact .inr (.inl ⟨args',_,_,om,hx.known _ _ _ hk,J,C⟩)
     .split at h
      .rename_i r' hp;cases J:r'.scal with
       |false=>rw[J] at h;cases h
       |true=>
        rw[J] at h;simp only[cond_true,Option.some.injEq,Prod.mk.injEq] at h;obtain⟨rfl,rfl,rfl,rfl,rfl⟩:=h;exact .inr (.inl ⟨args',_,_,om,(F0 hx X aR).1 _ hp,J,C⟩)
      .cases h
   |false=>
    simp only[cond_false] at h;split at h
    .rename_i d m1 U1 eP;simp only[Option.some.injEq,Prod.mk.injEq] at h;obtain⟨rfl,rfl,rfl,rfl,rfl⟩:=h;obtain⟨fn,c,hf,hn,xz⟩:=Ng hx X eP;exact .inr (.inr (.inr (.inl ⟨rfl,uu hx.mix hf hn (xz (fun d st=>K d st.mem st.nx [] []) fun env=>C)⟩)))
    .cases h
theorem Ld{ev:Bool->Code->bQ->Option (Exit×bQ)}(J:zg P ev){env:T D}{ps:List Tmp}{assign body:Code}{Q:Exit->St->Prop}:∀ {ys:List (List D)} {m m':T Row} {nx nx':Nat} {e:Exit},Aw ev env ps assign body ys m nx=some (e,m',nx')->
 Q e ⟨cT env,dT m',nx'⟩->∃ I:Nat->Mem->Nat->Prop,I 0 (dT m) nx/\
  (∀ k m nx y,ys[k]? =some y->I k m nx->AW P noY false assign (assignQ fun s=>AW P noY false body (roundQ (cT env) (I (k+1)) Q) s) ⟨setAll (cT env) ps y,m,nx⟩)/\
  ∀ m nx,I ys.length m nx->Q .normal ⟨cT env,m,nx⟩
 |[],m,m',nx,nx',e,h,hQ=>by
  simp only[Aw,Option.some.injEq,Prod.mk.injEq] at h;obtain⟨rfl,rfl,rfl⟩:=h;exact⟨fun _ a b=>a=dT m/\b=nx,⟨rfl,rfl⟩,fun k _ _ y hy=>by simp at hy,fun a b h=>by obtain⟨rfl,rfl⟩:=h;exact hQ⟩
 |y::ys,m,m',nx,nx',e,h,hQ=>by
  simp only[Aw] at h;split at h
  .cases h
  .rename_i t ht;have tl:=KV ht;split at h
   .rename_i s hs
    have done:∀ (I:Nat->Mem->Nat->Prop),AW P noY false body (roundQ (cT env) (I 0) Q) s.st->
     (∀ k m nx y,ys[k]? =some y->I k m nx->AW P noY false assign (assignQ fun s=>AW P noY false body (roundQ (cT env) (I (k+1)) Q) s) ⟨setAll (cT env) ps y,m,nx⟩)->
     (∀ m nx,I ys.length m nx->Q .normal ⟨cT env,m,nx⟩)->
     ∃ I:Nat->Mem->Nat->Prop,I 0 (dT m) nx/\
      (∀ k m nx z,(y::ys)[k]? =some z->I k m nx->AW P noY false assign (assignQ fun s=>AW P noY false body (roundQ (cT env) (I (k+1)) Q) s) ⟨setAll (cT env) ps z,m,nx⟩)/\
      ∀ m nx,I (y::ys).length m nx->Q .normal ⟨cT env,m,nx⟩:=fun I h1 h2 h3=>by
     refine⟨fun k a b=>match k with|0=>a=dT m/\b=nx|k+1=>I k a b,⟨rfl,rfl⟩,fun k a b z X U=>?_,fun a b U=>h3 a b U⟩;cases k with
     |zero=>
      obtain⟨rfl,rfl⟩:=U;simp only[List.getElem?_cons_zero,Option.some.injEq] at X;subst X;rw[<- tl];exact J _ _ _ _ _ hs _ h1
     |succ k=>exact h2 k a b z (by simpa using X) U
    split at h
    .rename_i s' C;obtain⟨I,g1,g2,g3⟩:=Ld J h hQ;exact done I (J _ _ _ _ _ C _ g1) g2 g3
    .rename_i s' C;simp only[Option.some.injEq,Prod.mk.injEq] at h;obtain⟨rfl,rfl,rfl⟩:=h;exact done (fun _ _ _=>False) (J _ _ _ _ _ C _ hQ) (fun _ _ _ _ _ h=>h.elim) fun _ _ h=>h.elim
    .rename_i i s' C;simp only[Option.some.injEq,Prod.mk.injEq] at h;obtain⟨rfl,rfl,rfl⟩:=h;exact done (fun _ _ _=>False) (J _ _ _ _ _ C _ hQ) (fun _ _ _ _ _ h=>h.elim) fun _ _ h=>h.elim
    .cases h
   .cases h
theorem Pg(hx:x.Ok P):∀ n,zg P (xy P x n):=by
 intro n
 induction n using Nat.strongRecOn with
 |_ n ih=>
  cases n with
  |zero=>intro rf c s e s' h;cases h
  |succ n=>
   have J:=ih n (Nat.lt_succ_self n);intro rf c s e s' h Q C;simp only[xy] at h;cases c with
   |skip=>
    simp only[pB,Option.some.injEq,Prod.mk.injEq] at h;obtain⟨rfl,rfl⟩:=h;exact C
   |ret=>
    simp only[pB,Option.some.injEq,Prod.mk.injEq] at h;obtain⟨rfl,rfl⟩:=h;exact C
   |label l=>
    simp only[pB,Option.some.injEq,Prod.mk.injEq] at h;obtain⟨rfl,rfl⟩:=h;exact C
   |exit id=>
    simp only[pB,Option.some.injEq,Prod.mk.injEq] at h;obtain⟨rfl,rfl⟩:=h;exact C
   |region id ops dr=>
    simp only[pB] at h;split at h
    .rename_i s1 h1;simp only[Option.some.injEq,Prod.mk.injEq] at h;obtain⟨rfl,rfl⟩:=h;exact WM (YX hx J) h1 C
    .cases h
   |seq a b=>
    simp only[pB] at h;split at h
    .rename_i s1 h1;exact J _ _ _ _ _ h1 _ ⟨_,.refl _,J _ _ _ _ _ h _ C⟩
    .rename_i X;refine J _ _ _ _ _ h _ ?_;cases e with
     |normal=>exact absurd h (X s')
     |_=>exact C
   |cond c a b=>
    simp only[pB] at h;cases U:decide (opd (cT s.env) c).ask with
    |false=>rw[U] at h;cases h
    |true=>
     rw[U] at h;simp only[cond_true] at h;refine⟨of_decide_eq_true U,?_⟩;split at h
     .rename_i t ht;have sH:(opd s.st.env c).core=.s (.bool t):=ht;rw[sH];cases t with
      |true=>exact⟨fun _=>J _ _ _ _ _ h _ C,fun h=>by cases h⟩
      |false=>exact⟨fun h=>oH,fun _=>J _ _ _ _ _ h _ C⟩
     .cases h
   |block id b=>
    simp only[pB] at h;split at h
    .rename_i i s1 h1;refine J _ _ _ _ _ h1 (blockQ id Q) ?_;simp only[blockQ];cases hb:Nat.beq i id with
     |true=>
      rw[hb] at h;simp only[cond_true,Option.some.injEq,Prod.mk.injEq] at h;obtain⟨rfl,rfl⟩:=h;rw[if_pos (Nat.eq_of_beq_eq_true hb)];exact C
     |false=>
      rw[hb] at h;simp only[cond_false,Option.some.injEq,Prod.mk.injEq] at h;obtain⟨rfl,rfl⟩:=h;rw[if_neg (Nat.ne_of_beq_eq_false hb)];exact C
    .rename_i X;refine J _ _ _ _ _ h (blockQ id Q) ?_;cases e with
     |exit i=>exact absurd h (X i s')
     |_=>exact C
   |scope b=>
    simp only[pB] at h;split at h
    .cases h
    .rename_i X;refine J _ _ _ _ _ h (scopeQ Q) ?_;cases e with
     |goto l=>exact absurd h (X l s')
     |_=>exact C
   |loop b=>
    refine Mu (fun j st=>j<=n+1/\∃ s,st=s.st/\xy P x j rf (.loop b) s=some (e,s')) (j₀:=n+1) ⟨Nat.le_refl _,s,rfl,h⟩ ?_;rintro j st ⟨hj,s,rfl,hs⟩;cases j with
    |zero=>cases hs
    |succ j=>
     have U2:=ih j oG;simp only[xy,pB] at hs;split at hs
     .rename_i s1 h1;exact U2 _ _ _ _ _ h1 _ ⟨_,.refl _,j,Nat.lt_succ_self j,by omega,s1,rfl,hs⟩
     .rename_i X;refine U2 _ _ _ _ _ hs _ ?_;cases e with
      |normal=>exact absurd hs (X s')
      |_=>exact C
   |rangeFunc g ps assign body=>
    simp only[pB] at h;cases U:(rf&&decide (opd (cT s.env) g).ask) with
    |false=>rw[U] at h;cases h
    |true=>
     rw[U] at h;simp only[cond_true] at h;simp only[Bool.and_eq_true] at U;split at h
     .rename_i f fs cs yX;split at h
      .rename_i ys JG;cases bH:ys.all fun y=>Nat.beq y.length ps.size with
       |false=>rw[bH] at h;cases h
       |true=>
        rw[bH] at h;simp only[cond_true] at h;split at h
        .rename_i e1 m nx hr;simp only[Option.some.injEq,Prod.mk.injEq] at h;obtain⟨rfl,rfl⟩:=h;obtain⟨I,g1,g2,g3⟩:=Ld J hr C;obtain⟨k1,k2⟩:=hx.iter _ _ _ _ JG;exact⟨U.1,of_decide_eq_true U.2,f,fs,cs,ys,I,yX,k1,fun y hy=>⟨Nat.eq_of_beq_eq_true (List.all_eq_true.1 bH y hy),k2 y hy⟩,g1,g2,g3⟩
        .cases h
      .cases h
     .cases h
   |_=>cases h
theorem j6(hx:x.Ok P)(n:Nat){f:FuncId}{args:List D}{r:D}(ht:args.all (oB depth)=true)(h:yZ P x (xy P x n) f args=some (.inl r)):PCall P f args r:=
 (F0 hx (Pg hx n) fun a ha=>nP (List.all_eq_true.1 ht a ha)).1 r h
end
def ay:List (Nat×D)->Env
 |[],_=>.u
 |(t,d)::l,j=>if j=t then d else ay l j
def iA:List (Nat×D)->Env->Prop
 |[],_=>True
 |(t,d)::l,env=>env t=d/\iA l env
theorem lY:∀ {l:List (Nat×D)} {env:Env},iA l env->∀ t,ay l t=env t\/ay l t=.u
 |[],_,_,_=>.inr rfl
 |(k,d)::l,env,h,t=>by
  simp only[ay];by_cases ht:t=k
  .subst ht;rw[if_pos rfl];exact .inl h.1.symm
  .rw[if_neg ht];exact lY h.2 t
def gG(env:Env):List Operand->Prop
 |[]=>True
 |x::xs=>(opd env x).ask/\gG env xs
theorem My{env:Env}:∀ {l:List Operand},gG env l->∀ x∈l,(opd env x).ask
 |[],_,x,h=>by cases h
 |y::l,h,x,hx=>by
  cases hx with
  |head=>exact h.1
  |tail _ hx=>exact My h.2 x hx
theorem o7{env:Env}{o:Op}(h:gG env o.operands.toList):asks env o:=by
 have:=My h;unfold asks;cases o<;>first|exact this|exact this _ (by simp[Op.operands])
section
variable{P:Program}{Y:YSpec}{rf:Bool}
structure Ef(P:Program)(op:Op)(env:Env)(m:Mem)(nx:Nat)(e:Eff):Prop where
 ok:aop P op (rho env op) m nx=some e
 nc:callD (rho env op) op=none
 ny:yieldD (rho env op) op=none
variable{ops:Array Oper}{dr:Bool}{cf:List (Nat×Nat)}{Q:Exit->St->Prop}{rest:List Oper}{env:Env}{m:Mem}{nx:Nat}{tr:Tra}{t:Nat}{op:Op}{ty:TypeId}{pos:String}{after:Array Edge}
 {pre:Prop} {v:D} {rd:List Nat}
theorem wD{d:Option Nat}{e:Eff}(he:Ef P op env m nx e)(ha:asks env op)(hp:e.pre)(K:AOps P Y ops dr cf Q rest (St.put ⟨env,upds m e.ups,nx+e.new⟩ d e.val) (tr++[(e.rd,e.ups.map (·.1))])):
 AOps P Y ops dr cf Q (⟨d,op,ty,pos,after,none⟩::rest) ⟨env,m,nx⟩ tr:=by
 simp only[AOps,AOp];rw[he.nc,he.ny,he.ok];exact⟨ha,hp,K⟩
theorem aB(he:Ef P op env m nx ⟨pre,v,[],rd,0⟩)(ha:gG env op.operands.toList)(hp:pre)(K:AOps P Y ops dr cf Q rest ⟨up env t v,m,nx⟩ (tr++[(rd,[])])):
 AOps P Y ops dr cf Q (⟨some t,op,ty,pos,after,none⟩::rest) ⟨env,m,nx⟩ tr:=wD he (o7 ha) hp K
theorem yC{c a b:Operand}{g:Bool}(hc:(opd env c).core=.s (.bool g)):Ef P (.pick c a b) env m nx ⟨(g=true->(opd env a).ask/\(opd env a).core.bool?.isSome=true)/\(g=false->(opd env b).ask/\(opd env b).core.bool?.isSome=true),
 .s (.bool (if g then(opd env a).core.bool?.getD false else(opd env b).core.bool?.getD false)),[],[],0⟩:=⟨by simp only[aop,rho,hc,D.bool?],rfl,rfl⟩
theorem aaj{c a b:Operand}{g x y:Bool}(hc:opd env c=.s (.bool g))(ha:(opd env a).core=.s (.bool x))(hb:(opd env b).core=.s (.bool y))(h1:g=true->(opd env a).ask)(h2:g=false->(opd env b).ask)
 (K:AOps P Y ops dr cf Q rest ⟨up env t (.s (.bool (if g then x else y))),m,nx⟩ (tr++[([],[])])):
 AOps P Y ops dr cf Q (⟨some t,.pick c a b,ty,pos,after,none⟩::rest) ⟨env,m,nx⟩ tr:=by
 refine wD (yC (g:=g) (by rw[hc];rfl)) (by simp only[asks,hc,D.ask]) ⟨fun h=>⟨h1 h,by rw[ha];rfl⟩,fun h=>⟨h2 h,by rw[hb];rfl⟩⟩ ?_;simp only[ha,hb,D.bool?,Option.getD_some];exact K
theorem Y3{c a b:Operand}{x:Bool}(hc:opd env c=.s (.bool true))(ha:(opd env a).core=.s (.bool x))(h1:(opd env a).ask)
 (K:AOps P Y ops dr cf Q rest ⟨up env t (.s (.bool x)),m,nx⟩ (tr++[([],[])])):
 AOps P Y ops dr cf Q (⟨some t,.pick c a b,ty,pos,after,none⟩::rest) ⟨env,m,nx⟩ tr:=by
 refine wD (yC (g:=true) (by rw[hc];rfl)) (by simp only[asks,hc,D.ask]) ⟨fun _=>⟨h1,by rw[ha];rfl⟩,fun h=>by cases h⟩ ?_;simp only[ha,D.bool?,Option.getD_some,if_true];exact K
theorem Y4{c a b:Operand}{y:Bool}(hc:opd env c=.s (.bool false))(hb:(opd env b).core=.s (.bool y))(h2:(opd env b).ask)
 (K:AOps P Y ops dr cf Q rest ⟨up env t (.s (.bool y)),m,nx⟩ (tr++[([],[])])):
 AOps P Y ops dr cf Q (⟨some t,.pick c a b,ty,pos,after,none⟩::rest) ⟨env,m,nx⟩ tr:=by
 refine wD (yC (g:=false) (by rw[hc];rfl)) (by simp only[asks,hc,D.ask]) ⟨fun h=>oH,fun _=>⟨h2,by rw[hb];rfl⟩⟩ ?_;simp only[hb,D.bool?,Option.getD_some,Bool.false_eq_true,if_false];exact K
theorem cr{i:Nat}{row:Option Row}(he:Ef P op env m nx ⟨pre,v,[(i,row)],rd,0⟩)(ha:gG env op.operands.toList)(hp:pre)(K:AOps P Y ops dr cf Q rest ⟨env,up m i row,nx⟩ (tr++[(rd,[i])])):
 AOps P Y ops dr cf Q (⟨none,op,ty,pos,after,none⟩::rest) ⟨env,m,nx⟩ tr:=wD he (o7 ha) hp K
theorem eQ{row:Row}(he:Ef P op env m nx ⟨pre,v,[(nx,some row)],rd,1⟩)(ha:gG env op.operands.toList)(hp:pre)(K:AOps P Y ops dr cf Q rest ⟨up env t v,up m nx (some row),nx+1⟩ (tr++[(rd,[nx])])):
 AOps P Y ops dr cf Q (⟨some t,op,ty,pos,after,none⟩::rest) ⟨env,m,nx⟩ tr:=wD he (o7 ha) hp K
theorem pJ{i:Nat}{row:Row}(he:Ef P op env m nx ⟨pre,v,[(i,none),(nx,some row)],rd,1⟩)(ha:gG env op.operands.toList)(hp:pre)(K:AOps P Y ops dr cf Q rest ⟨up env t v,up (up m i none) nx (some row),nx+1⟩ (tr++[(rd,[i,nx])])):
 AOps P Y ops dr cf Q (⟨some t,op,ty,pos,after,none⟩::rest) ⟨env,m,nx⟩ tr:=wD he (o7 ha) hp K
theorem bm{j:Nat}{b c:Bool}{u:Nat}(hj:(ops[j]?).bind (·.dst)=some u)(hg:guardC (env u) b=some c)(he:Ef P op env m nx ⟨pre,v,[],rd,0⟩)(ha:c=true->gG env op.operands.toList/\pre)
 (K:AOps P Y ops dr cf Q rest ⟨up env t (.opt c v),m,nx⟩ (tr++[(rd,[])])):AOps P Y ops dr cf Q (⟨some t,op,ty,pos,after,some (j,b)⟩::rest) ⟨env,m,nx⟩ tr:=by
 simp only[AOps,AOp];rw[hj];simp only[Option.bind_some];rw[hg,he.nc,he.ny,he.ok];exact⟨fun hc=>⟨o7 (ha hc).1,(ha hc).2⟩,K⟩
theorem Y5{j:Nat}{b0 C:Bool}{u:Nat}(hj:(ops[j]?).bind (·.dst)=some u)(hg:guardC (env u) b0=some C){c a b:Operand}{g x y:Bool}(hc:(opd env c).core=.s (.bool g))(ha:(opd env a).core=.s (.bool x))(hb:(opd env b).core=.s (.bool y))
 (h0:C=true->(opd env c).ask) (h1:C=true->g=true->(opd env a).ask) (h2:C=true->g=false->(opd env b).ask)
 (K:AOps P Y ops dr cf Q rest ⟨up env t (.opt C (.s (.bool (if g then x else y)))),m,nx⟩ (tr++[([],[])])):
 AOps P Y ops dr cf Q (⟨some t,.pick c a b,ty,pos,after,some (j,b0)⟩::rest) ⟨env,m,nx⟩ tr:=by
 have he:=yC (P:=P) (env:=env) (m:=m) (nx:=nx) (a:=a) (b:=b) hc;simp only[ha,hb,D.bool?,Option.getD_some,Option.isSome_some,and_true] at he;simp only[AOps,AOp];rw[hj];simp only[Option.bind_some];rw[hg,he.nc,he.ny,he.ok];exact⟨fun hc=>⟨by simp only[asks];exact h0 hc,h1 hc,h2 hc⟩,K⟩
theorem ab2{j:Nat}{b:Bool}{u:Nat}{d:Option Nat}{e:Eff}(hj:(ops[j]?).bind (·.dst)=some u)(hg:guardC (env u) b=some true)(he:Ef P op env m nx e)(ha:gG env op.operands.toList)(hp:e.pre)
 (K:e.ups=[]->e.new=0->AOps P Y ops dr cf Q rest (St.put ⟨env,m,nx⟩ d (.opt true e.val)) (tr++[(e.rd,[])]))
 (K':AOps P Y ops dr cf Q rest (St.put ⟨env,upds m e.ups,nx+e.new⟩ d e.val) (tr++[(e.rd,e.ups.map (·.1))])):AOps P Y ops dr cf Q (⟨d,op,ty,pos,after,some (j,b)⟩::rest) ⟨env,m,nx⟩ tr:=by
 simp only[AOps,AOp];rw[hj];simp only[Option.bind_some];rw[hg,he.nc,he.ny,he.ok];simp only;split
 .rename_i h;simp only[Bool.and_eq_true,List.isEmpty_iff,beq_iff_eq] at h;exact⟨fun _=>⟨o7 ha,hp⟩,K h.1 h.2⟩
 .exact⟨fun _=>⟨o7 ha,hp,K'⟩,by simp⟩
theorem Re{j:Nat}{b:Bool}{u:Nat}{d:Option Nat}(hj:(ops[j]?).bind (·.dst)=some u)(hg:guardC (env u) b=some false)
 (K:∀ (x:D) rd,AOps P Y ops dr cf Q rest (St.put ⟨env,m,nx⟩ d (.opt false x)) (tr++[(rd,[])])):AOps P Y ops dr cf Q (⟨d,op,ty,pos,after,some (j,b)⟩::rest) ⟨env,m,nx⟩ tr:=by
 simp only[AOps,AOp];rw[hj];simp only[Option.bind_some];rw[hg];simp only;split
 .exact .inr ⟨by simp,fun _=>K .u []⟩
 .split
  .exact⟨by simp,fun _=>K .u []⟩
  .split
   .split
    .exact⟨by simp,K _ _⟩
    .exact⟨by simp,fun _=>K .u []⟩
   .exact⟨trivial,K .u []⟩
theorem aoI{j:Nat}{b:Bool}{u t:Nat}(hj:(ops[j]?).bind (·.dst)=some u)(hg:guardC (env u) b=some false)
 (K:∀ (x:D) rd,AOps P Y ops dr cf Q rest ⟨up env t (.opt false x),m,nx⟩ (tr++[(rd,[])])):AOps P Y ops dr cf Q (⟨some t,op,ty,pos,after,some (j,b)⟩::rest) ⟨env,m,nx⟩ tr:=Re hj hg K
theorem DE{f:FuncId}{args:List D}{d:Option Nat}(hc:callD (rho env op) op=some (f,args))(ha:gG env op.operands.toList)(h:CallOp P dr ⟨env,m,nx⟩ f args fun r m nx rd wr=>AOps P Y ops dr cf Q rest (St.put ⟨env,m,nx⟩ d r) (tr++[(rd,wr)])):
 AOps P Y ops dr cf Q (⟨d,op,ty,pos,after,none⟩::rest) ⟨env,m,nx⟩ tr:=by
 simp only[AOps,AOp];rw[hc];exact⟨o7 ha,h⟩
theorem ab3{f:FuncId}{args:List D}{r:D}(h:PCall P f args r)(hc:callD (rho env op) op=some (f,args))(ha:gG env op.operands.toList)(K:AOps P Y ops dr cf Q rest ⟨up env t r,m,nx⟩ (tr++[([],[])])):
 AOps P Y ops dr cf Q (⟨some t,op,ty,pos,after,none⟩::rest) ⟨env,m,nx⟩ tr:=DE hc ha (.inl ⟨r,h,K⟩)
theorem y0{f:FuncId}{args es:List D}{n:Nat}{C:TypeId}(h:OCall P f args es n C)(hc:callD (rho env op) op=some (f,args))(ha:gG env op.operands.toList)(K:AOps P Y ops dr cf Q rest ⟨up env t (.rs nx 0 n),up m nx (some (.cells es C)),nx+1⟩ (tr++[([],[nx])])):
 AOps P Y ops dr cf Q (⟨some t,op,ty,pos,after,none⟩::rest) ⟨env,m,nx⟩ tr:=DE hc ha (.inr (.inr (.inl ⟨es,n,C,h,K⟩)))
theorem mu{f:FuncId}{args:List D}{d:Option Nat}{dS:D->Mem->Nat->Prop}(h:ACalls P f args m nx dS)(hc:callD (rho env op) op=some (f,args))(ha:gG env op.operands.toList)
 (K:∀ r m' nx',dS r m' nx'->AOps P Y ops false cf Q rest (St.put ⟨env,m',nx'⟩ d r) (tr++[([],[])])):
 AOps P Y ops false cf Q (⟨d,op,ty,pos,after,none⟩::rest) ⟨env,m,nx⟩ tr:=DE hc ha (.inr (.inr (.inr (.inl ⟨rfl,h.mono K⟩))))
theorem Hy{j:Nat}{b c:Bool}{u:Nat}{f:FuncId}{args:List D}{r:D}(hj:(ops[j]?).bind (·.dst)=some u)(hg:guardC (env u) b=some c)(hc:callD (rho env op) op=some (f,args))(h:c=true->gG env op.operands.toList/\PCall P f args r)
 (K:AOps P Y ops dr cf Q rest ⟨up env t (.opt c r),m,nx⟩ (tr++[([],[])])):AOps P Y ops dr cf Q (⟨some t,op,ty,pos,after,some (j,b)⟩::rest) ⟨env,m,nx⟩ tr:=by
 simp only[AOps,AOp];rw[hj];simp only[Option.bind_some];rw[hg,hc];exact .inl ⟨r,fun C=>⟨o7 (h C).1,(h C).2⟩,K⟩
theorem Y1{j:Nat}{b:Bool}{u:Nat}{d:Option Nat}{f:FuncId}{args:List D}(hj:(ops[j]?).bind (·.dst)=some u)(hg:guardC (env u) b=some true)(hc:callD (rho env op) op=some (f,args))(ha:gG env op.operands.toList)
 (h:CallOp P dr ⟨env,m,nx⟩ f args fun r m nx rd wr=>AOps P Y ops dr cf Q rest (St.put ⟨env,m,nx⟩ d r) (tr++[(rd,wr)])):AOps P Y ops dr cf Q (⟨d,op,ty,pos,after,some (j,b)⟩::rest) ⟨env,m,nx⟩ tr:=by
 simp only[AOps,AOp];rw[hj];simp only[Option.bind_some];rw[hg,hc];exact .inr ⟨fun _=>⟨o7 ha,h⟩,by simp⟩
theorem IK{l:Nat}{args:List D}{d:Option Nat}(hc:callD (rho env op) op=none)(hy:yieldD (rho env op) op=some (l,args))(ha:gG env op.operands.toList)(h:Y l args m nx fun r m' nx'=>AOps P Y ops false cf Q rest (St.put ⟨env,m',nx'⟩ d r) (tr++[([],[])])):
 AOps P Y ops false cf Q (⟨d,op,ty,pos,after,none⟩::rest) ⟨env,m,nx⟩ tr:=by
 simp only[AOps,AOp];rw[hc,hy];exact⟨o7 ha,trivial,h⟩
theorem D7{j:Nat}{b:Bool}{u:Nat}{l:Nat}{args:List D}{d:Option Nat}(hj:(ops[j]?).bind (·.dst)=some u)(hg:guardC (env u) b=some true)(hc:callD (rho env op) op=none)(hy:yieldD (rho env op) op=some (l,args))(ha:gG env op.operands.toList)
 (h:Y l args m nx fun r m' nx'=>AOps P Y ops false cf Q rest (St.put ⟨env,m',nx'⟩ d r) (tr++[([],[])])):AOps P Y ops false cf Q (⟨d,op,ty,pos,after,some (j,b)⟩::rest) ⟨env,m,nx⟩ tr:=by
 simp only[AOps,AOp];rw[hj];simp only[Option.bind_some];rw[hg,hc,hy];exact⟨fun _=>⟨o7 ha,trivial,h⟩,by simp⟩
def fu(K:St->Prop):Exit->St->Prop
 | .normal,st=>K st
 |_,_=>True
theorem ab{K:St->Prop}{st:St}(h:K st):AOps P Y ops dr [] (fu K) [] st tr:=⟨by simp,h⟩
theorem bj{K:St->Prop}{st:St}(hc:∀ q∈cf,apartT tr q.1 q.2)(h:K st):AOps P Y ops dr cf (fu K) [] st tr:=⟨hc,h⟩
variable{st:St}{a b c:Code}
theorem AOps.kU{cf:List (Nat×Nat)}{K:St->Prop}{Q:Exit->St->Prop}[dD Y]{l:List Oper}(h:AOps P Y ops dr cf (fu K) l st tr)(hk:∀ st,K st->Q .normal st):AOps P Y ops dr cf Q l st tr:=
 AOps.mono (Q:=fu K) (fun st h=>hk st h) l st tr h
theorem rF[dD Y]{id:Nat}(h:AOps P Y ops false [] (fu fun st=>Q .normal st) ops.toList st []):AW P Y rf (.region id ops false) Q st:=AOps.kU h fun _ h=>h
theorem Bb[dD Y]{id:Nat}(hi:drawInfo ops=some cf)(h:AOps P Y ops true cf (fu fun st=>Q .normal st) ops.toList st []):AW P Y rf (.region id ops true) Q st:=by
 show match drawInfo ops with
  |some cf=>AOps P Y ops true cf Q ops.toList st []
  |none=>False
 rw[hi];exact AOps.kU h fun _ h=>h
theorem an[dD Y]{id:Nat}(h:AOps P Y ops false [] (fu fun st=>AW P Y rf b Q st) ops.toList st []):AW P Y rf (.seq (.region id ops false) b) Q st:=
 rF (rf:=rf) (id:=id) (AOps.kU h fun st h=>⟨st,.refl st,h⟩)
theorem dd[dD Y]{id:Nat}(hi:drawInfo ops=some cf)(h:AOps P Y ops true cf (fu fun st=>AW P Y rf b Q st) ops.toList st []):AW P Y rf (.seq (.region id ops true) b) Q st:=
 Bb (rf:=rf) (id:=id) hi (AOps.kU h fun st h=>⟨st,.refl st,h⟩)
theorem aJ{st':St}(hg:Ghost P st st')(h:AW P Y rf b Q st'):∃ C,Ghost P st C/\AW P Y rf b Q C:=⟨st',hg,h⟩
theorem av[dD Y]{id:Nat}(h:AOps P Y ops false [] (fu fun st=>∃ st',Ghost P st st'/\AW P Y rf b Q st') ops.toList st []):AW P Y rf (.seq (.region id ops false) b) Q st:=
 rF (rf:=rf) (id:=id) (AOps.kU h fun _ h=>h)
theorem mQ[dD Y]{id:Nat}(hi:drawInfo ops=some cf)(h:AOps P Y ops true cf (fu fun st=>∃ st',Ghost P st st'/\AW P Y rf b Q st') ops.toList st []):AW P Y rf (.seq (.region id ops true) b) Q st:=
 Bb (rf:=rf) (id:=id) hi (AOps.kU h fun _ h=>h)
theorem Q9[dD Y](J:St->Prop)(h:AW P Y rf a (seqQ J Q) st)(k:∀ st,J st->AW P Y rf b Q st):AW P Y rf (.seq a b) Q st:=
 sX a (fun e st h=>by
  cases e with
  |normal=>exact⟨st,.refl st,k st h⟩
  |_=>exact h) h
theorem dB[dD Y](J:St->Prop)(h:AW P Y rf a (seqQ J Q) st)(k:∀ st,J st->∃ st',Ghost P st st'/\AW P Y rf b Q st'):AW P Y rf (.seq a b) Q st:=
 sX a (fun e st h=>by
  cases e with
  |normal=>exact k st h
  |_=>exact h) h
theorem cx[dD Y](h:AW P Y rf b Q st):AW P Y rf (.seq .skip b) Q st:=⟨st,.refl st,h⟩
theorem dx(h:Q .ret st):AW P Y rf (.seq .ret b) Q st:=h
theorem qc{id:Nat}(h:Q (.exit id) st):AW P Y rf (.seq (.exit id) b) Q st:=h
theorem Wz{l:Nat}(h:AW P Y rf b Q st):AW P Y rf (.seq (.label l) b) Q st:=⟨st,.refl st,h⟩
theorem aD[dD Y](h:AW P Y rf (.seq a (.seq b c)) Q st):AW P Y rf (.seq (.seq a b) c) Q st:=by
 refine sX a (fun e st h=>?_) h;cases e with
 |normal=>
  obtain⟨st',hg,h⟩:=h;refine⟨st',hg,sX b (fun e st h=>?_) h⟩;cases e<;>exact h
 |_=>exact h
theorem au{c:Operand}{x y:Code}{g:Bool}(hc:opd st.env c=.s (.bool g))(ht:g=true->AW P Y rf x Q st)(hf:g=false->AW P Y rf y Q st):AW P Y rf (.cond c x y) Q st:=by
 rw[Nh];rw[hc];exact⟨trivial,ht,hf⟩
theorem bC{c:Operand}{x y:Code}{g:Bool}(hc:opd st.env c=.s (.bool g))(ht:g=true->AW P Y rf (.seq x b) Q st)(hf:g=false->AW P Y rf (.seq y b) Q st):AW P Y rf (.seq (.cond c x y) b) Q st:=au hc ht hf
theorem aak{c:Operand}{x y:Code}(hc:opd st.env c=.ub)(ht:AW P Y rf x Q st)(hf:AW P Y rf y Q st):AW P Y rf (.cond c x y) Q st:=by
 rw[Nh];rw[hc];exact⟨trivial,ht,hf⟩
theorem nL{id:Nat}(h:AW P Y rf b (blockQ id Q) st):AW P Y rf (.block id b) Q st:=h
theorem aad[dD Y]{α:Type}(S:α->St)(J:α->Prop)(μ:α->Nat)(X:α)(h0:st=S X)(hJ:J X)(h:∀ x,J x->AW P Y rf b (seqQ (fun st'=>∃ U C,Ghost P st' U/\U=S C/\J C/\μ C<μ x) Q) (S x)):AW P Y rf (.loop b) Q st:=by
 refine Mu (fun j st=>∃ x,st=S x/\J x/\μ x=j) (j₀:=μ X) ⟨X,h0,hJ,rfl⟩ ?_;rintro j st ⟨x,rfl,hx,rfl⟩;refine sX b (fun e st' hq=>?_) (h x hx);cases e with
 |normal=>
  obtain⟨U,C,h1,h2,h3,h4⟩:=hq;exact⟨U,h1,μ C,h4,C,h2,h3,rfl⟩
 |_=>exact hq
end
section
variable{P:Program}{env:Env}{m:Mem}{nx:Nat}{t:TypeId}{x y a:Operand}{d v:D}{k:IntKind}{n n':Int}{p q:TypeId}
theorem jb(hx:(opd env x).core=v):Ef P (.move x) env m nx ⟨True,v,[],[],0⟩:=⟨by simp only[aop,rho,hx],rfl,rfl⟩
theorem lk(hx:(opd env x).core=v):Ef P (.assign x) env m nx ⟨True,v,[],[],0⟩:=⟨by simp only[aop,rho,hx],rfl,rfl⟩
theorem Ho(op:BinOp)(v:Value)(y:Operand):nilD P m op t (.s v) y=none:=by
 unfold nilD;split<;>first|rfl|(rename_i h;cases h)
theorem aa0{op:BinOp}{v w:Value}(h:∀ a b,v=.bool a->w=.bool b->False):binD P op t (.s v) (.s w)=(binV op v w).map fun r=>(r.1,.s r.2):=by
 cases v<;>cases w<;>first|rfl|exact(h _ _ rfl rfl).elim
theorem kN{op:BinOp}{v w u:Value}{pre:Prop}(hx:(opd env x).core=.s v)(hy:(opd env y).core=.s w)(hn:∀ a b,v=.bool a->w=.bool b->False)(hb:binV op v w=some (pre,u)):Ef P (.binOp op t x y p) env m nx ⟨pre,.s u,[],[],0⟩:=
 ⟨by simp only[aop,rho,hx,hy,Ho,aa0 hn,hb,Option.map_some],rfl,rfl⟩
section ints
variable(hx:(opd env x).core=.s (.int k n))(hy:(opd env y).core=.s (.int k n'))
include hx hy
theorem HP:Ef P (.binOp .lss t x y p) env m nx ⟨k=k,.s (.bool (decide (n<n'))),[],[],0⟩:=kN hx hy oS rfl
theorem HQ:Ef P (.binOp .leq t x y p) env m nx ⟨k=k,.s (.bool (decide (n<=n'))),[],[],0⟩:=kN hx hy oS rfl
theorem HR:Ef P (.binOp .gtr t x y p) env m nx ⟨k=k,.s (.bool (decide (n'<n))),[],[],0⟩:=kN hx hy oS rfl
theorem HS:Ef P (.binOp .geq t x y p) env m nx ⟨k=k,.s (.bool (decide (n'<=n))),[],[],0⟩:=kN hx hy oS rfl
theorem HT:Ef P (.binOp .eql t x y p) env m nx ⟨k=k,.s (.bool (n==n')),[],[],0⟩:=kN hx hy oS rfl
theorem HU:Ef P (.binOp .neq t x y p) env m nx ⟨k=k,.s (.bool (n !=n')),[],[],0⟩:=kN hx hy oS rfl
theorem aa1:Ef P (.binOp .add t x y p) env m nx ⟨k=k,.s (.int k (k.wrap (n+n'))),[],[],0⟩:=kN hx hy oS rfl
theorem aa2:Ef P (.binOp .sub t x y p) env m nx ⟨k=k,.s (.int k (k.wrap (n - n'))),[],[],0⟩:=kN hx hy oS rfl
theorem aa3:Ef P (.binOp .quo t x y p) env m nx ⟨k=k/\n'≠0,.s (.int k (k.wrap (n.tdiv n'))),[],[],0⟩:=kN hx hy oS rfl
theorem abO:Ef P (.binOp .rem t x y p) env m nx ⟨k=k/\n'≠0,.s (.int k (n.tmod n')),[],[],0⟩:=kN hx hy oS rfl
theorem abP:Ef P (.binOp .and t x y p) env m nx ⟨k=k,.s (.int k (intBitsV .and k n n')),[],[],0⟩:=kN hx hy oS rfl
theorem aiB:Ef P (.binOp .or t x y p) env m nx ⟨k=k,.s (.int k (intBitsV .or k n n')),[],[],0⟩:=kN hx hy oS rfl
theorem YP:Ef P (.binOp .andNot t x y p) env m nx ⟨k=k,.s (.int k (intBitsV .andNot k n n')),[],[],0⟩:=kN hx hy oS rfl
end ints
theorem abQ{C:IntKind}(hx:(opd env x).core=.s (.int k n))(hy:(opd env y).core=.s (.int C n')):Ef P (.binOp .shl t x y p) env m nx ⟨0<=n',.s (.int k (k.wrap (n*2 ^ (min n'.toNat k.bits)))),[],[],0⟩:=kN hx hy oS rfl
theorem QZ{C:IntKind}(hx:(opd env x).core=.s (.int k n))(hy:(opd env y).core=.s (.int C n')):Ef P (.binOp .shr t x y p) env m nx ⟨0<=n',.s (.int k (n.fdiv (2 ^ (min n'.toNat k.bits)))),[],[],0⟩:=kN hx hy oS rfl
theorem i64_in(n:Int)(h: -9223372036854775808<=n/\n<=9223372036854775807):IntKind.i64.wrap n=n:=Go.IntWalk.i64_in n h
theorem Q1(hx:(opd env x).core=.s (.int .i64 n))(hy:(opd env y).core=.s (.int .i64 n'))(hb: -9223372036854775808<=n+n'/\n+n'<=9223372036854775807):Ef P (.binOp .add t x y p) env m nx ⟨IntKind.i64=IntKind.i64,.s (.int .i64 (n+n')),[],[],0⟩:=by
 have:=aa1 (P:=P) (m:=m) (nx:=nx) (t:=t) (p:=p) hx hy
 rwa[i64_in _ hb] at this
theorem HV(hx:(opd env x).core=.s (.int .i64 n))(hy:(opd env y).core=.s (.int .i64 n'))(hb: -9223372036854775808<=n - n'/\n - n'<=9223372036854775807):Ef P (.binOp .sub t x y p) env m nx ⟨IntKind.i64=IntKind.i64,.s (.int .i64 (n - n')),[],[],0⟩:=by
 have:=aa2 (P:=P) (m:=m) (nx:=nx) (t:=t) (p:=p) hx hy
 rwa[i64_in _ hb] at this
section strings
variable{s s':ByteArray}(hx:(opd env x).core=.s (.string s))(hy:(opd env y).core=.s (.string s'))
include hx hy
theorem Hp:Ef P (.binOp .eql t x y p) env m nx ⟨True,.s (.bool (s.toList==s'.toList)),[],[],0⟩:=kN hx hy oS rfl
theorem O5:Ef P (.binOp .geq t x y p) env m nx ⟨True,.s (.bool !(Op.bytesLess s.toList s'.toList)),[],[],0⟩:=kN hx hy oS rfl
end strings
theorem O6{b C:Bool}(hx:(opd env x).core=.s (.bool b))(hy:(opd env y).core=.s (.bool C)):Ef P (.binOp .eql t x y p) env m nx ⟨boT P t=true,.s (.bool (b==C)),[],[],0⟩:=
 ⟨by simp only[aop,rho,hx,hy,Ho,binD,Option.map_some],rfl,rfl⟩
theorem Hq{b C:Bool}(hx:(opd env x).core=.s (.bool b))(hy:(opd env y).core=.s (.bool C)):Ef P (.binOp .neq t x y p) env m nx ⟨boT P t=true,.s (.bool !(b==C)),[],[],0⟩:=
 ⟨by simp only[aop,rho,hx,hy,Ho,binD,Option.map_some],rfl,rfl⟩
theorem Q2{b:Bool}(hx:(opd env x).core=.s (.bool b)):Ef P (.unOp .not t x) env m nx ⟨True,.s (.bool !b),[],[],0⟩:=⟨by simp only[aop,rho,hx,unV,Option.map_some],rfl,rfl⟩
theorem Z'{z:List D}(C:zeroP P t=z):Ef P (.alloc t) env m nx ⟨tyOk P t=true,.rp nx 0,[(nx,some (.cells z t))],[],1⟩:=⟨by simp only[aop,C],rfl,rfl⟩
theorem Q3{cs:List D}(hx:(opd env x).core=d)(hc:d.cells=cs):Ef P (.box t x) env m nx ⟨cs.all D.one=true,.rp nx 0,[(nx,some (.cells cs t))],[],1⟩:=⟨by simp only[aop,rho,hx,hc],rfl,rfl⟩
theorem A9(hx:(opd env x).core=d)(hc:d.cells=[d]):Ef P (.box t x) env m nx ⟨[d].all D.one=true,.rp nx 0,[(nx,some (.cells [d] t))],[],1⟩:=Q3 hx hc
theorem rW{cs:List D}(hx:(opd env x).core=.agg cs):Ef P (.box t x) env m nx ⟨cs.all D.one=true,.rp nx 0,[(nx,some (.cells cs t))],[],1⟩:=Q3 hx rfl
theorem O7{cs:List D}(hx:(opd env x).core=.pt (v::cs))(ha:aggP P t=false):Ef P (.load t x) env m nx ⟨tyOk P t=true/\P.cellsOf t<=(v::cs).length,v,[],[],0⟩:=⟨by simp[aop,rho,hx,takeV,ha],rfl,rfl⟩
theorem kH{cs vs:List D}{n:Nat}(hx:(opd env x).core=.pt cs)(ha:aggP P t=true)(hc:P.cellsOf t=n)(hv:cs.take n=vs):Ef P (.load t x) env m nx ⟨tyOk P t=true/\P.cellsOf t<=cs.length,.agg vs,[],[],0⟩:=⟨by simp[aop,rho,hx,takeV,ha,hc,hv],rfl,rfl⟩
theorem eX{i off:Nat}{cs cs':List D}{e:TypeId}(hx:(opd env x).core=.rp i off)(hm:m i=some (.cells cs e))(hd:cs.drop off=v::cs')(ha:aggP P t=false):Ef P (.load t x) env m nx ⟨tyOk P t=true/\off+P.cellsOf t<=cs.length,v,[],[i],0⟩:=⟨by simp[aop,rho,hx,hm,takeV,ha,hd],rfl,rfl⟩
theorem cP{i off:Nat}{cs vs:List D}{e:TypeId}{n:Nat}(hx:(opd env x).core=.rp i off)(hm:m i=some (.cells cs e))(ha:aggP P t=true)(hc:P.cellsOf t=n)(hv:(cs.drop off).take n=vs):Ef P (.load t x) env m nx ⟨tyOk P t=true/\off+P.cellsOf t<=cs.length,.agg vs,[],[i],0⟩:=⟨by simp[aop,rho,hx,hm,takeV,ha,hc,hv],rfl,rfl⟩
theorem Nb{i off:Nat}{cs cs' vs:List D}{e:TypeId}(hx:(opd env x).core=.rp i off)(hy:(opd env y).core=d)(hm:m i=some (.cells cs e))(hv:d.cells=vs)(C:splice cs off vs=cs'):
 Ef P (.store t x y) env m nx ⟨tyOk P t=true/\vs.length=P.cellsOf t/\off+P.cellsOf t<=cs.length/\vs.all D.one=true,.tup [],[(i,some (.cells cs' e))],[i],0⟩:=⟨by simp only[aop,rho,hx,hy,hm,hv,C],rfl,rfl⟩
theorem gy{i off:Nat}{cs cs':List D}{e:TypeId}(hx:(opd env x).core=.rp i off)(hy:(opd env y).core=d)(hm:m i=some (.cells cs e))(hv:d.cells=[d])(C:cs.set off d=cs'):
 Ef P (.store t x y) env m nx ⟨tyOk P t=true/\[d].length=P.cellsOf t/\off+P.cellsOf t<=cs.length/\[d].all D.one=true,.tup [],[(i,some (.cells cs' e))],[i],0⟩:=Nb hx hy hm hv C
theorem fk{i off:Nat}{cs cs' vs:List D}{e:TypeId}(hx:(opd env x).core=.rp i off)(hy:(opd env y).core=.agg vs)(hm:m i=some (.cells cs e))(C:splice cs off vs=cs'):
 Ef P (.store t x y) env m nx ⟨tyOk P t=true/\vs.length=P.cellsOf t/\off+P.cellsOf t<=cs.length/\vs.all D.one=true,.tup [],[(i,some (.cells cs' e))],[i],0⟩:=Nb hx hy hm rfl C
theorem Nc{cs:List D}{j off:Nat}{C:TypeId}(hx:(opd env x).core=.pt cs)(hf:fieldP P t j=some (off,C)):Ef P (.fieldAddr t x j) env m nx ⟨0<P.cellsOf C,.pt (cs.drop off),[],[],0⟩:=⟨by simp only[aop,rho,hx,hf],rfl,rfl⟩
theorem o8{i o:Nat}{j off:Nat}{C:TypeId}{r:Row}(hx:(opd env x).core=.rp i o)(hm:m i=some r)(hf:fieldP P t j=some (off,C)):Ef P (.fieldAddr t x j) env m nx ⟨0<P.cellsOf C,.rp i (o+off),[],[i],0⟩:=⟨by simp only[aop,rho,hx,hf,hm],rfl,rfl⟩
theorem O8{cs:List D}(hx:(opd env x).core=.pt cs):Ef P (.nilCheck x) env m nx ⟨True,.pt cs,[],[],0⟩:=⟨by simp only[aop,rho,hx],rfl,rfl⟩
theorem O9{i o:Nat}{r:Row}(hx:(opd env x).core=.rp i o)(hm:m i=some r):Ef P (.nilCheck x) env m nx ⟨True,.rp i o,[],[i],0⟩:=⟨by simp only[aop,rho,hx,hm],rfl,rfl⟩
theorem HW{es cs:List D}{l sz:Nat}{e:TypeId}(hx:(opd env x).core=.sl es l)(hy:(opd env y).core=.s (.int k n))(he:elemP P t=e)(C:P.cellsOf e=sz)(hd:es.drop (n.toNat*sz)=cs):
 Ef P (.indexAddr t x y) env m nx ⟨slT P t=true/\0<=n/\n<l/\(n.toNat+1)*sz<=es.length,.pt cs,[],[],0⟩:=⟨by simp only[aop,rho,hx,hy,he,C,hd],rfl,rfl⟩
theorem Hr{j off l sz:Nat}{e:TypeId}{r:Row}(hx:(opd env x).core=.rs j off l)(hy:(opd env y).core=.s (.int k n))(hm:m j=some r)(he:elemP P t=e)(C:P.cellsOf e=sz):
 Ef P (.indexAddr t x y) env m nx ⟨slT P t=true/\0<=n/\n<l,.rp j (off+n.toNat*sz),[],[j],0⟩:=⟨by simp only[aop,rho,hx,hy,hm,he,C],rfl,rfl⟩
theorem aa4{j off sz l:Nat}{e:TypeId}{r:Row}(hx:(opd env x).core=.rp j off)(hy:(opd env y).core=.s (.int k n))(hm:m j=some r)(he:elemP P t=e)(C:P.cellsOf e=sz)(hl:lenP P t=l):
 Ef P (.indexAddr t x y) env m nx ⟨arT P t=true/\0<=n/\n<l,.rp j (off+n.toNat*sz),[],[j],0⟩:=⟨by simp only[aop,rho,hx,hy,hm,he,C,hl],rfl,rfl⟩
section builtins
theorem uK{b:Builtin}{ts:Array TypeId}{args:Array Operand}{aS:List D}{e:Eff}(C:ts.size=args.size)(ha:args.toList.map (fun x=>(opd env x).core)=aS)(hb:builtinD P m nx b ts aS=some e):Ef P (.call { callee:=.builtin b,args:=args,argTypes:=ts }) env m nx e:=
 ⟨by simp only[aop];rw[if_pos C];simp only[rho];rw[ha,hb],rfl,rfl⟩
theorem Q4{es:List D}{l:Nat}(hx:(opd env x).core=.sl es l):Ef P (.call { callee:=.builtin .len,args:= #[x],argTypes:= #[t] }) env m nx ⟨slT P t=true,.s (.int .i64 l),[],[],0⟩:=uK (aS:=[.sl es l]) rfl (by simp[hx]) rfl
theorem Hs{i off l:Nat}{r:Row}(hx:(opd env x).core=.rs i off l)(hm:m i=some r):Ef P (.call { callee:=.builtin .len,args:= #[x],argTypes:= #[t] }) env m nx ⟨slT P t=true,.s (.int .i64 l),[],[i],0⟩:=uK (aS:=[.rs i off l]) rfl (by simp[hx]) (by simp[builtinD,lenD,hm])
theorem Pa(hx:(opd env x).core=.z):Ef P (.call { callee:=.builtin .len,args:= #[x],argTypes:= #[t] }) env m nx ⟨slT P t=true,.s (.int .i64 0),[],[],0⟩:=uK (aS:=[.z]) rfl (by simp[hx]) rfl
theorem Ht{b:ByteArray}(hx:(opd env x).core=.s (.string b)):Ef P (.call { callee:=.builtin .len,args:= #[x],argTypes:= #[t] }) env m nx ⟨stT P t=true,.s (.int .i64 b.size),[],[],0⟩:=uK (aS:=[.s (.string b)]) rfl (by simp[hx]) rfl
theorem Q5{k:IntKind}(hx:(opd env x).core=.s (.int k n))(hy:(opd env y).core=.s (.int k n')):Ef P (.call { callee:=.builtin .min,args:= #[x,y],argTypes:= #[t,t] }) env m nx ⟨k=k,.s (.int k (if n'<n then n' else n)),[],[],0⟩:=uK (aS:=[.s (.int k n),.s (.int k n')]) rfl (by simp[hx,hy]) rfl
structure Cells(m:Mem)(sz:Nat)(d:D)(p:Prop)(rd:List Nat)(k:Nat)(news:List D):Prop where
 ok:sliceCells m sz d=some (p,rd,k,news)
theorem Mm{es news:List D}{k sz:Nat}(h:es.take (k*sz)=news):Cells m sz (.sl es k) (k*sz<=es.length) [] k news:=⟨by simp[sliceCells,h]⟩
theorem nG{i off k sz:Nat}{cs news:List D}{e:TypeId}(hm:m i=some (.cells cs e))(h:(cs.drop off).take (k*sz)=news):Cells m sz (.rs i off k) (off+k*sz<=cs.length) [i] k news:=⟨by simp[sliceCells,hm,h]⟩
theorem Hu{p:Prop}{rd:List Nat}{c sz:Nat}{news:List D}{e:TypeId}(hx:(opd env x).core=.z)(hy:(opd env y).core=d)(he:elemP P t=e)(C:P.cellsOf e=sz)(hc:Cells m sz d p rd c news):
 Ef P (.call { callee:=.builtin .append,args:= #[x,y],argTypes:= #[t,t] }) env m nx ⟨slT P t=true/\p/\0<sz/\c<=maxLen/\c*P.bytesOf e<=140737488355328,.rs nx 0 c,[(nx,some (.cells news e))],rd,1⟩:=by
 refine uK (aS:=[.z,d]) rfl (by simp[hx,hy]) ?_;simp only[builtinD];rw[if_pos oS];simp only[appendD,Array.getD_eq_getD_getElem?,List.getElem?_toArray,List.getElem?_cons_zero,Option.getD_some,he,C,hc.ok]
theorem pA{p:Prop}{rd:List Nat}{c sz i off l:Nat}{cs cs' news:List D}{e:TypeId}(hx:(opd env x).core=.rs i off l)(hm:m i=some (.cells cs e))(hy:(opd env y).core=d)(he:elemP P t=e)(C:P.cellsOf e=sz)(hc:Cells m sz d p rd c news)(hn:cs.drop off++news=cs'):
 Ef P (.call { callee:=.builtin .append,args:= #[x,y],argTypes:= #[t,t] }) env m nx ⟨slT P t=true/\e=e/\p/\0<sz/\off+l*sz=cs.length/\l+c<=maxLen/\(l+c)*P.bytesOf e<=140737488355328/\i∉rd,.rs nx 0 (l+c),[(i,none),(nx,some (.cells cs' e))],i::rd,1⟩:=by
 refine uK (aS:=[.rs i off l,d]) rfl (by simp[hx,hy]) ?_;simp only[builtinD];rw[if_pos oS];simp only[appendD,Array.getD_eq_getD_getElem?,List.getElem?_toArray,List.getElem?_cons_zero,Option.getD_some,he,C,hc.ok,hm,hn]
end builtins
theorem Pb{b:ByteArray}(hx:(opd env x).core=.s (.string b))(hy:(opd env y).core=.s (.int k n)):Ef P (.index t x y) env m nx ⟨stT P t=true/\0<=n/\n<b.size,.s (.int .u8 (b.data.toList.getD n.toNat 0).toNat),[],[],0⟩:=⟨by simp only[aop,rho,hx,hy],rfl,rfl⟩
theorem qd{cs cs':List D}{j:Nat}(hx:(opd env x).core=.tup cs)(hd:cs.drop j=v::cs'):Ef P (.extract x j) env m nx ⟨j<cs.length,v,[],[],0⟩:=by
 have h:cs[j]? =some v:=by
  have:(cs.drop j)[0]? =some v:=by rw[hd];rfl
  simpa using this
 exact⟨by simp[aop,rho,hx,h],rfl,rfl⟩
theorem aaa{ps:Array (Nat×Operand)}{fs:Array Field}{cs z:List D}{C:List (Nat×D)}(J:P.underlying t=some (.struct fs))(U:zeroP P t=z)(hq:(ps.toList.map fun q=>(q.1,(opd env q.2).core))=C)
 (hf:fillD (fun i=>(fs[i]?).map fun f=>(f.offset,P.cellsOf f.type)) z C=some cs):Ef P (.build t ps) env m nx ⟨tyOk P t=true/\fs.toList.all (fun f=>(P.info? f.type).isSome)=true,.agg cs,[],[],0⟩:=
 ⟨by simp only[aop,rho,J,U,hq,hf,Option.map_some],rfl,rfl⟩
theorem Gt{ps:Array (Nat×Operand)}{fs:Array Field}{C:List (Nat×Nat)}{cs z:List D}{J:List (Nat×D)}(U:P.underlying t=some (.struct fs))(hp:(fs.toList.map fun(f:Field)=>(f.offset,P.cellsOf f.type))=C)(X:zeroP P t=z)(hq:(ps.toList.map fun q=>(q.1,(opd env q.2).core))=J)
 (hf:fillD (fun i=>C[i]?) z J=some cs):Ef P (.build t ps) env m nx ⟨tyOk P t=true/\fs.toList.all (fun f=>(P.info? f.type).isSome)=true,.agg cs,[],[],0⟩:=by
 refine aaa U X hq ?_
 have:(fun(i:Nat)=>(fs[i]?).map fun(f:Field)=>(f.offset,P.cellsOf f.type))=fun(i:Nat)=>C[i]? :=by
  funext i;rw[<- hp];simp
 rw[this];exact hf
theorem Af{ps:Array (Nat×Operand)}{l sz:Nat}{e:TypeId}{cs z:List D}{C:List (Nat×D)}(he:elemP P t=e)(J:P.cellsOf e=sz)(U:zeroP P e=z)(hq:(ps.toList.map fun q=>(q.1,(opd env q.2).core))=C)
 (hf:fillD (fun i=>some (i*sz,sz)) (replD l z) C=some cs):Ef P (.buildSlice t l ps) env m nx ⟨cs.all D.one=true/\l*sz<=2 ^ 24/\slT P t=true/\l<=maxLen,.rs nx 0 l,[(nx,some (.cells cs e))],[],1⟩:=
 ⟨by simp only[aop,rho,he,J,U,hq,hf,Option.map_some],rfl,rfl⟩
theorem Pc{f:Fn}{fs cs:Array Operand}{J C:List D}(hf:fs.toList.map (fun x=>(opd env x).core)=J)(hc:cs.toList.map (fun x=>(opd env x).core)=C):Ef P (.makeFunc f fs cs) env m nx ⟨True,.fn f J C,[],[],0⟩:=⟨by simp only[aop,rho,hf,hc],rfl,rfl⟩
theorem abR:Ef P (.makeMap t none) env m nx ⟨True,.mp nx,[(nx,some (.map []))],[],1⟩:=⟨by simp only[aop],rfl,rfl⟩
theorem yv{e:TypeId}{z:List D}(hx:(opd env x).core=.s (.int .i64 n))(hy:(opd env y).core=.s (.int .i64 n'))(he:elemP P t=e)(C:zeroP P e=z):
 Ef P (.makeSlice t x y) env m nx ⟨0<=n/\n=n'/\n<=9223372036854775807/\P.bytesOf e*n<=281474976710656/\slT P t=true,.rs nx 0 n.toNat,[(nx,some (.cells (replD n.toNat z) e))],[],1⟩:=⟨by simp only[aop,rho,hx,hy,he,C],rfl,rfl⟩
theorem aa5{src:TypeId}{C:IntKind}(hx:(opd env x).core=.s (.int k n))(J:P.underlying t=some (.int C)):Ef P (.convert src t x) env m nx ⟨tyOk P src=true,.s (.int C (C.wrap n)),[],[],0⟩:=⟨by simp only[aop,rho,hx,J],rfl,rfl⟩
theorem aab{src e:TypeId}{b:ByteArray}(hx:(opd env x).core=.s (.string b))(C:P.underlying t=some (.slice e))(he:P.underlying e=some (.int .u8)):
 Ef P (.convert src t x) env m nx ⟨stT P src=true/\b.size<=maxLen,.sl (b.data.toList.map fun c=>.s (.int .u8 c.toNat)) b.size,[],[],0⟩:=⟨by simp only[aop,rho,hx,C,he],rfl,rfl⟩
def ct(b:ByteArray):List Int:=b.data.toList.map fun c=>(c.toNat:Int)
theorem Wa(b:ByteArray):(ct b).length=b.size:=by unfold ct;rw[List.length_map];rfl
theorem Mn{src e:TypeId}{b:ByteArray}(hx:(opd env x).core=.s (.string b))(C:P.underlying t=some (.slice e))(he:P.underlying e=some (.int .u8)):
 Ef P (.convert src t x) env m nx ⟨stT P src=true/\b.size<=maxLen,.sl ((ct b).map fun n=>.s (.int .u8 n)) (ct b).length,[],[],0⟩:=by
 have:=aab (P:=P) (env:=env) (m:=m) (nx:=nx) (t:=t) (src:=src) hx C he;have h:(ct b).map (fun n=>D.s (.int .u8 n))=b.data.toList.map (fun c=>D.s (.int .u8 c.toNat)):=by rw[ct,List.map_map];rfl
 rw[Wa,h];exact this
theorem yA{es es':List D}{l:Nat}{lo hi:Option Operand}{a b:Int}{e:TypeId}{sz:Nat}(hx:(opd env x).core=.sl es l)(he:elemP P t=e)(C:P.cellsOf e=sz)
 (ha:bndD (lo.map fun x=>(opd env x).core) 0=some a) (hb:bndD (hi.map fun x=>(opd env x).core) l=some b) (hd:(es.drop (a.toNat*sz)).take ((b - a).toNat*sz)=es'):
 Ef P (.slice t x lo hi none) env m nx ⟨slT P t=true/\0<=a/\a<=b/\b<=l,.sl es' (b - a).toNat,[],[],0⟩:=by
 refine⟨?_,rfl,rfl⟩;show sliceD P m t (opd env x).core (lo.map fun x=>(opd env x).core) (hi.map fun x=>(opd env x).core) (Option.map (fun x=>(opd env x).core) none)=_;rw[hx];simp only[sliceD,Option.map_none,ha,hb,he,C,hd]
theorem Mo{i off l:Nat}{cs:List D}{lo hi:Option Operand}{a b:Int}{e:TypeId}{sz:Nat}(hx:(opd env x).core=.rs i off l)(hm:m i=some (.cells cs e))(he:elemP P t=e)(C:P.cellsOf e=sz)
 (ha:bndD (lo.map fun x=>(opd env x).core) 0=some a) (hb:bndD (hi.map fun x=>(opd env x).core) l=some b):
 Ef P (.slice t x lo hi none) env m nx ⟨(slT P t=true/\sz=sz)/\0<=a/\a<=b/\b<=l,.rs i (off+a.toNat*sz) (b - a).toNat,[],[i],0⟩:=by
 refine⟨?_,rfl,rfl⟩;show sliceD P m t (opd env x).core (lo.map fun x=>(opd env x).core) (hi.map fun x=>(opd env x).core) (Option.map (fun x=>(opd env x).core) none)=_;rw[hx];simp only[sliceD,hm,Option.map_none,ha,hb,he,C]
theorem YQ{es es':List D}{l:Nat}{lo hi:Option Operand}{z:Operand}{a b c:Int}{e:TypeId}{sz:Nat}(hx:(opd env x).core=.sl es l)(he:elemP P t=e)(C:P.cellsOf e=sz)
 (ha:bndD (lo.map fun x=>(opd env x).core) 0=some a) (hb:bndD (hi.map fun x=>(opd env x).core) l=some b) (J:(opd env z).core.int? =some c) (hd:(es.drop (a.toNat*sz)).take ((b - a).toNat*sz)=es'):
 Ef P (.slice t x lo hi (some z)) env m nx ⟨slT P t=true/\hi.isSome=true/\0<=a/\a<=b/\b<=c/\c<=l,.sl es' (b - a).toNat,[],[],0⟩:=by
 refine⟨?_,rfl,rfl⟩;show sliceD P m t (opd env x).core (lo.map fun x=>(opd env x).core) (hi.map fun x=>(opd env x).core) (Option.map (fun x=>(opd env x).core) (some z))=_;rw[hx];simp only[sliceD,Option.map_some,ha,hb,J,he,C,hd,Option.isSome_map]
theorem YR{i:Nat}{es:List (Value×D)}{key:Value}{ok:Bool}{kt:TypeId}(hx:(opd env x).core=.mp i)(hm:m i=some (.map es))(hk:keyV (opd env y).core=some key)(ht:mkeyP P t=kt)(hg:gotD P t ok (lookD key es)=v):
 Ef P (.lookup t x y ok) env m nx ⟨mapT P t=true/\keyP P kt key=true/\es.all (fun e=>keyP P kt e.1)=true,v,[],[i],0⟩:=by
 refine⟨?_,rfl,rfl⟩;show lookupD P m t (opd env x).core (opd env y).core ok=_;simp only[lookupD,hk,hx,hm,ht,hg]
theorem Lr{es:List (Value×D)}{key:Value}{ok:Bool}{kt:TypeId}(hx:(opd env x).core=.im es)(hk:keyV (opd env y).core=some key)(ht:mkeyP P t=kt)(hg:gotD P t ok (lookD key es)=v):
 Ef P (.lookup t x y ok) env m nx ⟨mapT P t=true/\keyP P kt key=true/\es.all (fun e=>keyP P kt e.1)=true,v,[],[],0⟩:=by
 refine⟨?_,rfl,rfl⟩;show lookupD P m t (opd env x).core (opd env y).core ok=_;simp only[lookupD,hk,hx,ht,hg]
theorem aa6{i:Nat}{es:List (Value×D)}{key:Value}{z:Operand}{kt:TypeId}(hx:(opd env x).core=.mp i)(hm:m i=some (.map es))(hk:keyV (opd env y).core=some key)(C:(opd env z).core=v)(ht:mkeyP P t=kt):
 Ef P (.mapUpdate t x y z) env m nx ⟨mapT P t=true/\keyP P kt key=true/\es.all (fun e=>keyP P kt e.1)=true,.tup [],[(i,some (.map (putD key v es)))],[i],0⟩:=by
 refine⟨?_,rfl,rfl⟩;show mapPutD P m t (opd env x).core (opd env y).core (opd env z).core=_;simp only[mapPutD,hk,hx,hm,ht,C]
end
theorem eV{α:Type}{f:α->D}:∀ {l:List α} {k:Nat} {x:α},l[k]? =some x->(l.map f).drop k=f x::(l.drop (k+1)).map f
 |[],k,x,h=>by simp at h
 |a::l,0,x,h=>by simp at h;subst h;rfl
 |a::l,k+1,x,h=>by simpa using eV (f:=f) (l:=l) (k:=k) (by simpa using h)
theorem Ls{α:Type}{f:α->List D}{sz:Nat}(C:∀ x,(f x).length=sz):∀ {l:List α} {k:Nat} {x:α},l[k]? =some x->(l.flatMap f).drop (k*sz)=f x++(l.drop (k+1)).flatMap f
 |[],k,x,h=>by simp at h
 |a::l,0,x,h=>by simp at h;subst h;simp
 |a::l,k+1,x,h=>by
  have h1:(k+1)*sz=(f a).length+k*sz:=by rw[C];rw[Nat.add_mul];omega
  simp only[List.flatMap_cons,h1,List.drop_append,List.drop_succ_cons];rw[List.drop_of_length_le oG];have:(f a).length+k*sz - (f a).length=k*sz:=by omega
  rw[this];simpa using Ls C (l:=l) (k:=k) (by simpa using h)
theorem KT{α:Type}{f:α->List D}{sz:Nat}(C:∀ x,(f x).length=sz):∀ (l:List α),(l.flatMap f).length=l.length*sz
 |[]=>by simp
 |a::l=>by simp only[List.flatMap_cons,List.length_append,C,KT C l,List.length_cons,Nat.add_mul];omega
section
variable{P:Program}{env:Env}{m:Mem}{nx:Nat}{t e:TypeId}{x y:Operand}{k:IntKind}
theorem Pd{α:Type}{f:α->D}{l:List α}{i n:Nat}{z:α}(hx:(opd env x).core=.sl (l.map f) n)(hy:(opd env y).core=.s (.int k i))(he:elemP P t=e)(C:P.cellsOf e=1)(J:l[i]? =some z):
 Ef P (.indexAddr t x y) env m nx ⟨slT P t=true/\0<=(i:Int)/\(i:Int)<n/\((i:Int).toNat+1)*1<=(l.map f).length,.pt (f z::(l.drop (i+1)).map f),[],[],0⟩:=
 HW hx hy he C (by rw[Int.toNat_natCast,Nat.mul_one];exact eV J)
theorem Pe{α:Type}{f:α->D}{l:List α}{i:Nat}{z:α}(ht:slT P t=true)(C:l[i]? =some z):slT P t=true/\0<=(i:Int)/\(i:Int)<l.length/\((i:Int).toNat+1)*1<=(l.map f).length:=by
 have:=(List.getElem?_eq_some_iff.1 C).1;exact⟨ht,by omega,by omega,by simp;omega⟩
theorem uD{α:Type}{f:α->List D}{sz:Nat}{l:List α}{i n:Nat}{z:α}(hx:(opd env x).core=.sl (l.flatMap f) n)(hy:(opd env y).core=.s (.int k i))(he:elemP P t=e)(C:P.cellsOf e=sz)(hl:∀ x,(f x).length=sz)(J:l[i]? =some z):
 Ef P (.indexAddr t x y) env m nx ⟨slT P t=true/\0<=(i:Int)/\(i:Int)<n/\((i:Int).toNat+1)*sz<=(l.flatMap f).length,.pt (f z++(l.drop (i+1)).flatMap f),[],[],0⟩:=
 HW hx hy he C (by rw[Int.toNat_natCast];exact Ls hl J)
theorem uE{α:Type}{f:α->List D}{sz:Nat}{l:List α}{i:Nat}{z:α}(ht:slT P t=true)(hl:∀ x,(f x).length=sz)(C:l[i]? =some z):slT P t=true/\0<=(i:Int)/\(i:Int)<l.length/\((i:Int).toNat+1)*sz<=(l.flatMap f).length:=by
 have:=(List.getElem?_eq_some_iff.1 C).1;refine⟨ht,by omega,by omega,?_⟩;rw[KT hl,Int.toNat_natCast];exact Nat.mul_le_mul_right _ this
theorem Pf{v:D}{cs:List D}(ht:tyOk P t=true)(hc:P.cellsOf t=1):tyOk P t=true/\P.cellsOf t<=(v::cs).length:=⟨ht,by rw[hc];simp⟩
theorem eY{v:D}{cs cs':List D}{off:Nat}(ht:tyOk P t=true)(hc:P.cellsOf t=1)(hd:cs.drop off=v::cs'):tyOk P t=true/\off+P.cellsOf t<=cs.length:=by
 refine⟨ht,?_⟩;have:(cs.drop off).length=cs'.length+1:=by rw[hd];rfl
 rw[List.length_drop] at this;omega
theorem kI{n:Nat}{cs:List D}(ht:tyOk P t=true)(hc:P.cellsOf t=n)(hl:n<=cs.length):tyOk P t=true/\P.cellsOf t<=cs.length:=⟨ht,by rw[hc];exact hl⟩
theorem cQ{n off:Nat}{cs:List D}(ht:tyOk P t=true)(hc:P.cellsOf t=n)(hl:off+n<=cs.length):tyOk P t=true/\off+P.cellsOf t<=cs.length:=⟨ht,by rw[hc];exact hl⟩
theorem m7{n:Nat}(hc:P.cellsOf t=n+1):0<P.cellsOf t:=by omega
theorem dy{n off:Nat}{cs vs:List D}(ht:tyOk P t=true)(hc:P.cellsOf t=n)(hv:vs.length=n/\off+n<=cs.length)(C:vs.all D.one=true):tyOk P t=true/\vs.length=P.cellsOf t/\off+P.cellsOf t<=cs.length/\vs.all D.one=true:=
 ⟨ht,by rw[hc];exact hv.1,by rw[hc];exact hv.2,C⟩
end
section
variable{P:Program}{K:D->St->Prop}{st:St}
theorem s3(h:K (.tup []) st):retQ P [] K .ret st:=h
theorem rX(h:K (.tup []) st):retQ P [] K .normal st:=h
theorem ax{t:Nat}{d:D}(hd:st.env t=d)(h:K d st):retQ P [.tmp t] K .ret st:=⟨trivial,by subst hd;exact h⟩
theorem yQ{t u:Nat}{d e:D}(hd:st.env t=d)(he:st.env u=e)(h:K (.tup [d,e]) st):retQ P [.tmp t,.tmp u] K .ret st:=⟨trivial,trivial,by subst hd;subst he;exact h⟩
theorem DP{t u w:Nat}{d e f:D}(hd:st.env t=d)(he:st.env u=e)(hf:st.env w=f)(h:K (.tup [d,e,f]) st):retQ P [.tmp t,.tmp u,.tmp w] K .ret st:=⟨trivial,trivial,trivial,by subst hd;subst he;subst hf;exact h⟩
theorem iV{a i off n:Nat}{ty e:TypeId}{cs vs:List D}(ha:st.env a=.rp i off)(hm:st.mem i=some (.cells cs e))(hg:aggP P ty=true)(hc:P.cellsOf ty=n)(hv:(cs.drop off).take n=vs)(ht:tyOk P ty=true)(hl:off+n<=cs.length):
 ∃ p,resD P st (.cell a ty)=some (p,.agg vs)/\p:=⟨tyOk P ty=true/\off+n<=cs.length,by simp only[resD,ha,hm,takeV,hg,if_true,hc,hv],ht,hl⟩
theorem iz{a:Nat}{ty:TypeId}{d:D}(hr:∃ p,resD P st (.cell a ty)=some (p,d)/\p)(h:K d st):retQ P [.cell a ty] K .ret st:=by
 obtain⟨p,h1,h2⟩:=hr;simp only[retQ,retL,h1];exact⟨h2,h⟩
theorem WI{a t:Nat}{ty:TypeId}{d e:D}(hr:∃ p,resD P st (.cell a ty)=some (p,d)/\p)(he:st.env t=e)(h:K (.tup [d,e]) st):retQ P [.cell a ty,.tmp t] K .ret st:=by
 obtain⟨p,h1,h2⟩:=hr;simp only[retQ,retL,h1];exact⟨h2,trivial,by subst he;exact h⟩
end
section
variable{P:Program}{Y:YSpec}{rf:Bool}{Q:Exit->St->Prop}{st:St}
theorem ap{l:List (Nat×D)}{env:Env}{m:Mem}{nx:Nat}(h:iA l env):Ghost P ⟨env,m,nx⟩ ⟨ay l,m,nx⟩:=.forget env _ m nx (lY h)
def IG(P:Program):List (Nat×List D×TypeId)->Mem->Prop
 |[],_=>True
 |(i,cs,e)::fs,m=>m i=some (.cells cs e)/\IG P fs (fun j=>if j=i then none else(m j).map (Row.sub (fz0 i cs (P.cellsOf e))))
def qY(P:Program):List (Nat×List D×TypeId)->D->D
 |[],d=>d
 |(i,cs,e)::fs,d=>qY P fs (sub (fz0 i cs (P.cellsOf e)) d)
theorem Lu:∀ {fs:List (Nat×List D×TypeId)} {env:Env} {m:Mem} {nx:Nat},IG P fs m->∃ m',Ghost P ⟨env,m,nx⟩ ⟨fun t=>qY P fs (env t),m',nx⟩
 |[],env,m,nx,_=>⟨m,.refl _⟩
 |(i,cs,e)::fs,env,m,nx,⟨h1,h2⟩=>by
  obtain⟨m',h⟩:=Lu (env:=fun t=>sub (fz0 i cs (P.cellsOf e)) (env t)) (nx:=nx) h2;exact⟨m',(Ghost.freeze env m nx i cs e h1).trans h⟩
theorem bp{env:Env}{m:Mem}{nx:Nat}(fs:List (Nat×List D×TypeId))(hf:IG P fs m){l:List (Nat×D)}(hl:iA l fun t=>qY P fs (env t)):Ghost P ⟨env,m,nx⟩ ⟨ay l,fun _=>none,nx⟩:=by
 obtain⟨m',h⟩:=Lu (env:=env) (nx:=nx) hf;exact h.trans ((Ghost.forget _ _ _ _ (lY hl)).trans (Ghost.drop _ _ _ _ fun _=>.inr rfl))
def mn(gp id:Nat)(next:St->Prop)(Q:Exit->St->Prop):Exit->St->Prop
 | .normal,s=>next s
 | .exit i,s=>if i=gp then next s else if i=id then Q .normal s else Q (.exit i) s
 |e,s=>Q e s
def r9(P:Program){α:Type}(S:α->St)(J:α->Prop)(μ:α->Nat)(x:α)(s:St):Prop:=∃ C,Ghost P s (S C)/\J C/\μ C<μ x
theorem aH{α:Type}{S:α->St}{J:α->Prop}{μ:α->Nat}{x:α}{s:St}(C:α)(hg:Ghost P s (S C))(U:J C)(X:μ C<μ x):r9 P S J μ x s:=⟨C,hg,U,X⟩
theorem DC[dD Y]{b:Code}{α:Type}(S:α->St)(J:α->Prop)(μ:α->Nat)(C:α)(hg:Ghost P st (S C))(X:J C)(h:∀ x,J x->AW P Y rf b (seqQ (r9 P S J μ x) Q) (S x)){a:Code}(ha:∀ st,Q .normal st->Q .normal st):
 ∃ st',Ghost P st st'/\AW P Y rf (.loop b) Q st':=
 ⟨S C,hg,aad S J μ C rfl X fun x hx=>sX b (fun e st' hq=>by
  cases e with
  |normal=>
   obtain⟨U,h1,h2,h3⟩:=hq;exact⟨S U,U,h1,rfl,h2,h3⟩
  |_=>exact hq) (h x hx)⟩
variable{id gp t i1 i2 i3 i4:Nat}{rc ri:Array Oper}{body rest:Code}{α:Type}
theorem G6[dD Y]{ri:Array Oper}{next:St->Prop}{s:St}(h:AW P Y rf body (mn gp id (fun s=>AOps P Y ri false [] (fu next) ri.toList s []) Q) s):
 AW P Y rf (.seq (.block gp body) (.region i3 ri false)) (seqQ next (blockQ id Q)) s:=by
 refine sX body (fun e s h=>?_) h;have hr:∀ s,AOps P Y ri false [] (fu next) ri.toList s []->∃ s',Ghost P s s'/\AW P Y rf (.region i3 ri false) (seqQ next (blockQ id Q)) s':=fun s h=>⟨s,.refl s,rF (rf:=rf) (id:=i3) (AOps.kU h fun _ h=>h)⟩
 cases e with
 |normal=>exact hr s h
 |exit i=>
  simp only[mn] at h;simp only[blockQ];split at h
  .rename_i hi;rw[if_pos hi];exact hr s h
  .rename_i hi;rw[if_neg hi];simp only[seqQ,blockQ];exact h
 |_=>exact h
theorem dq[dD Y](S:α->St)(J:α->Prop)(μ:α->Nat)(C:α)(hg:Ghost P st (S C))(U:J C)
 (h:∀ x,J x->AOps P Y rc false [] (fu fun s=>∃ g,opd s.env (.tmp t)=.s (.bool g)/\(g=true->AW P Y rf body (mn gp id (fun s=>AOps P Y ri false [] (fu (r9 P S J μ x)) ri.toList s []) Q) s)/\(g=false->Q .normal s)) rc.toList (S x) []):
 ∃ st',Ghost P st st'/\AW P Y rf (.block id (.loop (.seq (.region i1 rc false) (.seq (.cond (.tmp t) .skip (.exit id)) (.seq (.block gp body) (.region i3 ri false)))))) Q st':=by
 refine DC (Q:=blockQ id Q) S J μ C hg U (fun x hx=>?_) (a:=.skip) fun _ h=>h;refine rF (rf:=rf) (id:=i1) (AOps.kU (h x hx) fun s X=>?_);obtain⟨g,h1,h2,h3⟩:=X;refine⟨s,.refl s,bC h1 (fun xB=>?_) fun xC=>?_⟩
 .exact cx (G6 (h2 xB))
 .refine qc ?_;simp only[seqQ,blockQ,if_true];exact h3 xC
theorem cq[dD Y](S:α->St)(J:α->Prop)(μ:α->Nat)(C:α)(hg:Ghost P st (S C))(U:J C)
 (h:∀ x,J x->AOps P Y rc false [] (fu fun s=>∃ g,opd s.env (.tmp t)=.s (.bool g)/\(g=true->AW P Y rf body (mn gp id (fun s=>AOps P Y ri false [] (fu (r9 P S J μ x)) ri.toList s []) Q) s)/\(g=false->Q .normal s)) rc.toList (S x) []):
 ∃ st',Ghost P st st'/\AW P Y rf (.block id (.loop (.seq (.seq (.region i1 rc false) (.cond (.tmp t) .skip (.exit id))) (.seq (.block gp body) (.region i3 ri false))))) Q st':=by
 refine DC (Q:=blockQ id Q) S J μ C hg U (fun x hx=>?_) (a:=.skip) fun _ h=>h;refine aD (rF (rf:=rf) (id:=i1) (AOps.kU (h x hx) fun s X=>?_));obtain⟨g,h1,h2,h3⟩:=X;refine⟨s,.refl s,bC h1 (fun xB=>?_) fun xC=>?_⟩
 .exact cx (G6 (h2 xB))
 .refine qc ?_;simp only[seqQ,blockQ,if_true];exact h3 xC
theorem YY[dD Y]{next:St->Prop}{s:St}(h:AW P Y rf body (mn gp id next Q) s):AW P Y rf (.block gp body) (seqQ next (blockQ id Q)) s:=by
 refine sX body (fun e s h=>?_) h;cases e with
 |exit i=>
  simp only[mn] at h;simp only[blockQ];split at h
  .rename_i hi;rw[if_pos hi];exact h
  .rename_i hi;rw[if_neg hi];simp only[seqQ,blockQ];exact h
 |_=>exact h
theorem wl[dD Y](S:α->St)(J:α->Prop)(μ:α->Nat)(C:α)(hg:Ghost P st (S C))(U:J C)
 (h:∀ x,J x->AOps P Y rc false [] (fu fun s=>∃ g,opd s.env (.tmp t)=.s (.bool g)/\(g=true->AW P Y rf body (mn gp id (r9 P S J μ x) Q) s)/\(g=false->Q .normal s)) rc.toList (S x) []):
 ∃ st',Ghost P st st'/\AW P Y rf (.block id (.loop (.seq (.seq (.region i1 rc false) (.cond (.tmp t) .skip (.exit id))) (.block gp body)))) Q st':=by
 refine DC (Q:=blockQ id Q) S J μ C hg U (fun x hx=>?_) (a:=.skip) fun _ h=>h;refine aD (rF (rf:=rf) (id:=i1) (AOps.kU (h x hx) fun s X=>?_));obtain⟨g,h1,h2,h3⟩:=X;refine⟨s,.refl s,bC h1 (fun xB=>?_) fun xC=>?_⟩
 .exact cx (YY (h2 xB))
 .refine qc ?_;simp only[seqQ,blockQ,if_true];exact h3 xC
theorem b8{s:St}(h:Q .normal s):AW P Y rf .skip Q s:=h
theorem aU{s:St}(h:Q .ret s):AW P Y rf .ret Q s:=h
theorem b7{next:St->Prop}{s:St}(h:Q .ret s):mn gp id next Q .ret s:=h
theorem aQ{K:St->Prop}{s:St}(h:Q .ret s):seqQ K Q .ret s:=h
theorem bu{s:St}(h:Q .ret s):blockQ id Q .ret s:=h
theorem G7{s:St}(h:Q .ret s):scopeQ Q .ret s:=h
theorem wC{next:St->Prop}{s:St}(h:next s):mn gp id next Q (.exit gp) s:=by simp only[mn,if_true];exact h
theorem abW{i:Nat}{next:St->Prop}{s:St}(h2:i≠gp)(h1:i≠id)(h:Q (.exit i) s):mn gp id next Q (.exit i) s:=by simp only[mn,if_neg h2,if_neg h1];exact h
theorem lW[dD Y]{a:Code}(h:AW P Y rf a (blockQ id (seqQ (fun st=>AW P Y rf rest Q st) Q)) st):AW P Y rf (.seq (.block id a) rest) Q st:=Q9 (fun st=>AW P Y rf rest Q st) (nL h) fun _ h=>h
theorem lx{s:St}(h:AW P Y rf rest Q s):AW P Y rf .skip (blockQ id (seqQ (fun st=>AW P Y rf rest Q st) Q)) s:=h
theorem Ph[dD Y]{a:Code}(h:AW P Y rf a (seqQ (fun st=>AW P Y rf rest Q st) Q) st):AW P Y rf (.seq a rest) Q st:=Q9 _ h fun _ h=>h
theorem j9[dD Y]{r:Array Oper}{i:Nat}{J:St->Prop}(h:AOps P Y r false [] (fu J) r.toList st []):AW P Y rf (.region i r false) (seqQ J Q) st:=rF (rf:=rf) (id:=i) (AOps.kU h fun _ h=>h)
theorem mV[dD Y]{r:Array Oper}{i:Nat}{J:St->Prop}(h:AOps P Y r false [] (fu J) r.toList st []):AW P Y rf (.region i r false) (blockQ id (seqQ J Q)) st:=rF (rf:=rf) (id:=i) (AOps.kU h fun _ h=>h)
theorem aZ{J:St->Prop}(h:J st):AW P Y rf .skip (seqQ J Q) st:=h
theorem Gz{J:St->Prop}(h:J st):AW P Y rf .skip (blockQ id (seqQ J Q)) st:=h
theorem bG[dD Y]{a:Code}(R:St->Prop)(h:∃ st',Ghost P st st'/\AW P Y rf a (seqQ R Q) st')(k:∀ s,R s->∃ s',Ghost P s s'/\AW P Y rf rest Q s'):∃ st',Ghost P st st'/\AW P Y rf (.seq a rest) Q st':=by
 obtain⟨st',hg,h⟩:=h;exact⟨st',hg,dB R h k⟩
end
def Real(d:D):Prop:=∃ F β w v,R F β w d v
theorem Real.sl{es:List D}{n:Nat}(h:Real (.sl es n)):n<=maxLen/\∀ d∈es,Real d:=by
 obtain⟨F,β,w,v,h⟩:=h;cases h with
 |sln=>simp[maxLen]
 |sl _ _ b o cap us hf hb ao pH eh hc C=>
  refine⟨Nat.le_trans pH eh,fun d hd=>?_⟩;obtain⟨k,hk⟩:=List.getElem?_of_mem hd;exact⟨F,β,w,_,C k d hk⟩
theorem Real.agg{cs:List D}(h:Real (.agg cs)):∀ d∈cs,Real d:=by
 obtain⟨F,β,w,v,h⟩:=h;obtain⟨vs,rfl,hl,C⟩:=h.agg_inv;intro d hd;obtain⟨k,hk⟩:=List.getElem?_of_mem hd;have:k<vs.length:=by rw[hl];exact(List.getElem?_eq_some_iff.1 hk).1
 exact⟨F,β,w,_,C k d vs[k] hk (by simp[this])⟩
theorem aae{F:Nat->Prop}{β:Pla}{w:World}{args:List D}{vs:Array Value}(h:Rs F β w args vs):∀ a∈args,Real a:=fun a ha=>by
 obtain⟨k,hk⟩:=List.getElem?_of_mem ha;have:k<vs.size:=by rw[h.1];exact(List.getElem?_eq_some_iff.1 hk).1
 exact⟨F,β,w,vs[k],h.2 k a _ hk (by simp[this])⟩
theorem lj{P:Program}{f:FuncId}{args:List D}{r:D}(he:enterOk P f=true)(ht:∀ a∈args,Tr a)(h:(∀ a∈args,Real a)->PCall P f args r):PCall P f args r:=
 ⟨he,ht,fun F w vs hF hR=>(h (aae hR)).2.2 F w vs hF hR⟩
section
variable{P:Program}{m:Mem}{rds:List Nat}
theorem cC{a:D}(h:Tr a):Sn P rds m a a:=fun _ _ _ _ _ hv=>h.Br hv
theorem H4{i off n:Nat}{cs es:List D}{e:TypeId}(hm:m i=some (.cells cs e))(hi:i∈rds)(J:(cs.drop off).take (n*P.cellsOf e)=es)(ht:∀ a∈es,Tr a):Sn P rds m (.rs i off n) (.sl es n):=fun F β w v hl hv=>by
 subst J;obtain⟨p,hp,hr,U⟩:=hl i hi _ hm;cases hv with
 |rsd _ _ _ _ h1 _=>rw[h1] at hp;cases hp;cases hr
 |rsn _ a h1=>
  rw[h1] at hp;cases hp;cases hr;simp only[List.drop_nil,List.take_nil];exact .sln a 0
 |rsz _ _ a b o len room sz h1=>
  simp only[Nat.zero_mul,List.take_zero];exact .sln a 0
 |rs _ _ _ cap b o len room sz h1 hn eh h2 h3=>
  rw[h1] at hp;cases hp
  have ao:b<w.heap.size:=by
   cases hr with
   |cells _ _ _ _ _ _ c hb _ _ _ _=>exact(Array.getElem?_eq_some_iff.1 hb).1
  obtain⟨C,hl,bS,_⟩:=hr.rd;obtain⟨us,X,u2⟩:=(C.drop off).take (n*P.cellsOf e);exact .sl _ n b (o+off) cap us (U b rfl) (fun k q hq=>by cases hq) ao hn eh X fun k d hk=>(ht d (List.mem_of_getElem? hk)).Br (u2 k d hk)
theorem ab1{i off:Nat}{cs es:List D}{e:TypeId}(hm:m i=some (.cells cs e))(hi:i∈rds)(J:cs.drop off=es)(ht:∀ a∈es,Tr a):Sn P rds m (.rp i off) (.pt es):=fun F β w v hl hv=>by
 subst J;obtain⟨p,hp,hr,U⟩:=hl i hi _ hm;cases hv with
 |rpd _ _ _ h1 _=>rw[h1] at hp;cases hp;cases hr
 |rp _ _ b o len room sz h1=>
  rw[h1] at hp;cases hp
  have ao:b<w.heap.size:=by
   cases hr with
   |cells _ _ _ _ _ _ c hb _ _ _ _=>exact(Array.getElem?_eq_some_iff.1 hb).1
  obtain⟨C,hl,bS,_⟩:=hr.rd;obtain⟨us,X,u2⟩:=C.drop off;exact .pt _ b (o+off) us (U b rfl) (fun k q hq=>by cases hq) ao X fun k d hk=>(ht d (List.mem_of_getElem? hk)).Br (u2 k d hk)
variable{Y:YSpec}{rf:Bool}{ops:Array Oper}{dr:Bool}{cf:List (Nat×Nat)}{Q:Exit->St->Prop}{rest:List Oper}{env:Env}{nx:Nat}{tr:Tra}{t:Nat}{op:Op}{ty:TypeId}{pos:String}{after:Array Edge}
 {pre:Prop} {v:D} {rd:List Nat}
theorem abb{j:Nat}{b:Bool}{u:Nat}{row:Row}(hj:(ops[j]?).bind (·.dst)=some u)(hg:guardC (env u) b=some true)(he:Ef P op env m nx ⟨pre,v,[(nx,some row)],rd,1⟩)(ha:gG env op.operands.toList)(hp:pre)
 (K:AOps P Y ops dr cf Q rest ⟨up env t v,up m nx (some row),nx+1⟩ (tr++[(rd,[nx])])):AOps P Y ops dr cf Q (⟨some t,op,ty,pos,after,some (j,b)⟩::rest) ⟨env,m,nx⟩ tr:=
 ab2 hj hg he ha hp (fun h=>by cases h) K
theorem DR{j:Nat}{b:Bool}{u:Nat}{f:FuncId}{args args':List D}{r:D}{rds:List Nat}(h:PCall P f args' r)(C:r.scal=true)(hj:(ops[j]?).bind (·.dst)=some u)(hg:guardC (env u) b=some true)(hc:callD (rho env op) op=some (f,args))(J:Sns P rds m args args')(ha:gG env op.operands.toList)
 (K:AOps P Y ops dr cf Q rest ⟨up env t r,m,nx⟩ (tr++[(rds,[])])):AOps P Y ops dr cf Q (⟨some t,op,ty,pos,after,some (j,b)⟩::rest) ⟨env,m,nx⟩ tr:=
 Y1 hj hg hc ha (.inr (.inl ⟨args',rds,r,J,h,C,K⟩))
end
section
variable{P:Program}{Y:YSpec}{rf:Bool}{ops:Array Oper}{dr:Bool}{cf:List (Nat×Nat)}{Q:Exit->St->Prop}{rest:List Oper}{env:Env}{m:Mem}{nx:Nat}{tr:Tra}{t:Nat}{ty:TypeId}{pos:String}{after:Array Edge}
theorem XG{j:Nat}{b0 C:Bool}{u:Nat}(hj:(ops[j]?).bind (·.dst)=some u)(hg:guardC (env u) b0=some C){c a b:Operand}{x:Bool}(hc:(opd env c).core=.s (.bool true))(ha:(opd env a).core=.s (.bool x))
 (h0:C=true->(opd env c).ask) (h1:C=true->(opd env a).ask) (K:AOps P Y ops dr cf Q rest ⟨up env t (.opt C (.s (.bool x))),m,nx⟩ (tr++[([],[])])):
 AOps P Y ops dr cf Q (⟨some t,.pick c a b,ty,pos,after,some (j,b0)⟩::rest) ⟨env,m,nx⟩ tr:=by
 have he:=yC (P:=P) (env:=env) (m:=m) (nx:=nx) (a:=a) (b:=b) hc;simp only[ha,D.bool?,Option.getD_some,if_true] at he;simp only[AOps,AOp];rw[hj];simp only[Option.bind_some];rw[hg,he.nc,he.ny,he.ok];exact⟨fun hc=>⟨by simp only[asks];exact h0 hc,fun _=>⟨h1 hc,rfl⟩,fun h=>by cases h⟩,K⟩
theorem XH{j:Nat}{b0 C:Bool}{u:Nat}(hj:(ops[j]?).bind (·.dst)=some u)(hg:guardC (env u) b0=some C){c a b:Operand}{y:Bool}(hc:(opd env c).core=.s (.bool false))(hb:(opd env b).core=.s (.bool y))
 (h0:C=true->(opd env c).ask) (h1:C=true->(opd env b).ask) (K:AOps P Y ops dr cf Q rest ⟨up env t (.opt C (.s (.bool y))),m,nx⟩ (tr++[([],[])])):
 AOps P Y ops dr cf Q (⟨some t,.pick c a b,ty,pos,after,some (j,b0)⟩::rest) ⟨env,m,nx⟩ tr:=by
 have he:=yC (P:=P) (env:=env) (m:=m) (nx:=nx) (a:=a) (b:=b) hc;simp only[hb,D.bool?,Option.getD_some,Bool.false_eq_true,if_false] at he;simp only[AOps,AOp];rw[hj];simp only[Option.bind_some];rw[hg,he.nc,he.ny,he.ok];exact⟨fun hc=>⟨by simp only[asks];exact h0 hc,fun h=>oH,fun _=>⟨h1 hc,rfl⟩⟩,K⟩
variable{id:Nat}{st:St}
theorem Mx[dD Y]{i:Nat}{J:St->Prop}(hi:drawInfo ops=some cf)(h:AOps P Y ops true cf (fu J) ops.toList st []):AW P Y rf (.region i ops true) (blockQ id (seqQ J Q)) st:=Bb (rf:=rf) (id:=i) hi (AOps.kU h fun _ h=>h)
theorem Y2{r:Option Row}{i:Nat}(h:m i=r):∀ j,up (fun _=>none) i r j=m j\/up (fun _=>none) i r j=none:=fun j=>by
 by_cases hj:j=i
 .subst hj;left;rw[up_same,h]
 .right;rw[up_ne _ _ hj]
theorem iZ[dD Y]{i gp:Nat}{next:St->Prop}(hi:drawInfo ops=some cf)(h:AOps P Y ops true cf (fu next) ops.toList st []):AW P Y rf (.region i ops true) (mn gp id next Q) st:=Bb (rf:=rf) (id:=i) hi (AOps.kU h fun _ h=>h)
theorem dJ[dD Y]{i gp:Nat}{next:St->Prop}(h:AOps P Y ops false [] (fu next) ops.toList st []):AW P Y rf (.region i ops false) (mn gp id next Q) st:=rF (rf:=rf) (id:=i) (AOps.kU h fun _ h=>h)
def a9:List (Nat×Row)->Mem
 |[],_=>none
 |(i,r)::l,j=>if j=i then some r else a9 l j
def Bc:List (Nat×Row)->Mem->Prop
 |[],_=>True
 |(i,r)::l,m=>m i=some r/\Bc l m
theorem DD:∀ {l:List (Nat×Row)} {m:Mem},Bc l m->∀ i,a9 l i=m i\/a9 l i=none
 |[],_,_,_=>.inr rfl
 |(k,r)::l,m,h,i=>by
  simp only[a9];by_cases hi:i=k
  .subst hi;rw[if_pos rfl];exact .inl h.1.symm
  .rw[if_neg hi];exact DD h.2 i
theorem aK{l:List (Nat×D)}{ml:List (Nat×Row)}{m:Mem}{nx:Nat}(h:iA l env)(hm:Bc ml m):Ghost P ⟨env,m,nx⟩ ⟨ay l,a9 ml,nx⟩:=(Ghost.forget env _ m nx (lY h)).trans (.drop _ _ _ _ (DD hm))
end
section
variable{P:Program}
theorem OCall.ab0{f:FuncId}{args es:List D}{n:Nat}{t:TypeId}(h:OCall P f args es n t)(U:∀ d∈es,d.scal=true)(ht:Tr (.sl (es.take (n*P.cellsOf t)) n)):PCall P f args (.sl (es.take (n*P.cellsOf t)) n):=by
 refine⟨h.1,h.2.1,fun F w vs hF hR=>(h.2.2 F w vs hF hR).mono ?_⟩;rintro e w' ⟨v,p,h1,h2,h3,h4,h5,C⟩;refine⟨v,h1,?_,C⟩
 have b0:∀ {i q},up noRows 0 (some p) i=some q->i=0/\q=p:=fun {i q} hi=>by
  by_cases e:i=0
  .subst e;rw[up_same] at hi;cases hi;exact⟨rfl,rfl⟩
  .rw[up_ne _ _ e] at hi;cases hi
 have hm:MSim P F (up (fun _=>none) 0 (some (.cells es t))) (up noRows 0 (some p)) w':=by
  refine⟨fun i r hi=>?_,fun i j q X b hq J _ _=>(b0 hq).1.trans (b0 J).1.symm,fun i q b hq e=>?_,fun i q b hq e=>?_,fun b hb=>Nat.lt_of_lt_of_le (hF b hb) C.1⟩
  .by_cases e:i=0
   .subst e;rw[up_same] at hi;cases hi;exact⟨p,up_same _ _ _,Dm ⟨es,t,rfl,U⟩ h4⟩
   .rw[up_ne _ _ e] at hi;cases hi
  .rw[(b0 hq).2] at e;exact(h3 b e).2
  .rw[(b0 hq).2] at e;intro hb;have:=hF b hb;have:=(h3 b e).1;omega
 have:=Mh hm (up_same _ _ _) rfl h5;have e:fz0 0 es (P.cellsOf t) (.rs 0 0 n)=.sl (es.take (n*P.cellsOf t)) n:=by simp[fz0]
 rw[e] at this;exact ht.Br this
end
theorem af{α:Type}{f:Nat->α}{k j:Nat}{v r:α}(h:j≠k)(hf:f j=r):up f k v j=r:=(up_ne f v h).trans hf
theorem lC{i off sz:Nat}{cs:List D}:sub (fz0 i cs sz) (.rp i off)=.pt (cs.drop off):=by simp[sub,sub1,fz0]
theorem y5{i off n sz:Nat}{cs:List D}:sub (fz0 i cs sz) (.rs i off n)=.sl ((cs.drop off).take (n*sz)) n:=by simp[sub,sub1,fz0]
theorem Dr{i j off sz:Nat}{cs:List D}(h:j≠i):sub (fz0 i cs sz) (.rp j off)=.rp j off:=by simp[sub,sub1,fz0,h]
theorem yx{i j off n sz:Nat}{cs:List D}(h:j≠i):sub (fz0 i cs sz) (.rs j off n)=.rs j off n:=by simp[sub,sub1,fz0,h]
theorem L2{α:Type}{f:α->List D}{sz:Nat}(C:∀ x,(f x).length=sz):∀ (l:List α) (k:Nat),(l.flatMap f).take (k*sz)=(l.take k).flatMap f
 |[],k=>by simp
 |x::l,0=>by simp
 |x::l,k+1=>by
  rw[List.flatMap_cons,List.take_succ_cons,List.flatMap_cons, <- L2 C l k,show(k+1)*sz=(f x).length+k*sz by rw[C x,Nat.add_mul];omega,List.take_length_add_append]
theorem Np{α:Type}{f:α->List D}{sz k:Nat}{l:List α}(C:∀ x,(f x).length=sz)(hk:k<=l.length):
 D.sl (((l.flatMap f).drop ((0:Int).toNat*sz)).take (((k:Int) - 0).toNat*sz)) ((k:Int) - 0).toNat=D.sl ((l.take k).flatMap f) (l.take k).length:=by
 have h1:((k:Int) - 0).toNat=k:=by omega
 have h2:(0:Int).toNat*sz=0:=by simp
 rw[h1,h2,List.drop_zero,L2 C,List.length_take,Nat.min_eq_left hk]
section
variable{P:Program}{env:Env}{m:Mem}{nx:Nat}{x y z:Operand}{t:TypeId}{v:D}
theorem Y8{i:Nat}{es:List (Value×D)}{key:Value}{kt:TypeId}(hx:(opd env x).core=.mp i)(hm:m i=some (.map es))(hk:keyV (opd env y).core=some key)(C:(opd env z).core=v)(ht:mkeyP P t=kt):
 Ef P (.insert t x y z) env m nx ⟨mapT P t=true/\keyP P kt key=true/\es.all (fun e=>keyP P kt e.1)=true,.tup [],[(i,some (.map (putD key v es)))],[i],0⟩:=by
 refine⟨?_,rfl,rfl⟩;show mapPutD P m t (opd env x).core (opd env y).core (opd env z).core=_;simp only[mapPutD,hk,hx,hm,ht,C]
variable{n n':Int}{k:IntKind}{c:Bool}{p:TypeId}{n0:Nat}
theorem Po(hx:(opd env x).core=.s (.int k n))(hy:(opd env y).core=.s (.int k n'))(hd:decide (n'<n)=c):Ef P (.binOp .gtr t x y p) env m nx ⟨k=k,.s (.bool c),[],[],0⟩:=by subst hd;exact HR hx hy
theorem Pn(hx:(opd env x).core=.s (.int k n))(hy:(opd env y).core=.s (.int k n'))(hd:decide (n<n')=c):Ef P (.binOp .lss t x y p) env m nx ⟨k=k,.s (.bool c),[],[],0⟩:=by subst hd;exact HP hx hy
theorem abf(hx:(opd env x).core=.s (.int k n))(hy:(opd env y).core=.s (.int k n'))(hd:decide (n<=n')=c):Ef P (.binOp .leq t x y p) env m nx ⟨k=k,.s (.bool c),[],[],0⟩:=by subst hd;exact HQ hx hy
theorem Hz(hx:(opd env x).core=.s (.int k n))(hy:(opd env y).core=.s (.int k n'))(hd:(n==n')=c):Ef P (.binOp .eql t x y p) env m nx ⟨k=k,.s (.bool c),[],[],0⟩:=by subst hd;exact HT hx hy
theorem Pp(hx:(opd env x).core=.s (.int k n))(hy:(opd env y).core=.s (.int k n'))(hd:(n !=n')=c):Ef P (.binOp .neq t x y p) env m nx ⟨k=k,.s (.bool c),[],[],0⟩:=by subst hd;exact HU hx hy
theorem abg(hx:(opd env x).core=.s (.int k n))(hy:(opd env y).core=.s (.int k n')){r:Int}(hd:k.wrap (n.tdiv n')=r):Ef P (.binOp .quo t x y p) env m nx ⟨k=k/\n'≠0,.s (.int k r),[],[],0⟩:=by subst hd;exact aa3 hx hy
theorem abh(hx:(opd env x).core=.s (.int k n))(hy:(opd env y).core=.s (.int k n')){r:Int}(hd:n.tmod n'=r):Ef P (.binOp .rem t x y p) env m nx ⟨k=k/\n'≠0,.s (.int k r),[],[],0⟩:=by subst hd;exact abO hx hy
theorem abe(hx:(opd env x).core=.s (.int k n))(hy:(opd env y).core=.s (.int k n'))(hd:decide (n'<=n)=c):Ef P (.binOp .geq t x y p) env m nx ⟨k=k,.s (.bool c),[],[],0⟩:=by subst hd;exact HS hx hy
theorem aal{j i l:Nat}{e:TypeId}{r:Row}(hx:(opd env x).core=.rp j 0)(hy:(opd env y).core=.s (.int k (i:Int)))(hm:m j=some r)(he:elemP P t=e)(C:P.cellsOf e=1)(hl:lenP P t=l):
 Ef P (.indexAddr t x y) env m nx ⟨arT P t=true/\i<l,.rp j i,[],[j],0⟩:=by
 have h:=aa4 (P:=P) (env:=env) (m:=m) (nx:=nx) (t:=t) hx hy hm he C hl;have h1:0+((i:Int)).toNat*1=i:=by simp
 have h2:(arT P t=true/\(0:Int)<=(i:Int)/\(i:Int)<l)=(arT P t=true/\i<l):=by
  apply propext;constructor
  .rintro⟨a,_,b⟩;exact⟨a,by omega⟩
  .rintro⟨a,b⟩;exact⟨a,by omega,by omega⟩
 rw[h1,h2] at h;exact h
theorem gC{l:List D}{n:Nat}(h:l.length=n):(l.drop 0).take n=l:=by rw[List.drop_zero,List.take_of_length_le oG]
theorem HE{l:List D}{n:Nat}(h:l.length=n):l.take n=l:=List.take_of_length_le oG
theorem G8{z l:List D}(C:z.length=20)(hl:l.length=20):splice z 0 l=l:=by
 unfold splice;split
 .simp at hl
 .rw[List.take_zero,List.nil_append,List.drop_eq_nil_of_le oG,List.append_nil]
theorem abx{es:List D}(hx:(opd env x).core=.sl es 0):Ef P (.binOp .eql t x (.const (.slice none 0 0)) p) env m nx ⟨slT P t=true,.ub,[],[],0⟩:=⟨by simp only[aop,rho,hx,nilD,if_true],rfl,rfl⟩
theorem aby{es:List D}{l:Nat}(hx:(opd env x).core=.sl es l)(hl:l≠0):Ef P (.binOp .eql t x (.const (.slice none 0 0)) p) env m nx ⟨slT P t=true,.s (.bool false),[],[],0⟩:=⟨by simp only[aop,rho,hx,nilD,if_neg hl],rfl,rfl⟩
theorem jO{i off n sz:Nat}{cs es:List D}{e:TypeId}(C:P.cellsOf e=sz)(h:(cs.drop off).take (n*sz)=es):qY P [(i,cs,e)] (.rs i off n)=.sl es n:=by subst C h;exact y5
theorem v9(h:env n0=.z):Ghost P ⟨env,m,nx⟩ ⟨ay [(n0,.sl [] 0)],fun _=>none,nx+1⟩:=by
 have h1:=Ghost.nilrow (P:=P) env m nx n0 0 h;have h2:=bp (P:=P) (env:=up env n0 (.rs nx 0 0)) (m:=up m nx (some (.cells [] 0))) (nx:=nx+1) [(nx,[],0)] ⟨up_same _ _ _,trivial⟩ (l:=[(n0,.sl [] 0)]) ⟨(congrArg _ (up_same _ _ _)).trans (jO (sz:=P.cellsOf 0) rfl oS),trivial⟩;exact h1.trans h2
theorem lL{rds:List Nat}:Sn P rds m .z (.sl [] 0):=fun F β w v _ hv=>by
 obtain⟨x,rfl⟩:=hv.z_inv;exact .sln x 0
theorem abv{rds:List Nat}{aS bs:List D}(h:Sns P rds m aS bs):Sn P rds m (.agg aS) (.agg bs):=fun F β w v hl hv=>by
 obtain⟨vs,rfl,hn,C⟩:=hv.agg_inv;obtain⟨h1,h2⟩:=sns_R hl h;refine .agg _ vs oG fun k d u hd J=>?_;have hk:k<aS.length:=by rw[h1];exact(List.getElem?_eq_some_iff.1 hd).1
 exact h2 k aS[k] d (by simp[hk]) hd u (C k aS[k] u (by simp[hk]) J)
theorem MA{l:List (Nat×D)}{m':Mem}(h:iA l env)(hm:∀ i,m' i=m i\/m' i=none):Ghost P ⟨env,m,nx⟩ ⟨ay l,m',nx⟩:=(Ghost.forget env _ m nx (lY h)).trans (.drop _ _ _ _ hm)
def Jo:List (Nat×List (Value×D))->Mem->Prop
 |[],_=>True
 |(i,es)::fs,m=>m i=some (.map es)/\Jo fs (fun j=>if j=i then none else(m j).map (Row.sub (fm0 i es)))
def KE:List (Nat×List (Value×D))->D->D
 |[],d=>d
 |(i,es)::fs,d=>KE fs (sub (fm0 i es) d)
theorem L3:∀ {fs:List (Nat×List (Value×D))} {env:Env} {m:Mem} {nx:Nat},Jo fs m->∃ m',Ghost P ⟨env,m,nx⟩ ⟨fun t=>KE fs (env t),m',nx⟩
 |[],env,m,nx,_=>⟨m,.refl _⟩
 |(i,es)::fs,env,m,nx,⟨h1,h2⟩=>by
  obtain⟨m',h⟩:=L3 (env:=fun t=>sub (fm0 i es) (env t)) (nx:=nx) h2;exact⟨m',(Ghost.freezeM env m nx i es h1).trans h⟩
theorem Zu(fs:List (Nat×List (Value×D)))(hf:Jo fs m){l:List (Nat×D)}(hl:iA l fun t=>KE fs (env t)):Ghost P ⟨env,m,nx⟩ ⟨ay l,fun _=>none,nx⟩:=by
 obtain⟨m',h⟩:=L3 (P:=P) (env:=env) (nx:=nx) hf;exact h.trans ((Ghost.forget _ _ _ _ (lY hl)).trans (Ghost.drop _ _ _ _ fun _=>.inr rfl))
end
end Go.Abs
namespace Go.Proofs.Tryz.K
open Go.Abs
theorem c1:prog.cellsOf 1=1:=kr
theorem a1:aggP prog 1=false:=kr
theorem b1:prog.bytesOf 1=8:=kr
theorem c2:prog.cellsOf 2=1:=kr
theorem b2:prog.bytesOf 2=8:=kr
theorem a2:aggP prog 2=false:=kr
theorem c3:prog.cellsOf 3=1:=kr
theorem b3:prog.bytesOf 3=8:=kr
theorem a3:aggP prog 3=false:=kr
theorem c4:prog.cellsOf 4=1:=kr
theorem b4:prog.bytesOf 4=1:=kr
theorem a4:aggP prog 4=false:=kr
theorem c5:prog.cellsOf 5=1:=kr
theorem b5:prog.bytesOf 5=1:=kr
theorem a5:aggP prog 5=false:=kr
theorem b6:prog.bytesOf 6=1:=kr
theorem a6:aggP prog 6=false:=kr
theorem CF:elemP prog 15=275:=kr
theorem CG:elemP prog 16=278:=kr
theorem CE:elemP prog 17=287:=kr
theorem Vi:elemP prog 22=5:=kr
theorem TK:slT prog 22=true:=kr
theorem sK:prog.cellsOf 27=1:=kr
theorem E':prog.bytesOf 27=24:=kr
theorem CD:elemP prog 27=3:=kr
theorem BU:slT prog 27=true:=kr
theorem V5:prog.cellsOf 52=1:=kr
theorem CL:prog.bytesOf 52=24:=kr
theorem u9:prog.cellsOf 100=19:=kr
theorem I6:prog.bytesOf 100=152:=kr
theorem BO:aggP prog 100=true:=kr
theorem t100:tyOk prog 100=true:=kr
theorem UF:prog.cellsOf 104=2:=kr
theorem UE:aggP prog 104=true:=kr
theorem t104:tyOk prog 104=true:=kr
theorem Uf:prog.cellsOf 133=10:=kr
theorem Ue:aggP prog 133=true:=kr
theorem t133:tyOk prog 133=true:=kr
theorem kW:prog.cellsOf 158=2:=kr
theorem Uj:prog.bytesOf 158=32:=kr
theorem qU:aggP prog 158=true:=kr
theorem t158:tyOk prog 158=true:=kr
theorem Jf:aggP prog 205=true:=kr
theorem Jg:zeroP prog 205=[.s (.int .i64 0),.s (.int .i64 0),.s (.int .i64 0),.s (.int .i64 0),.s (.int .i64 0),.s (.int .i64 0)]:=kr
theorem qO:prog.cellsOf 231=20:=kr
theorem TF:prog.bytesOf 231=160:=kr
theorem tv:aggP prog 231=true:=kr
theorem t231:tyOk prog 231=true:=kr
theorem TE:zeroP prog 231=[.s (.int .u64 0),.s (.int .u64 0),.s (.int .u64 0),.s (.int .u64 0),.s (.int .u64 0),.s (.int .u64 0),.s (.int .u64 0),.s (.int .u64 0),.s (.int .u64 0),.s (.int .u64 0),.s (.int .u64 0),.s (.int .u64 0),.s (.int .u64 0),.s (.int .u64 0),.s (.int .u64 0),.s (.int .u64 0),.s (.int .u64 0),.s (.int .u64 0),.s (.int .u64 0),.s (.int .u64 0)]:=kr
theorem mixed:prog.follows .mixedOrders=true:=kr
noncomputable def bo(f:Func):Code:=(f.body).getD .skip
abbrev FO(n:FuncId)(f:Func)(c:Code):=pI prog n f c
theorem fo{n:FuncId}{f:Func}{c:Code}(h1:prog.funcs[n]? =some f:=by kernel_rfl)(h2:f.body=some c:=by kernel_rfl)(h3:jM f.ntmps c=true:=by kernel_rfl)(h4:enterOk prog n=true:=by kernel_rfl):FO n f c:=⟨h1,h2,h3,h4⟩
noncomputable def S9:=bo Tryz.f3
theorem ok3:FO 3 Tryz.f3 S9:=fo
noncomputable def te:=bo Tryz.f4
theorem V6:FO 4 Tryz.f4 te:=fo
theorem rs4: Tryz.f4.results.toList=[.tmp 2]:=kr
theorem nt4: Tryz.f4.ntmps=41:=kr
noncomputable def S':=bo Tryz.f5
theorem ok5:FO 5 Tryz.f5 S':=fo
noncomputable def Ta:=bo Tryz.f6
theorem ok6:FO 6 Tryz.f6 Ta:=fo
noncomputable def Tb:=bo Tryz.f7
theorem ok7:FO 7 Tryz.f7 Tb:=fo
noncomputable def Tc:=bo Tryz.f8
theorem ok8:FO 8 Tryz.f8 Tc:=fo
noncomputable def Td:=bo Tryz.f9
theorem ok9:FO 9 Tryz.f9 Td:=fo
noncomputable def PF:=bo Tryz.f10
theorem alp:FO 10 Tryz.f10 PF:=fo
noncomputable def PG:=bo Tryz.f11
theorem alq:FO 11 Tryz.f11 PG:=fo
noncomputable def PH:=bo Tryz.f12
theorem alr:FO 12 Tryz.f12 PH:=fo
noncomputable def PI:=bo Tryz.f13
theorem als:FO 13 Tryz.f13 PI:=fo
noncomputable def PJ:=bo Tryz.f14
theorem alu:FO 14 Tryz.f14 PJ:=fo
noncomputable def gR:=bo Tryz.f15
theorem T5:FO 15 Tryz.f15 gR:=fo
theorem akg: Tryz.f15.results.toList=[.tmp 2]:=kr
theorem akf: Tryz.f15.ntmps=133:=kr
noncomputable def PK:=bo Tryz.f16
theorem alv:FO 16 Tryz.f16 PK:=fo
noncomputable def PL:=bo Tryz.f17
theorem alw:FO 17 Tryz.f17 PL:=fo
noncomputable def PM:=bo Tryz.f18
theorem alx:FO 18 Tryz.f18 PM:=fo
noncomputable def PN:=bo Tryz.f19
theorem aly:FO 19 Tryz.f19 PN:=fo
noncomputable def PO:=bo Tryz.f20
theorem alz:FO 20 Tryz.f20 PO:=fo
noncomputable def PQ:=bo Tryz.f21
theorem alA:FO 21 Tryz.f21 PQ:=fo
noncomputable def Bm:=bo Tryz.f22
theorem Ut:FO 22 Tryz.f22 Bm:=fo
theorem akS: Tryz.f22.results.toList=[.tmp 4]:=kr
theorem akR: Tryz.f22.ntmps=8:=kr
noncomputable def me:=bo Tryz.f23
theorem Jb:FO 23 Tryz.f23 me:=fo
theorem T3: Tryz.f23.results.toList=[.tmp 2,.tmp 3,.tmp 4]:=kr
theorem T2: Tryz.f23.ntmps=52:=kr
noncomputable def mf:=bo Tryz.f24
theorem UG:FO 24 Tryz.f24 mf:=fo
theorem alm: Tryz.f24.results.toList=[.tmp 2,.tmp 3,.tmp 4]:=kr
theorem alk: Tryz.f24.ntmps=44:=kr
noncomputable def nR:=bo Tryz.f25
theorem Jk:FO 25 Tryz.f25 nR:=fo
theorem akV: Tryz.f25.results.toList=[.tmp 4]:=kr
theorem akU: Tryz.f25.ntmps=27:=kr
noncomputable def PR:=bo Tryz.f26
theorem alB:FO 26 Tryz.f26 PR:=fo
noncomputable def PS:=bo Tryz.f27
theorem alC:FO 27 Tryz.f27 PS:=fo
noncomputable def PT:=bo Tryz.f28
theorem alD:FO 28 Tryz.f28 PT:=fo
noncomputable def PU:=bo Tryz.f29
theorem alE:FO 29 Tryz.f29 PU:=fo
noncomputable def PV:=bo Tryz.f30
theorem alF:FO 30 Tryz.f30 PV:=fo
noncomputable def PW:=bo Tryz.f31
theorem alG:FO 31 Tryz.f31 PW:=fo
noncomputable def PX:=bo Tryz.f32
theorem alH:FO 32 Tryz.f32 PX:=fo
noncomputable def PY:=bo Tryz.f33
theorem alI:FO 33 Tryz.f33 PY:=fo
noncomputable def PZ:=bo Tryz.f34
theorem alJ:FO 34 Tryz.f34 PZ:=fo
noncomputable def P':=bo Tryz.f35
theorem alK:FO 35 Tryz.f35 P':=fo
noncomputable def Qa:=bo Tryz.f36
theorem alL:FO 36 Tryz.f36 Qa:=fo
noncomputable def Qb:=bo Tryz.f37
theorem alM:FO 37 Tryz.f37 Qb:=fo
noncomputable def Qc:=bo Tryz.f38
theorem alN:FO 38 Tryz.f38 Qc:=fo
noncomputable def cV:=bo Tryz.f39
theorem Ub:FO 39 Tryz.f39 cV:=fo
theorem akm: Tryz.f39.results.toList=[.tmp 2,.tmp 3]:=kr
theorem akl: Tryz.f39.ntmps=100:=kr
noncomputable def Qd:=bo Tryz.f40
theorem alO:FO 40 Tryz.f40 Qd:=fo
noncomputable def Qe:=bo Tryz.f41
theorem alP:FO 41 Tryz.f41 Qe:=fo
noncomputable def Qf:=bo Tryz.f42
theorem alQ:FO 42 Tryz.f42 Qf:=fo
noncomputable def Qg:=bo Tryz.f43
theorem alR:FO 43 Tryz.f43 Qg:=fo
noncomputable def Qh:=bo Tryz.f44
theorem alS:FO 44 Tryz.f44 Qh:=fo
noncomputable def Qi:=bo Tryz.f45
theorem alT:FO 45 Tryz.f45 Qi:=fo
noncomputable def Qj:=bo Tryz.f46
theorem alU:FO 46 Tryz.f46 Qj:=fo
noncomputable def Qk:=bo Tryz.f47
theorem alV:FO 47 Tryz.f47 Qk:=fo
noncomputable def Ql:=bo Tryz.f48
theorem alW:FO 48 Tryz.f48 Ql:=fo
noncomputable def Qm:=bo Tryz.f49
theorem alX:FO 49 Tryz.f49 Qm:=fo
noncomputable def Qn:=bo Tryz.f50
theorem alY:FO 50 Tryz.f50 Qn:=fo
noncomputable def fO:=bo Tryz.f51
theorem I5:FO 51 Tryz.f51 fO:=fo
theorem TW: Tryz.f51.results.toList=[.tmp 2,.tmp 3]:=kr
theorem TV: Tryz.f51.ntmps=84:=kr
noncomputable def Qo:=bo Tryz.f52
theorem alZ:FO 52 Tryz.f52 Qo:=fo
noncomputable def Qp:=bo Tryz.f53
theorem al0:FO 53 Tryz.f53 Qp:=fo
noncomputable def Qq:=bo Tryz.f54
theorem al1:FO 54 Tryz.f54 Qq:=fo
noncomputable def dz:=bo Tryz.f55
theorem Un:FO 55 Tryz.f55 dz:=fo
theorem akE: Tryz.f55.results.toList=[.tmp 2]:=kr
theorem akD: Tryz.f55.ntmps=147:=kr
noncomputable def mg:=bo Tryz.f56
theorem Ui:FO 56 Tryz.f56 mg:=fo
theorem aky: Tryz.f56.results.toList=[.tmp 2]:=kr
theorem akx: Tryz.f56.ntmps=44:=kr
noncomputable def Qr:=bo Tryz.f57
theorem al2:FO 57 Tryz.f57 Qr:=fo
noncomputable def Qs:=bo Tryz.f58
theorem al3:FO 58 Tryz.f58 Qs:=fo
noncomputable def r6:=bo Tryz.f59
theorem Jl:FO 59 Tryz.f59 r6:=fo
theorem akZ: Tryz.f59.results.toList=[.tmp 4]:=kr
theorem akY: Tryz.f59.ntmps=18:=kr
noncomputable def Qt:=bo Tryz.f60
theorem al4:FO 60 Tryz.f60 Qt:=fo
noncomputable def uH:=bo Tryz.f61
theorem T7:FO 61 Tryz.f61 uH:=fo
theorem akj: Tryz.f61.results.toList=[]:=kr
theorem aki: Tryz.f61.ntmps=24:=kr
noncomputable def Qu:=bo Tryz.f62
theorem al5:FO 62 Tryz.f62 Qu:=fo
noncomputable def Qv:=bo Tryz.f63
theorem al6:FO 63 Tryz.f63 Qv:=fo
noncomputable def nS:=bo Tryz.f64
theorem Jj:FO 64 Tryz.f64 nS:=fo
theorem akP: Tryz.f64.results.toList=[.tmp 4]:=kr
theorem akO: Tryz.f64.ntmps=26:=kr
noncomputable def cG:=bo Tryz.f65
theorem TZ:FO 65 Tryz.f65 cG:=fo
theorem aj3: Tryz.f65.results.toList=[.tmp 2,.tmp 3]:=kr
theorem aj2: Tryz.f65.ntmps=148:=kr
noncomputable def pC:=bo Tryz.f66
theorem TP:FO 66 Tryz.f66 pC:=fo
theorem ajS: Tryz.f66.results.toList=[.tmp 4]:=kr
theorem ajR: Tryz.f66.ntmps=20:=kr
noncomputable def c9:=bo Tryz.f67
theorem UA:FO 67 Tryz.f67 c9:=fo
theorem alc: Tryz.f67.results.toList=[.cell 2 104]:=kr
theorem alb: Tryz.f67.ntmps=195:=kr
noncomputable def qz:=bo Tryz.f68
theorem Ux:FO 68 Tryz.f68 qz:=fo
theorem ak': Tryz.f68.results.toList=[.tmp 2]:=kr
theorem ak9: Tryz.f68.ntmps=20:=kr
noncomputable def Qw:=bo Tryz.f69
theorem al7:FO 69 Tryz.f69 Qw:=fo
noncomputable def Qx:=bo Tryz.f70
theorem al8:FO 70 Tryz.f70 Qx:=fo
noncomputable def Qy:=bo Tryz.f71
theorem al9:FO 71 Tryz.f71 Qy:=fo
noncomputable def Qz:=bo Tryz.f72
theorem al':FO 72 Tryz.f72 Qz:=fo
noncomputable def QA:=bo Tryz.f73
theorem ama:FO 73 Tryz.f73 QA:=fo
noncomputable def QB:=bo Tryz.f74
theorem amb:FO 74 Tryz.f74 QB:=fo
noncomputable def gS:=bo Tryz.f75
theorem Ur:FO 75 Tryz.f75 gS:=fo
theorem akL: Tryz.f75.results.toList=[.tmp 4]:=kr
theorem akK: Tryz.f75.ntmps=64:=kr
noncomputable def qA:=bo Tryz.f76
theorem Uh:FO 76 Tryz.f76 qA:=fo
theorem akv: Tryz.f76.results.toList=[.tmp 4]:=kr
theorem aku: Tryz.f76.ntmps=28:=kr
noncomputable def yV:=bo Tryz.f77
theorem Uv:FO 77 Tryz.f77 yV:=fo
theorem ak4: Tryz.f77.results.toList=[.tmp 8]:=kr
theorem ak3: Tryz.f77.ntmps=25:=kr
noncomputable def QC:=bo Tryz.f78
theorem amc:FO 78 Tryz.f78 QC:=fo
noncomputable def QD:=bo Tryz.f79
theorem amd:FO 79 Tryz.f79 QD:=fo
noncomputable def QE:=bo Tryz.f80
theorem ame:FO 80 Tryz.f80 QE:=fo
noncomputable def nT:=bo Tryz.f81
theorem Uw:FO 81 Tryz.f81 nT:=fo
theorem ak7: Tryz.f81.results.toList=[.tmp 10]:=kr
theorem ak6: Tryz.f81.ntmps=55:=kr
noncomputable def Bn:=bo Tryz.f82
theorem TO:FO 82 Tryz.f82 Bn:=fo
theorem ajO: Tryz.f82.results.toList=[.tmp 4]:=kr
theorem ajN: Tryz.f82.ntmps=14:=kr
noncomputable def QF:=bo Tryz.f83
theorem amf:FO 83 Tryz.f83 QF:=fo
noncomputable def uI:=bo Tryz.f84
theorem TS:FO 84 Tryz.f84 uI:=fo
theorem ajX: Tryz.f84.results.toList=[]:=kr
theorem ajW: Tryz.f84.ntmps=28:=kr
noncomputable def qB:=bo Tryz.f85
theorem TU:FO 85 Tryz.f85 qB:=fo
theorem aj0: Tryz.f85.results.toList=[.tmp 2]:=kr
theorem ajZ: Tryz.f85.ntmps=19:=kr
noncomputable def QG:=bo Tryz.f86
theorem amg:FO 86 Tryz.f86 QG:=fo
noncomputable def QH:=bo Tryz.f87
theorem amh:FO 87 Tryz.f87 QH:=fo
noncomputable def QI:=bo Tryz.f88
theorem ami:FO 88 Tryz.f88 QI:=fo
noncomputable def Bo:=bo Tryz.f89
theorem TC:FO 89 Tryz.f89 Bo:=fo
theorem ajq: Tryz.f89.results.toList=[]:=kr
theorem ajp: Tryz.f89.ntmps=11:=kr
noncomputable def hP:=bo Tryz.f90
theorem zk:FO 90 Tryz.f90 hP:=fo
theorem ajt: Tryz.f90.results.toList=[.tmp 2]:=kr
theorem ajs: Tryz.f90.ntmps=61:=kr
noncomputable def QJ:=bo Tryz.f91
theorem amj:FO 91 Tryz.f91 QJ:=fo
noncomputable def qC:=bo Tryz.f92
theorem Ug:FO 92 Tryz.f92 qC:=fo
theorem aks: Tryz.f92.results.toList=[.tmp 4]:=kr
theorem akr: Tryz.f92.ntmps=47:=kr
noncomputable def QK:=bo Tryz.f93
theorem amk:FO 93 Tryz.f93 QK:=fo
noncomputable def QL:=bo Tryz.f94
theorem aml:FO 94 Tryz.f94 QL:=fo
noncomputable def s5:=bo Tryz.f95
theorem TM:FO 95 Tryz.f95 s5:=fo
theorem ajL: Tryz.f95.results.toList=[.tmp 2]:=kr
theorem ajK: Tryz.f95.ntmps=12:=kr
noncomputable def Bp:=bo Tryz.f96
theorem TH:FO 96 Tryz.f96 Bp:=fo
theorem ajC: Tryz.f96.results.toList=[.tmp 6]:=kr
theorem ajB: Tryz.f96.ntmps=15:=kr
noncomputable def mh:=bo Tryz.f97
theorem TG:FO 97 Tryz.f97 mh:=fo
theorem ajz: Tryz.f97.results.toList=[.tmp 2]:=kr
theorem ajy: Tryz.f97.ntmps=44:=kr
noncomputable def QM:=bo Tryz.f98
theorem amm:FO 98 Tryz.f98 QM:=fo
noncomputable def QN:=bo Tryz.f99
theorem amn:FO 99 Tryz.f99 QN:=fo
noncomputable def NG:=bo Tryz.f100
theorem ahp:FO 100 Tryz.f100 NG:=fo
noncomputable def NH:=bo Tryz.f101
theorem ahq:FO 101 Tryz.f101 NH:=fo
noncomputable def NI:=bo Tryz.f102
theorem ahr:FO 102 Tryz.f102 NI:=fo
noncomputable def NK:=bo Tryz.f103
theorem ahs:FO 103 Tryz.f103 NK:=fo
noncomputable def NL:=bo Tryz.f104
theorem aht:FO 104 Tryz.f104 NL:=fo
noncomputable def ux:=bo Tryz.f105
theorem SZ:FO 105 Tryz.f105 ux:=fo
theorem ag8: Tryz.f105.results.toList=[.tmp 2]:=kr
theorem ag7: Tryz.f105.ntmps=8:=kr
noncomputable def NM:=bo Tryz.f106
theorem ahu:FO 106 Tryz.f106 NM:=fo
noncomputable def NN:=bo Tryz.f107
theorem ahv:FO 107 Tryz.f107 NN:=fo
noncomputable def NO:=bo Tryz.f108
theorem ahw:FO 108 Tryz.f108 NO:=fo
noncomputable def NP:=bo Tryz.f109
theorem ahx:FO 109 Tryz.f109 NP:=fo
noncomputable def qi:=bo Tryz.f110
theorem Ig:FO 110 Tryz.f110 qi:=fo
theorem aed: Tryz.f110.results.toList=[.tmp 4]:=kr
theorem aec: Tryz.f110.ntmps=19:=kr
noncomputable def NQ:=bo Tryz.f111
theorem ahy:FO 111 Tryz.f111 NQ:=fo
noncomputable def NR:=bo Tryz.f112
theorem ahz:FO 112 Tryz.f112 NR:=fo
noncomputable def NS:=bo Tryz.f113
theorem ahA:FO 113 Tryz.f113 NS:=fo
noncomputable def NT:=bo Tryz.f114
theorem ahB:FO 114 Tryz.f114 NT:=fo
noncomputable def kK:=bo Tryz.f115
theorem RV:FO 115 Tryz.f115 kK:=fo
theorem aea: Tryz.f115.results.toList=[.tmp 2]:=kr
theorem ad': Tryz.f115.ntmps=54:=kr
noncomputable def qj:=bo Tryz.f116
theorem R6:FO 116 Tryz.f116 qj:=fo
theorem aeT: Tryz.f116.results.toList=[.tmp 4]:=kr
theorem aeS: Tryz.f116.ntmps=21:=kr
noncomputable def NU:=bo Tryz.f117
theorem ahC:FO 117 Tryz.f117 NU:=fo
noncomputable def NV:=bo Tryz.f118
theorem ahD:FO 118 Tryz.f118 NV:=fo
noncomputable def AE:=bo Tryz.f119
theorem Ri:FO 119 Tryz.f119 AE:=fo
theorem acw: Tryz.f119.results.toList=[.tmp 4]:=kr
theorem acv: Tryz.f119.ntmps=9:=kr
noncomputable def de:=bo Tryz.f120
theorem SL:FO 120 Tryz.f120 de:=fo
theorem agE: Tryz.f120.results.toList=[.tmp 2]:=kr
theorem agD: Tryz.f120.ntmps=130:=kr
noncomputable def df:=bo Tryz.f121
theorem SV:FO 121 Tryz.f121 df:=fo
theorem agV: Tryz.f121.results.toList=[.tmp 2]:=kr
theorem agU: Tryz.f121.ntmps=133:=kr
noncomputable def qk:=bo Tryz.f122
theorem Ip:FO 122 Tryz.f122 qk:=fo
theorem af3: Tryz.f122.results.toList=[.tmp 4]:=kr
theorem af2: Tryz.f122.ntmps=21:=kr
noncomputable def dV:=bo Tryz.f123
theorem SC:FO 123 Tryz.f123 dV:=fo
theorem age: Tryz.f123.results.toList=[.tmp 2]:=kr
theorem agd: Tryz.f123.ntmps=53:=kr
noncomputable def rQ:=bo Tryz.f124
theorem Sz:FO 124 Tryz.f124 rQ:=fo
theorem af6: Tryz.f124.results.toList=[.cell 4 158]:=kr
theorem af5: Tryz.f124.ntmps=21:=kr
noncomputable def eZ:=bo Tryz.f125
theorem SA:FO 125 Tryz.f125 eZ:=fo
theorem af9: Tryz.f125.results.toList=[.tmp 2]:=kr
theorem af8: Tryz.f125.ntmps=30:=kr
noncomputable def l6:=bo Tryz.f126
theorem SU:FO 126 Tryz.f126 l6:=fo
theorem agS: Tryz.f126.results.toList=[.cell 8 158]:=kr
theorem agR: Tryz.f126.ntmps=58:=kr
noncomputable def mX:=bo Tryz.f127
theorem SR:FO 127 Tryz.f127 mX:=fo
theorem agP: Tryz.f127.results.toList=[.cell 6 158]:=kr
theorem agO: Tryz.f127.ntmps=46:=kr
noncomputable def jJ:=bo Tryz.f128
theorem SD:FO 128 Tryz.f128 jJ:=fo
theorem agi: Tryz.f128.results.toList=[.tmp 2]:=kr
theorem agh: Tryz.f128.ntmps=32:=kr
noncomputable def NW:=bo Tryz.f129
theorem ahE:FO 129 Tryz.f129 NW:=fo
noncomputable def ql:=bo Tryz.f130
theorem H9:FO 130 Tryz.f130 ql:=fo
theorem acs: Tryz.f130.results.toList=[.tmp 4]:=kr
theorem acr: Tryz.f130.ntmps=19:=kr
noncomputable def NX:=bo Tryz.f131
theorem ahF:FO 131 Tryz.f131 NX:=fo
noncomputable def pu:=bo Tryz.f132
theorem R0:FO 132 Tryz.f132 pu:=fo
theorem aes: Tryz.f132.results.toList=[.tmp 6]:=kr
theorem aer: Tryz.f132.ntmps=38:=kr
noncomputable def wv:=bo Tryz.f133
theorem RS:FO 133 Tryz.f133 wv:=fo
theorem ad2: Tryz.f133.results.toList=[.cell 4 100]:=kr
theorem ad1: Tryz.f133.ntmps=15:=kr
noncomputable def qm:=bo Tryz.f134
theorem RU:FO 134 Tryz.f134 qm:=fo
theorem ad8: Tryz.f134.results.toList=[.cell 4 100]:=kr
theorem ad7: Tryz.f134.ntmps=19:=kr
noncomputable def uy:=bo Tryz.f135
theorem RT:FO 135 Tryz.f135 uy:=fo
theorem ad5: Tryz.f135.results.toList=[.cell 4 100]:=kr
theorem ad4: Tryz.f135.ntmps=17:=kr
noncomputable def ww:=bo Tryz.f136
theorem RZ:FO 136 Tryz.f136 ww:=fo
theorem aep: Tryz.f136.results.toList=[.tmp 4]:=kr
theorem aeo: Tryz.f136.ntmps=10:=kr
noncomputable def j8:=bo Tryz.f137
theorem S2:FO 137 Tryz.f137 j8:=fo
theorem ahe: Tryz.f137.results.toList=[.tmp 2]:=kr
theorem ahc: Tryz.f137.ntmps=31:=kr
noncomputable def AF:=bo Tryz.f138
theorem R1:FO 138 Tryz.f138 AF:=fo
theorem aev: Tryz.f138.results.toList=[.tmp 2]:=kr
theorem aeu: Tryz.f138.ntmps=4:=kr
noncomputable def eM:=bo Tryz.f139
theorem SX:FO 139 Tryz.f139 eM:=fo
theorem ag2: Tryz.f139.results.toList=[.tmp 2]:=kr
theorem ag1: Tryz.f139.ntmps=33:=kr
noncomputable def dW:=bo Tryz.f140
theorem S0:FO 140 Tryz.f140 dW:=fo
theorem aha: Tryz.f140.results.toList=[.tmp 2]:=kr
theorem ag': Tryz.f140.ntmps=52:=kr
noncomputable def rP:=bo Tryz.f141
theorem RX:FO 141 Tryz.f141 rP:=fo
theorem aej: Tryz.f141.results.toList=[.tmp 4]:=kr
theorem aei: Tryz.f141.ntmps=26:=kr
noncomputable def NY:=bo Tryz.f142
theorem ahG:FO 142 Tryz.f142 NY:=fo
noncomputable def NZ:=bo Tryz.f143
theorem ahH:FO 143 Tryz.f143 NZ:=fo
noncomputable def N2:=bo Tryz.f144
theorem ahI:FO 144 Tryz.f144 N2:=fo
noncomputable def lu:=bo Tryz.f145
theorem Sy:FO 145 Tryz.f145 lu:=fo
theorem af0: Tryz.f145.results.toList=[.tmp 2]:=kr
theorem afZ: Tryz.f145.ntmps=56:=kr
noncomputable def nN:=bo Tryz.f146
theorem SB:FO 146 Tryz.f146 nN:=fo
theorem agb: Tryz.f146.results.toList=[.tmp 2]:=kr
theorem aga: Tryz.f146.ntmps=19:=kr
noncomputable def pv:=bo Tryz.f147
theorem S5:FO 147 Tryz.f147 pv:=fo
theorem ahk: Tryz.f147.results.toList=[.tmp 4]:=kr
theorem ahj: Tryz.f147.ntmps=42:=kr
noncomputable def uz:=bo Tryz.f148
theorem S4:FO 148 Tryz.f148 uz:=fo
theorem ahh: Tryz.f148.results.toList=[.tmp 4]:=kr
theorem ahg: Tryz.f148.ntmps=31:=kr
noncomputable def qn:=bo Tryz.f149
theorem R7:FO 149 Tryz.f149 qn:=fo
theorem aeW: Tryz.f149.results.toList=[]:=kr
theorem aeV: Tryz.f149.ntmps=36:=kr
noncomputable def N5:=bo Tryz.f150
theorem ahJ:FO 150 Tryz.f150 N5:=fo
noncomputable def dX:=bo Tryz.f151
theorem Ry:FO 151 Tryz.f151 dX:=fo
theorem ac9: Tryz.f151.results.toList=[]:=kr
theorem ac8: Tryz.f151.ntmps=134:=kr
noncomputable def N6:=bo Tryz.f152
theorem ahK:FO 152 Tryz.f152 N6:=fo
noncomputable def dg:=bo Tryz.f153
theorem RQ:FO 153 Tryz.f153 dg:=fo
theorem adZ: Tryz.f153.results.toList=[.tmp 2]:=kr
theorem adY: Tryz.f153.ntmps=190:=kr
noncomputable def eN:=bo Tryz.f154
theorem RP:FO 154 Tryz.f154 eN:=fo
theorem adV: Tryz.f154.results.toList=[.tmp 2]:=kr
theorem adU: Tryz.f154.ntmps=108:=kr
noncomputable def AG:=bo Tryz.f155
theorem RA:FO 155 Tryz.f155 AG:=fo
theorem adg: Tryz.f155.results.toList=[.tmp 2]:=kr
theorem adf: Tryz.f155.ntmps=6:=kr
noncomputable def AH:=bo Tryz.f156
theorem Rp:FO 156 Tryz.f156 AH:=fo
theorem acL: Tryz.f156.results.toList=[.tmp 2]:=kr
theorem acK: Tryz.f156.ntmps=4:=kr
noncomputable def N7:=bo Tryz.f157
theorem ahL:FO 157 Tryz.f157 N7:=fo
noncomputable def qo:=bo Tryz.f158
theorem H7:FO 158 Tryz.f158 qo:=fo
theorem aci: Tryz.f158.results.toList=[.tmp 4]:=kr
theorem ach: Tryz.f158.ntmps=19:=kr
noncomputable def N8:=bo Tryz.f159
theorem ahM:FO 159 Tryz.f159 N8:=fo
noncomputable def N9:=bo Tryz.f160
theorem ahN:FO 160 Tryz.f160 N9:=fo
noncomputable def Oa:=bo Tryz.f161
theorem ahO:FO 161 Tryz.f161 Oa:=fo
noncomputable def Oc:=bo Tryz.f162
theorem ahP:FO 162 Tryz.f162 Oc:=fo
noncomputable def Od:=bo Tryz.f163
theorem ahQ:FO 163 Tryz.f163 Od:=fo
noncomputable def Oe:=bo Tryz.f164
theorem ahR:FO 164 Tryz.f164 Oe:=fo
noncomputable def Of:=bo Tryz.f165
theorem ahS:FO 165 Tryz.f165 Of:=fo
noncomputable def wx:=bo Tryz.f166
theorem Sg:FO 166 Tryz.f166 wx:=fo
theorem afk: Tryz.f166.results.toList=[.tmp 0,.tmp 1]:=kr
theorem afj: Tryz.f166.ntmps=32:=kr
noncomputable def Og:=bo Tryz.f167
theorem ahT:FO 167 Tryz.f167 Og:=fo
noncomputable def rR:=bo Tryz.f168
theorem R3:FO 168 Tryz.f168 rR:=fo
theorem aeB: Tryz.f168.results.toList=[]:=kr
theorem aeA: Tryz.f168.ntmps=37:=kr
noncomputable def gP:=bo Tryz.f169
theorem SE:FO 169 Tryz.f169 gP:=fo
theorem agl: Tryz.f169.results.toList=[.tmp 2]:=kr
theorem agk: Tryz.f169.ntmps=147:=kr
noncomputable def AI:=bo Tryz.f170
theorem Sm:FO 170 Tryz.f170 AI:=fo
theorem afz: Tryz.f170.results.toList=[.tmp 4]:=kr
theorem afy: Tryz.f170.ntmps=12:=kr
noncomputable def cJ:=bo Tryz.f171
theorem Iq:FO 171 Tryz.f171 cJ:=fo
theorem agt: Tryz.f171.results.toList=[.tmp 6]:=kr
theorem ags: Tryz.f171.ntmps=286:=kr
noncomputable def fc:=bo Tryz.f172
theorem SK:FO 172 Tryz.f172 fc:=fo
theorem agB: Tryz.f172.results.toList=[.tmp 4]:=kr
theorem agA: Tryz.f172.ntmps=247:=kr
noncomputable def l7:=bo Tryz.f173
theorem SQ:FO 173 Tryz.f173 l7:=fo
theorem agM: Tryz.f173.results.toList=[.cell 4 158]:=kr
theorem agL: Tryz.f173.ntmps=42:=kr
noncomputable def pw:=bo Tryz.f174
theorem RY:FO 174 Tryz.f174 pw:=fo
theorem aem: Tryz.f174.results.toList=[.tmp 4]:=kr
theorem ael: Tryz.f174.ntmps=29:=kr
noncomputable def nO:=bo Tryz.f175
theorem SY:FO 175 Tryz.f175 nO:=fo
theorem ag5: Tryz.f175.results.toList=[.tmp 2]:=kr
theorem ag4: Tryz.f175.ntmps=19:=kr
noncomputable def wy:=bo Tryz.f176
theorem R2:FO 176 Tryz.f176 wy:=fo
theorem aey: Tryz.f176.results.toList=[]:=kr
theorem aex: Tryz.f176.ntmps=19:=kr
noncomputable def AJ:=bo Tryz.f177
theorem RW:FO 177 Tryz.f177 AJ:=fo
theorem aeg: Tryz.f177.results.toList=[.tmp 2]:=kr
theorem aef: Tryz.f177.ntmps=6:=kr
noncomputable def px:=bo Tryz.f178
theorem Rx:FO 178 Tryz.f178 px:=fo
theorem ac6: Tryz.f178.results.toList=[]:=kr
theorem ac5: Tryz.f178.ntmps=49:=kr
noncomputable def Oh:=bo Tryz.f179
theorem ahU:FO 179 Tryz.f179 Oh:=fo
noncomputable def Oi:=bo Tryz.f180
theorem ahV:FO 180 Tryz.f180 Oi:=fo
noncomputable def Oj:=bo Tryz.f181
theorem ahW:FO 181 Tryz.f181 Oj:=fo
noncomputable def Ol:=bo Tryz.f182
theorem ahX:FO 182 Tryz.f182 Ol:=fo
noncomputable def Om:=bo Tryz.f183
theorem ahY:FO 183 Tryz.f183 Om:=fo
noncomputable def AK:=bo Tryz.f184
theorem Rw:FO 184 Tryz.f184 AK:=fo
theorem ac3: Tryz.f184.results.toList=[.tmp 4]:=kr
theorem ac2: Tryz.f184.ntmps=17:=kr
noncomputable def On:=bo Tryz.f185
theorem ahZ:FO 185 Tryz.f185 On:=fo
noncomputable def Oo:=bo Tryz.f186
theorem ah0:FO 186 Tryz.f186 Oo:=fo
noncomputable def Oq:=bo Tryz.f187
theorem ah1:FO 187 Tryz.f187 Oq:=fo
noncomputable def Ot:=bo Tryz.f188
theorem ah2:FO 188 Tryz.f188 Ot:=fo
noncomputable def yH:=bo Tryz.f189
theorem Si:FO 189 Tryz.f189 yH:=fo
theorem afn: Tryz.f189.results.toList=[.cell 2 133]:=kr
theorem afm: Tryz.f189.ntmps=13:=kr
noncomputable def AM:=bo Tryz.f190
theorem RK:FO 190 Tryz.f190 AM:=fo
theorem adG: Tryz.f190.results.toList=[.tmp 2]:=kr
theorem adF: Tryz.f190.ntmps=12:=kr
noncomputable def AN:=bo Tryz.f191
theorem RO:FO 191 Tryz.f191 AN:=fo
theorem adS: Tryz.f191.results.toList=[.tmp 4]:=kr
theorem adR: Tryz.f191.ntmps=9:=kr
noncomputable def AO:=bo Tryz.f192
theorem Rg:FO 192 Tryz.f192 AO:=fo
theorem acf: Tryz.f192.results.toList=[.tmp 4]:=kr
theorem ace: Tryz.f192.ntmps=9:=kr
noncomputable def AP:=bo Tryz.f193
theorem RM:FO 193 Tryz.f193 AP:=fo
theorem adM: Tryz.f193.results.toList=[.tmp 2]:=kr
theorem adL: Tryz.f193.ntmps=6:=kr
noncomputable def AQ:=bo Tryz.f194
theorem RL:FO 194 Tryz.f194 AQ:=fo
theorem adJ: Tryz.f194.results.toList=[.tmp 2]:=kr
theorem adI: Tryz.f194.ntmps=12:=kr
noncomputable def dP:=bo Tryz.f195
theorem SP:FO 195 Tryz.f195 dP:=fo
theorem agH: Tryz.f195.results.toList=[.tmp 4]:=kr
theorem agG: Tryz.f195.ntmps=252:=kr
noncomputable def kL:=bo Tryz.f196
theorem Ss:FO 196 Tryz.f196 kL:=fo
theorem afR: Tryz.f196.results.toList=[.tmp 10]:=kr
theorem afQ: Tryz.f196.ntmps=156:=kr
noncomputable def dK:=bo Tryz.f197
theorem RG:FO 197 Tryz.f197 dK:=fo
theorem adx: Tryz.f197.results.toList=[.tmp 2,.tmp 3]:=kr
theorem adw: Tryz.f197.ntmps=122:=kr
noncomputable def gQ:=bo Tryz.f198
theorem RC:FO 198 Tryz.f198 gQ:=fo
theorem adm: Tryz.f198.results.toList=[.cell 4 231,.tmp 5]:=kr
theorem adl: Tryz.f198.ntmps=68:=kr
noncomputable def uA:=bo Tryz.f199
theorem RB:FO 199 Tryz.f199 uA:=fo
theorem adj: Tryz.f199.results.toList=[.cell 6 231]:=kr
theorem adi: Tryz.f199.ntmps=15:=kr
noncomputable def AR:=bo Tryz.f200
theorem Rj:FO 200 Tryz.f200 AR:=fo
theorem acz: Tryz.f200.results.toList=[.tmp 4]:=kr
theorem acy: Tryz.f200.ntmps=14:=kr
noncomputable def wz:=bo Tryz.f201
theorem Rz:FO 201 Tryz.f201 wz:=fo
theorem adb: Tryz.f201.results.toList=[.tmp 2]:=kr
theorem ada: Tryz.f201.ntmps=9:=kr
noncomputable def py:=bo Tryz.f202
theorem Rq:FO 202 Tryz.f202 py:=fo
theorem acO: Tryz.f202.results.toList=[]:=kr
theorem acN: Tryz.f202.ntmps=70:=kr
noncomputable def Ou:=bo Tryz.f203
theorem ah3:FO 203 Tryz.f203 Ou:=fo
noncomputable def Ov:=bo Tryz.f204
theorem ah4:FO 204 Tryz.f204 Ov:=fo
noncomputable def Ow:=bo Tryz.f205
theorem ah5:FO 205 Tryz.f205 Ow:=fo
noncomputable def Ox:=bo Tryz.f206
theorem ah6:FO 206 Tryz.f206 Ox:=fo
noncomputable def Oy:=bo Tryz.f207
theorem ah7:FO 207 Tryz.f207 Oy:=fo
noncomputable def Oz:=bo Tryz.f208
theorem ah8:FO 208 Tryz.f208 Oz:=fo
noncomputable def OA:=bo Tryz.f209
theorem ah9:FO 209 Tryz.f209 OA:=fo
noncomputable def OB:=bo Tryz.f210
theorem ah':FO 210 Tryz.f210 OB:=fo
noncomputable def rS:=bo Tryz.f211
theorem Sk:FO 211 Tryz.f211 rS:=fo
theorem aft: Tryz.f211.results.toList=[.tmp 2]:=kr
theorem afs: Tryz.f211.ntmps=23:=kr
noncomputable def AS:=bo Tryz.f212
theorem Sj:FO 212 Tryz.f212 AS:=fo
theorem afq: Tryz.f212.results.toList=[.tmp 6]:=kr
theorem afp: Tryz.f212.ntmps=15:=kr
noncomputable def rT:=bo Tryz.f213
theorem Sl:FO 213 Tryz.f213 rT:=fo
theorem afw: Tryz.f213.results.toList=[.tmp 2]:=kr
theorem afv: Tryz.f213.ntmps=35:=kr
noncomputable def jK:=bo Tryz.f214
theorem Sv:FO 214 Tryz.f214 jK:=fo
theorem afU: Tryz.f214.results.toList=[.tmp 4]:=kr
theorem afT: Tryz.f214.ntmps=54:=kr
noncomputable def l8:=bo Tryz.f215
theorem So:FO 215 Tryz.f215 l8:=fo
theorem afC: Tryz.f215.results.toList=[.tmp 6]:=kr
theorem afB: Tryz.f215.ntmps=43:=kr
noncomputable def yI:=bo Tryz.f216
theorem Sp:FO 216 Tryz.f216 yI:=fo
theorem afF: Tryz.f216.results.toList=[.tmp 6]:=kr
theorem afE: Tryz.f216.ntmps=30:=kr
noncomputable def pz:=bo Tryz.f217
theorem Il:FO 217 Tryz.f217 pz:=fo
theorem afI: Tryz.f217.results.toList=[.tmp 4]:=kr
theorem afH: Tryz.f217.ntmps=21:=kr
noncomputable def yJ:=bo Tryz.f218
theorem Sq:FO 218 Tryz.f218 yJ:=fo
theorem afL: Tryz.f218.results.toList=[.tmp 6]:=kr
theorem afK: Tryz.f218.ntmps=34:=kr
noncomputable def fp:=bo Tryz.f219
theorem Sx:FO 219 Tryz.f219 fp:=fo
theorem afX: Tryz.f219.results.toList=[.tmp 4]:=kr
theorem afW: Tryz.f219.ntmps=93:=kr
noncomputable def ja:=bo Tryz.f220
theorem SH:FO 220 Tryz.f220 ja:=fo
theorem agq: Tryz.f220.results.toList=[.tmp 4]:=kr
theorem agp: Tryz.f220.ntmps=115:=kr
noncomputable def jL:=bo Tryz.f221
theorem SI:FO 221 Tryz.f221 jL:=fo
theorem agx: Tryz.f221.results.toList=[.tmp 4]:=kr
theorem agw: Tryz.f221.ntmps=67:=kr
noncomputable def OC:=bo Tryz.f222
theorem aia:FO 222 Tryz.f222 OC:=fo
noncomputable def OD:=bo Tryz.f223
theorem aib:FO 223 Tryz.f223 OD:=fo
noncomputable def OE:=bo Tryz.f224
theorem aic:FO 224 Tryz.f224 OE:=fo
noncomputable def OF:=bo Tryz.f225
theorem aid:FO 225 Tryz.f225 OF:=fo
noncomputable def OG:=bo Tryz.f226
theorem aie:FO 226 Tryz.f226 OG:=fo
noncomputable def AT:=bo Tryz.f227
theorem Rv:FO 227 Tryz.f227 AT:=fo
theorem ac0: Tryz.f227.results.toList=[.tmp 2]:=kr
theorem acZ: Tryz.f227.ntmps=6:=kr
noncomputable def AU:=bo Tryz.f228
theorem Rf:FO 228 Tryz.f228 AU:=fo
theorem ab9: Tryz.f228.results.toList=[.tmp 4]:=kr
theorem ab8: Tryz.f228.ntmps=9:=kr
noncomputable def AV:=bo Tryz.f229
theorem RI:FO 229 Tryz.f229 AV:=fo
theorem adA: Tryz.f229.results.toList=[.tmp 2]:=kr
theorem adz: Tryz.f229.ntmps=9:=kr
noncomputable def AX:=bo Tryz.f230
theorem RN:FO 230 Tryz.f230 AX:=fo
theorem adP: Tryz.f230.results.toList=[.tmp 3]:=kr
theorem adO: Tryz.f230.ntmps=11:=kr
noncomputable def qp:=bo Tryz.f231
theorem H6:FO 231 Tryz.f231 qp:=fo
theorem acb: Tryz.f231.results.toList=[.tmp 4]:=kr
theorem aca: Tryz.f231.ntmps=19:=kr
noncomputable def AY:=bo Tryz.f232
theorem RJ:FO 232 Tryz.f232 AY:=fo
theorem adD: Tryz.f232.results.toList=[.tmp 2]:=kr
theorem adC: Tryz.f232.ntmps=17:=kr
noncomputable def AZ:=bo Tryz.f233
theorem Ih:FO 233 Tryz.f233 AZ:=fo
theorem aeE: Tryz.f233.results.toList=[.tmp 4]:=kr
theorem aeD: Tryz.f233.ntmps=12:=kr
noncomputable def wA:=bo Tryz.f234
theorem Ii:FO 234 Tryz.f234 wA:=fo
theorem aeH: Tryz.f234.results.toList=[.tmp 4]:=kr
theorem aeG: Tryz.f234.ntmps=19:=kr
noncomputable def mY:=bo Tryz.f235
theorem R9:FO 235 Tryz.f235 mY:=fo
theorem ae3: Tryz.f235.results.toList=[.tmp 6]:=kr
theorem ae2: Tryz.f235.ntmps=91:=kr
noncomputable def qq:=bo Tryz.f236
theorem Ik:FO 236 Tryz.f236 qq:=fo
theorem afh: Tryz.f236.results.toList=[.tmp 4]:=kr
theorem afg: Tryz.f236.ntmps=50:=kr
noncomputable def A0:=bo Tryz.f237
theorem R5:FO 237 Tryz.f237 A0:=fo
theorem aeN: Tryz.f237.results.toList=[.tmp 4]:=kr
theorem aeM: Tryz.f237.ntmps=9:=kr
noncomputable def A1:=bo Tryz.f238
theorem Se:FO 238 Tryz.f238 A1:=fo
theorem afb: Tryz.f238.results.toList=[.tmp 2]:=kr
theorem afa: Tryz.f238.ntmps=53:=kr
noncomputable def yK:=bo Tryz.f239
theorem Ij:FO 239 Tryz.f239 yK:=fo
theorem aeQ: Tryz.f239.results.toList=[.tmp 6]:=kr
theorem aeP: Tryz.f239.ntmps=26:=kr
noncomputable def yL:=bo Tryz.f240
theorem Sr:FO 240 Tryz.f240 yL:=fo
theorem afO: Tryz.f240.results.toList=[.tmp 4]:=kr
theorem afN: Tryz.f240.ntmps=10:=kr
noncomputable def OH:=bo Tryz.f241
theorem aif:FO 241 Tryz.f241 OH:=fo
noncomputable def uB:=bo Tryz.f242
theorem Rk:FO 242 Tryz.f242 uB:=fo
theorem acC: Tryz.f242.results.toList=[.cell 4 231]:=kr
theorem acB: Tryz.f242.ntmps=17:=kr
noncomputable def qt:=bo Tryz.f243
theorem Rm:FO 243 Tryz.f243 qt:=fo
theorem acF: Tryz.f243.results.toList=[.cell 4 231]:=kr
theorem acE: Tryz.f243.ntmps=19:=kr
noncomputable def A2:=bo Tryz.f244
theorem SW:FO 244 Tryz.f244 A2:=fo
theorem agZ: Tryz.f244.results.toList=[.tmp 2]:=kr
theorem agY: Tryz.f244.ntmps=5:=kr
noncomputable def sZ:=bo Tryz.f245
theorem Rn:FO 245 Tryz.f245 sZ:=fo
theorem acI: Tryz.f245.results.toList=[.cell 4 231]:=kr
theorem acH: Tryz.f245.ntmps=17:=kr
noncomputable def rU:=bo Tryz.f246
theorem Rr:FO 246 Tryz.f246 rU:=fo
theorem acR: Tryz.f246.results.toList=[.tmp 4]:=kr
theorem acQ: Tryz.f246.ntmps=23:=kr
noncomputable def A3:=bo Tryz.f247
theorem Ru:FO 247 Tryz.f247 A3:=fo
theorem acX: Tryz.f247.results.toList=[.tmp 2]:=kr
theorem acW: Tryz.f247.ntmps=5:=kr
noncomputable def OI:=bo Tryz.f248
theorem aih:FO 248 Tryz.f248 OI:=fo
noncomputable def OJ:=bo Tryz.f249
theorem aii:FO 249 Tryz.f249 OJ:=fo
noncomputable def OK:=bo Tryz.f250
theorem aij:FO 250 Tryz.f250 OK:=fo
noncomputable def OL:=bo Tryz.f251
theorem aik:FO 251 Tryz.f251 OL:=fo
noncomputable def qu:=bo Tryz.f252
theorem H5:FO 252 Tryz.f252 qu:=fo
theorem ab6: Tryz.f252.results.toList=[.tmp 4]:=kr
theorem ab5: Tryz.f252.ntmps=19:=kr
noncomputable def l9:=bo Tryz.f253
theorem R8:FO 253 Tryz.f253 l9:=fo
theorem ae0: Tryz.f253.results.toList=[.tmp 8]:=kr
theorem aeZ: Tryz.f253.ntmps=41:=kr
noncomputable def A4:=bo Tryz.f254
theorem Rh:FO 254 Tryz.f254 A4:=fo
theorem acp: Tryz.f254.results.toList=[.tmp 4]:=kr
theorem aco: Tryz.f254.ntmps=9:=kr
noncomputable def A5:=bo Tryz.f255
theorem Sf:FO 255 Tryz.f255 A5:=fo
theorem afe: Tryz.f255.results.toList=[.tmp 3]:=kr
theorem afd: Tryz.f255.ntmps=9:=kr
noncomputable def A6:=bo Tryz.f256
theorem R4:FO 256 Tryz.f256 A6:=fo
theorem aeK: Tryz.f256.results.toList=[.tmp 3]:=kr
theorem aeJ: Tryz.f256.ntmps=14:=kr
noncomputable def A7:=bo Tryz.f257
theorem Sd:FO 257 Tryz.f257 A7:=fo
theorem ae9: Tryz.f257.results.toList=[.tmp 2]:=kr
theorem ae8: Tryz.f257.ntmps=32:=kr
noncomputable def uC:=bo Tryz.f258
theorem Rt:FO 258 Tryz.f258 uC:=fo
theorem acU: Tryz.f258.results.toList=[.tmp 4]:=kr
theorem acT: Tryz.f258.ntmps=13:=kr
noncomputable def OM:=bo Tryz.f259
theorem ail:FO 259 Tryz.f259 OM:=fo
noncomputable def qv:=bo Tryz.f260
theorem H8:FO 260 Tryz.f260 qv:=fo
theorem acm: Tryz.f260.results.toList=[.tmp 4]:=kr
theorem ack: Tryz.f260.ntmps=19:=kr
def jf(P:Program)(t:TypeId):Array Field:=match P.underlying t with|some (.struct fs)=>fs|_=> #[]
theorem u8:prog.underlying 8=some (.struct (jf prog 8)):=kr
theorem Ia:mkeyP prog 127=3:=kr
theorem Ib:mapT prog 127=true:=kr
theorem Io:melP prog 131=205:=kr
theorem u2:prog.underlying 2=some (.int .i64):=kr
theorem u5:prog.underlying 5=some (.int .u8):=kr
end Go.Proofs.Tryz.K
namespace Go.Argus
open Go.Abs
abbrev I(n:Int):D:=.s (.int .i64 n)
abbrev U8(n:Int):D:=.s (.int .u8 n)
abbrev B(b:Bool):D:=.s (.bool b)
abbrev S(s:ByteArray):D:=.s (.string s)
abbrev az(l:List Int):D:=.sl (l.map I) l.length
abbrev jD(l:List Int):D:=.sl (l.map U8) l.length
abbrev pg(l:List ByteArray):D:=.sl (l.map S) l.length
structure aW where
 op:Int
 to:Int
 a:Int
 b:Int
 n:Int
 args:List Int
structure jn where
 name:ByteArray
 to:Int
structure End where
 kind:Int
 a:Int
 b:Int
 to:Int
 eL:Int
 name:ByteArray
 ins:aW
 args:List Int
 aE:List jn
 cm:Int
structure bt where
 ins:List aW
 fin:End
structure aA where
 name:ByteArray
 iter:Bool
 args:Int
 result:Int
 aj:List Int
 aP:List Int
 signals:List ByteArray
 blocks:List bt
def a8(x:aW):List D:=[U8 x.op,I x.to,I x.a,I x.b,I x.n,az x.args]
def kJ(w:jn):List D:=[S w.name,I w.to]
def nH(l:List jn):D:=.sl (l.flatMap kJ) l.length
def dt(l:List aW):D:=.sl (l.flatMap a8) l.length
def aT(x:End):List D:=[U8 x.kind,I x.a,I x.b,I x.to,I x.eL,S x.name,U8 x.ins.op,I x.ins.to,I x.ins.a,I x.ins.b,I x.ins.n,az x.ins.args,az x.args,nH x.aE,I x.cm]
def cR(b:bt):List D:=dt b.ins::aT b.fin
def eE(l:List bt):D:=.sl (l.flatMap cR) l.length
def aC(f:aA):List D:=[S f.name,B f.iter,I f.args,U8 f.result,jD f.aj,jD f.aP,pg f.signals,eE f.blocks]
def bh(p q:D)(f:aA):List D:=[S f.name,B f.iter,I f.args,U8 f.result,jD f.aj,jD f.aP,pg f.signals,eE f.blocks,p,q]
@[simp] theorem aor (p q : D) (x : aA) : (bh p q x).length = 10 := rfl
@[simp] theorem W5 (x : aW) : (a8 x).length = 6 := rfl
@[simp] theorem aos (x : jn) : (kJ x).length = 2 := rfl
@[simp] theorem aov (x : End) : (aT x).length = 15 := rfl
@[simp] theorem aon (x : bt) : (cR x).length = 16 := rfl
@[simp] theorem aot (x : aA) : (aC x).length = 8 := rfl
theorem De(x:aW):(a8 x).length=6:=rfl
theorem Ac(x:jn):(kJ x).length=2:=rfl
theorem Dd(x:bt):(cR x).length=16:=rfl
def iJ{α:Type}(p:α->Bool)(l:List α):Int:=match l.findIdx? p with
 |some i=>i
 |none=> -1
theorem yj{α:Type}{p:α->Bool}{l:List α}{k:Nat}{x:α}(hx:l[k]? =some x)(hp:p x=true)(h:∀ j y,j<k->l[j]? =some y->p y=false):iJ p l=k:=by
 have:l.findIdx? p=some k:=by
  rw[List.findIdx?_eq_some_iff_getElem];obtain⟨hk,he⟩:=List.getElem?_eq_some_iff.1 hx;refine⟨hk,by rw[he];exact hp,fun j hj=>?_⟩;have:=h j l[j] hj (by simp[show j<l.length by omega]);simp[this]
 simp[iJ,this]
theorem yk{α:Type}{p:α->Bool}{l:List α}(h:∀ (j:Nat) y,l[j]? =some y->p y=false):iJ p l= -1:=by
 have:l.findIdx? p=none:=by
  rw[List.findIdx?_eq_none_iff];intro x hx;obtain⟨j,hj⟩:=List.getElem?_of_mem hx;exact h j x hj
 simp[iJ,this]
theorem Dp{α:Type}(p:α->Bool)(l:List α):decide (0<=iJ p l)=l.any p:=by
 unfold iJ;cases h:l.findIdx? p with
 |none=>
  rw[List.findIdx?_eq_none_iff] at h;have:l.any p=false:=List.any_eq_false.2 fun x hx=>by simp[h x hx]
  simp[this]
 |some i=>
  obtain⟨hi,hp,_⟩:=List.findIdx?_eq_some_iff_getElem.1 h;have:l.any p=true:=List.any_eq_true.2 ⟨l[i],by simp,hp⟩;simp[this]
theorem cI(l:List Int):Tr (az l):=.sl (.map fun _=>.s _)
theorem o9(l:List Int):Tr (jD l):=.sl (.map fun _=>.s _)
theorem wm(l:List ByteArray):Tr (pg l):=.sl (.map fun _=>.s _)
theorem mW(x:aW):∀ a∈a8 x,Tr a:=.cons (.s _) (.cons (.s _) (.cons (.s _) (.cons (.s _) (.cons (.s _) (.cons (cI _) .nil)))))
theorem Ds(x:jn):∀ a∈kJ x,Tr a:=.cons (.s _) (.cons (.s _) .nil)
theorem iW(l:List jn):Tr (nH l):=.sl (.flat Ds)
theorem yD(l:List aW):Tr (dt l):=.sl (.flat mW)
theorem ix(x:End):∀ a∈aT x,Tr a:=.cons (.s _) (.cons (.s _) (.cons (.s _) (.cons (.s _) (.cons (.s _) (.cons (.s _) (.cons (.s _) (.cons (.s _) (.cons (.s _) (.cons (.s _) (.cons (.s _) (.cons (cI _) (.cons (cI _) (.cons (iW _) (.cons (.s _) .nil))))))))))))))
theorem LA(x:bt):∀ a∈cR x,Tr a:=.cons (yD _) (ix _)
theorem Df(l:List bt):Tr (eE l):=.sl (.flat LA)
theorem gz(x:aA):∀ a∈aC x,Tr a:=.cons (.s _) (.cons (.s _) (.cons (.s _) (.cons (.s _) (.cons (o9 _) (.cons (o9 _) (.cons (wm _) (.cons (Df _) .nil)))))))
theorem As{p q:D}(hp:Tr p)(hq:Tr q)(x:aA):∀ a∈bh p q x,Tr a:=.cons (.s _) (.cons (.s _) (.cons (.s _) (.cons (.s _) (.cons (o9 _) (.cons (o9 _) (.cons (wm _) (.cons (Df _) (.cons hp (.cons hq .nil)))))))))
theorem lq{p q:D}(hp:Tr p)(hq:Tr q)(x:aA):Tr (.agg (bh p q x)):=.agg (As hp hq x)
theorem sU{p q:D}{f:aA}(h1:p.one=true)(h2:q.one=true):(bh p q f).all D.one=true:=by
 simp only[bh,List.all_cons,List.all_nil,h1,h2];rfl
abbrev bc(n:Int):D:=.s (.int .u64 n)
abbrev cX(w:List Int):D:=.agg (w.map bc)
theorem ig(w:List Int):(w.map bc).all D.one=true:=List.all_eq_true.2 fun x hx=>by obtain⟨y,_,rfl⟩:=List.mem_map.1 hx;rfl
theorem Dn{w:List Int}{i:Nat}{x:Int}:((w.map bc).set i (bc x)).all D.one=true:=by rw[<- List.map_set];exact ig _
theorem iK(w:List Int):Tr (cX w):=.agg (.map fun _=>.s _)
def n9(a b:Int):Int:=intBitsV .and .u64 a b
def xJ(a b:Int):Int:=intBitsV .or .u64 a b
def gT(w:List Int)(m:Nat):List Int:=w.set (m / 64) (xJ (w.getD (m / 64) 0) (IntKind.u64.wrap (1*2 ^ (min (m % 64) 64))))
def gW(w:List Int)(m:Nat):Bool:=n9 ((w.getD (m / 64) 0).fdiv (2 ^ (min (m % 64) 64))) 1==1
def fP(w:List Int)(n:Int):List Int:=if 0<=n then gT w n.toNat else w
def dY(w v:List Int):Nat->List Int
 |0=>w
 |k+1=>(dY w v k).set k (n9 ((dY w v k).getD k 0) (v.getD k 0))
def fQ(w v:List Int):List Int:=dY w v 20
@[simp] theorem L4 (w v : List Int) : ∀ k, (dY w v k).length = w.length
 |0=>rfl
 |k+1=>by simp[dY,L4 w v k]
@[simp] theorem aoA (w : List Int) (m : Nat) : (gT w m).length = w.length := by simp [gT]
@[simp] theorem aoB (w : List Int) (n : Int) : (fP w n).length = w.length := by unfold fP; split <;> simp
@[simp] theorem LF (w v : List Int) : (fQ w v).length = w.length := L4 w v 20
theorem wrap_i64{n:Nat}(h:n<2 ^ 62):IntKind.i64.wrap (n:Int)=n:=by
 unfold IntKind.wrap;simp[IntKind.signed,IntKind.bits];omega
theorem Bs{m:Nat}(h:m<2 ^ 62):IntKind.i64.wrap ((m:Int).tdiv 64)=((m / 64:Nat):Int):=by
 rw[show(m:Int).tdiv 64=((m / 64:Nat):Int) from by rw[Int.tdiv_eq_ediv_of_nonneg oG];omega];exact wrap_i64 oG
theorem Bt(m:Nat):(m:Int).tmod 64=((m % 64:Nat):Int):=by rw[Int.tmod_eq_emod_of_nonneg oG];omega
theorem ib(a b:Int):(a==b)=decide (a=b):=rfl
def cA(n a b:Int):Bool:=decide (a<=n)&&decide (n<=b)
def rG(b:Int):Bool:=decide (b<33)||decide (126<b)
def ke(s:ByteArray):Bool:=cA s.size 1 120&& !(ct s).any rG
def rH(b:Int):Bool:=(decide (b<97)||decide (122<b))&&(decide (b<48)||decide (57<b))
def isName(s:ByteArray):Bool:=cA s.size 1 12&& !(ct s).any rH
def lm(C k:Int):Bool:=decide (k<1)||decide (C<k)
def dO(l:List Int)(C:Int):Bool:= !l.any (lm C)
def bU(l:List Int)(r:Int):Int:=if 0<=r then l.getD r.toNat 0 else 0
theorem rI{l:List Int}{i:Nat}{x:Int}(h:l[i]? =some x):bU l i=x:=by
 simp[bU,List.getD_eq_getElem?_getD,h]
theorem Gd{l:List Int}{r:Int}(h:¬ (0<=r/\r<l.length)):bU l r=0:=by
 unfold bU;split
 .rename_i h0;have:l.length<=r.toNat:=by omega
  simp[List.getD_eq_getElem?_getD,List.getElem?_eq_none this]
 .rfl
theorem jF{n a b:Int}:cA n a b=true↔a<=n/\n<=b:=by simp[cA]
theorem XZ{n a b:Int}:cA n a b=false↔¬ (a<=n/\n<=b):=by
 rw[<- Bool.not_eq_true,jF]
def dG(l:List Int)(r:Int):Bool:=bU l r==1||bU l r==2
def fm(l rs:List Int):Bool:=rs.all (dG l)
def kO(l aP:List Int)(r n:Int):Bool:=cA n 0 (aP.length - 1)&&(bU l r==bU aP n)
def kM(l:List Int)(r want C:Int):Bool:=
 if want=0 then r==0 else if want=1 then bU l r==1 else if want=2 then bU l r==2 else if want=3 then dG l r
 else bU l r !=0&&bU l r==C
structure Shape where
 to:Int
 a:Int
 b:Int
 args:Int
 low:Int
 high:Int
def iw(s:Shape):List D:=[I s.to,I s.a,I s.b,I s.args,I s.low,I s.high]
@[simp] theorem aoo (x : Shape) : (iw x).length = 6 := rfl
theorem LP(x:Shape):∀ a∈iw x,Tr a:=.cons (.s _) (.cons (.s _) (.cons (.s _) (.cons (.s _) (.cons (.s _) (.cons (.s _) .nil)))))
def pf(l:List Int)(x:aW)(s:Shape):Int:=if s.to=0\/s.to=1 then bU l x.a else bU l x.to
def o6(l:List Int)(x:aW)(s:Shape):Bool:=if s.args=5 then cA x.args.length 1 6&&fm l x.args else if s.args=6 then decide ((x.args.length:Int)=1)&&fm l x.args else decide ((x.args.length:Int)=0)
def nM(l:List Int)(x:aW)(s:Shape):Bool:=
 kM l x.to s.to 0&&(kM l x.a s.a (pf l x s)&&(kM l x.b s.b (pf l x s)&&(o6 l x s&&cA x.n s.low s.high)))
def pO(l:List (Int×Shape)):List (Value×D):=l.map fun x=>(.int .u8 x.1,.agg (iw x.2))
def wu:Shape:=⟨0,0,0,0,0,0⟩
def eF(l:List (Int×Shape))(op:Int):Option Shape:=(l.find? fun x=>x.1==op).map (·.2)
def mZ:List (Int×Shape):=[(1,⟨1,0,0,0, -1000000000,1000000000⟩),(2,⟨3,4,0,0,0,0⟩),(3,⟨1,1,1,0,0,0⟩),(4,⟨1,1,1,0,0,0⟩),(5,⟨1,3,4,0,0,0⟩),(6,⟨1,1,1,0,0,0⟩),(7,⟨1,1,1,0,0,0⟩),(8,⟨1,1,0,0,0,0⟩),
 (9,⟨2,0,0,0,0,1⟩),(10,⟨2,0,0,5,0,5⟩),(11,⟨3,2,0,0,0,5⟩),(12,⟨0,2,3,0,0,5⟩),(13,⟨1,2,0,0,0,0⟩),(14,⟨1,2,0,0,0,0⟩),(15,⟨0,1,0,0,0,0⟩)]
def iD:List (Int×Shape):=[(30,⟨1,1,1,0,0,0⟩),(31,⟨1,1,1,0,0,0⟩),(32,⟨1,1,1,0,0,0⟩),(33,⟨1,1,1,0,0,0⟩),(34,⟨1,1,1,0,0,0⟩),(35,⟨0,2,3,0,0,0⟩),(36,⟨3,2,0,0,0,0⟩),(37,⟨3,2,1,0,0,0⟩),(38,⟨0,2,1,6,0,0⟩)]
theorem y8(l:List (Int×Shape)):Tr (.im (pO l)):=.im fun x hx=>by
 obtain⟨y,_,rfl⟩:=List.mem_map.1 hx;exact .agg (LP _)
theorem NF(op:Int):∀ l:List (Int×Shape),(lookD (.int .u8 op) (pO l)).map (·.2)=(eF l op).map fun s=>.agg (iw s)
 |[]=>rfl
 |(o,s)::l=>by
  have ih:=NF op l;unfold pO at ih ⊢;simp only[List.map_cons,lookD,veq,veq1,eF,List.find?_cons] at ih ⊢;by_cases h:o=op
  .subst h;simp
  .have hb:(o==op)=false:=by simpa using h
   simp only[hb,beq_self_eq_true,Bool.and_false,Bool.false_eq_true,if_false,Option.map_map] at ih ⊢;exact ih
theorem PB{P:Program}{t:TypeId}{C:D}(U:zeroD P (melP P t)=C)(op:Int)(l:List (Int×Shape))(J:C=.agg (iw wu)):gotD P t true (lookD (.int .u8 op) (pO l))=.tup [.agg (iw ((eF l op).getD wu)),.s (.bool (eF l op).isSome)]:=by
 have h:=NF op l;cases h1:lookD (.int .u8 op) (pO l) with
 |none=>
  rw[h1] at h;have:eF l op=none:=by simpa using h.symm
  simp only[gotD,this,U,J,Option.getD_none,Option.isSome_none,if_true]
 |some x=>
  rw[h1] at h;cases h2:eF l op with
  |none=>rw[h2] at h;simp at h
  |some s=>
   rw[h2] at h;obtain⟨i,d⟩:=x;simp only[Option.map_some,Option.some.injEq] at h;subst h;simp[gotD]
theorem Nu{P:Program}{kt:TypeId}(hk:P.underlying kt=some (.int .u8))(l:List (Int×Shape)):(pO l).all (fun e=>keyP P kt e.1)=true:=by
 refine List.all_eq_true.2 fun x hx=>?_;obtain⟨y,_,rfl⟩:=List.mem_map.1 hx;simp[keyP,hk]
def aM(a b:Int):Bool:=decide (a=b)
def iF(x:aW):Bool:=decide ((x.args.length:Int)=0)
def hD(f:aA)(b:Int)(x:aW)(phis:Bool)(ahead:Int):Bool:=
 if x.op=16 then aM x.to 0&&(aM (bU f.aj x.a) 3&&(aM x.b 0&&(aM x.n 0&&iF x)))
 else if x.op=17 then aM x.a 0&&(aM x.b 0&&(iF x&&kO f.aj f.aP x.to x.n))
 else if x.op=18 then aM x.to 0&&(aM x.b 0&&(iF x&&kO f.aj f.aP x.a x.n))
 else if x.op=19 then phis&&(decide (0<b)&&(dG f.aj x.to&&(aM x.a 0&&(aM x.b 0&&(aM x.n 0&&(aM x.args.length ahead&& !x.args.any fun r=> !aM (bU f.aj r) (bU f.aj x.to)))))))
 else(eF mZ x.op).isSome&&nM f.aj x ((eF mZ x.op).getD wu)
def Bi(x:aW):Bool:=decide (x.op=0)&&(decide (x.to=0)&&(decide (x.a=0)&&(decide (x.b=0)&&(decide (x.n=0)&&decide ((x.args.length:Int)=0)))))
def wL(x:End):Bool:=decide (x.kind=0)&&(decide (x.a=0)&&(decide (x.b=0)&&(decide (x.to=0)&&(decide (x.eL=0)&&(x.name.toList==[]&&(decide (x.cm= -1)&&(decide ((x.args.length:Int)=0)&&(decide ((x.aE.length:Int)=0)&&Bi x.ins))))))))
def bN(f:aA)(n:Int):Bool:=cA n 0 (f.blocks.length - 1)
def na(f:aA)(ws:List jn)(i:Nat)(w:jn):Bool:=isName w.name&&(bN f w.to&& !(ws.take i).any fun v=>v.name.toList==w.name.toList)
def DV(f:aA)(ws:List jn):Bool:=ws.zipIdx.all fun x=>na f ws x.2 x.1
theorem KY{f:aA}{ws:List jn}(h:∀ (i:Nat) w,ws[i]? =some w->na f ws i w=true):DV f ws=true:=by
 refine List.all_eq_true.2 fun x hx=>?_;obtain⟨h1,h2⟩:=List.mem_zipIdx' hx;exact h x.2 x.1 (by rw[h2];simp[h1])
theorem FQ{f:aA}{ws:List jn}{i:Nat}{w:jn}(C:ws[i]? =some w)(h:na f ws i w=false):DV f ws=false:=by
 refine Bool.eq_false_iff.2 fun ht=>?_;have hx:(w,i)∈ws.zipIdx:=List.mem_zipIdx_iff_getElem?.2 C;have:=List.all_eq_true.1 ht _ hx;rw[h] at this;cases this
def lp(f:aA)(x:End):Bool:=DV f x.aE&&(decide ((x.aE.length:Int)<=7)&&(decide (x.cm= -1)||bN f x.cm))
def dh:aW:=⟨0,0,0,0,0,[]⟩
def eO(f:aA)(x:End):Bool×End:=
 let r:End:={ x with kind:=0 }
 if x.kind=1 then(bN f x.to,{ r with to:=0 })
 else if x.kind=2 then(aM (bU f.aj x.a) 1&&(bN f x.to&&bN f x.eL),{ r with a:=0,to:=0,eL:=0 })
 else if x.kind=3 then(if f.result≠0/\f.iter=false then aM (bU f.aj x.a) f.result else aM x.a (-1),{ r with a:=0 })
 else if x.kind=4 then(isName x.name,{ r with name:=.empty })
 else if x.kind=5 then((eF iD x.ins.op).isSome&&(nM f.aj x.ins ((eF iD x.ins.op).getD wu)&&(bN f x.to&&lp f x)),{ r with ins:=dh,to:=0,aE:=[],cm:= -1 })
 else if x.kind=6 then(ke x.name&&(decide ((x.args.length:Int)<=6)&&(fm f.aj x.args&&((aM x.a (-1)||dG f.aj x.a)&&(bN f x.to&&lp f x)))),{ r with name:=.empty,args:=[],a:=0,to:=0,aE:=[],cm:= -1 })
 else if x.kind=7 then(ke x.name&&(decide ((x.args.length:Int)<=6)&&(fm f.aj x.args&&(aM (bU f.aj x.a) 3&&bN f x.to))),{ r with name:=.empty,args:=[],a:=0,to:=0 })
 else if x.kind=8 then(aM (bU f.aj x.a) 3&&(dG f.aj x.b&&(bN f x.to&&(bN f x.eL&&lp f x))),{ r with a:=0,b:=0,to:=0,eL:=0,aE:=[],cm:= -1 })
 else if x.kind=9 then(f.iter&&(aM (bU f.aj x.a) f.result&&bN f x.to),{ r with a:=0,to:=0 })
 else(false,r)
def aG(l:List Int)(n:Int):Bool:=l.any fun c=>n==c
def jC(n:Int):Int:=1200+n
def kG:List Int:=[1,2,3,4,5,6,7,8,9,10,11,13,14,17,19]
def mU:List Int:=[30,31,32,33,34,36,37]
def bM(x:aW):Int:=if aG kG x.op then x.to else if aG mU x.op then x.to else -1
def dp(x:End):Int:=if x.kind=5 then bM x.ins else if aG [6,7] x.kind then x.a else if x.kind=8 then x.b else -1
def l5:List Int:=[2,8,11,13,14,15,16,18,36]
def po:List Int:=[3,4,5,6,7,12,30,31,32,33,34,35,37]
def bK(x:aW):List Int:=if aG l5 x.op then [x.a] else if aG po x.op then [x.a,x.b] else if x.op=10 then x.args else if x.op=38 then x.a::x.b::x.args else []
def bJ(x:End):List Int:=if aG [2,8,9] x.kind then [x.a] else if x.kind=3 then(if x.a≠ -1 then [x.a] else []) else if x.kind=5 then bK x.ins else if aG [6,7] x.kind then x.args else []
def iC(f:aA)(x:End):Bool:=(eO f x).1&&wL (eO f x).2
end Go.Argus
namespace Go.Proofs.Tryz.K
open Go.Abs
def zf(i:Nat):Code->Option (Array Oper)
 | .region j o _=>bif Nat.beq i j then some o else none
 | .seq a b=>match zf i a with
  |some x=>some x
  |none=>zf i b
 | .cond _ a b=>match zf i a with
  |some x=>some x
  |none=>zf i b
 | .block _ b=>zf i b
 | .loop b=>zf i b
 | .scope b=>zf i b
 | .rangeFunc _ _ a b=>match zf i a with
  |some x=>some x
  |none=>zf i b
 |_=>none
def Z(b:Code)(i:Nat):Array Oper:=(zf i b).getD #[]
abbrev G(i:Nat)(o:Array Oper):Code:=.region i o false
abbrev G1(b:Code)(i:Nat):Code:=.region i (Z b i) false
abbrev G2(b:Code)(i:Nat):Code:=.region i (Z b i) true
abbrev S1(a b:Code):Code:=.seq a b
abbrev C1(n:Nat)(a b:Code):Code:=.cond (.tmp n) a b
abbrev B1(n:Nat)(a:Code):Code:=.block n a
abbrev X1(n:Nat):Code:=.exit n
abbrev K1:Code:=.skip
theorem ajD:Bp=(S1 (G1 Bp 0) (S1 (G1 Bp 1) .ret)):=kr
theorem adK:AQ=(S1 (G1 AQ 0) (S1 (G1 AQ 1) .ret)):=kr
theorem ab':AU=(S1 (G1 AU 0) (S1 (G1 AU 1) .ret)):=kr
theorem adE:AY=(S1 (G1 AY 0) (S1 (G1 AY 1) .ret)):=kr
theorem ab7:qu=(S1 (G1 qu 0) (S1 (S1 (G1 qu 1) (B1 0 (.loop (S1 (G1 qu 2) (S1 (C1 9 K1 (X1 0)) (S1 (B1 1 (S1 (G1 qu 3) (S1 (G1 qu 4) (C1 16 (S1 (G1 qu 5) .ret) K1)))) (G1 qu 6))))))) (S1 (G1 qu 7) .ret))):=kr
theorem acS:rU=(S1 (G1 rU 0) (S1 (G1 rU 1) (S1 (S1 (G1 rU 2) (B1 0 (.rangeFunc (.tmp 8) #[9] (G1 rU 3) (B1 1 (S1 (G1 rU 4) (C1 12 (G1 rU 5) K1)))))) (S1 (G1 rU 6) .ret)))):=kr
theorem acP:py=(S1 (S1 (G1 py 0) (C1 19 .ret K1)) (S1 (S1 (G1 py 1) (C1 34 .ret K1)) (S1 (S1 (G1 py 2) (B1 0 (.loop (S1 (G1 py 3) (S1 (C1 39 K1 (X1 0)) (S1 (B1 1 (S1 (G1 py 4) (S1 (G1 py 5) (C1 46 .ret K1)))) (G1 py 6))))))) (S1 (G1 py 7) (C1 65 (G1 py 8) K1))))):=kr
theorem acM:AH=(S1 (G1 AH 0) (S1 (G1 AH 1) .ret)):=kr
theorem acd:qp=(S1 (G1 qp 0) (S1 (S1 (G1 qp 1) (B1 0 (.loop (S1 (G1 qp 2) (S1 (C1 9 K1 (X1 0)) (S1 (B1 1 (S1 (G1 qp 3) (S1 (G1 qp 4) (C1 16 (S1 (G1 qp 5) .ret) K1)))) (G1 qp 6))))))) (S1 (G1 qp 7) .ret))):=kr
theorem acg:AO=(S1 (G1 AO 0) (S1 (G1 AO 1) .ret)):=kr
theorem acj:qo=(S1 (G1 qo 0) (S1 (S1 (G1 qo 1) (B1 0 (.loop (S1 (G1 qo 2) (S1 (C1 9 K1 (X1 0)) (S1 (B1 1 (S1 (G1 qo 3) (S1 (G1 qo 4) (C1 16 (S1 (G1 qo 5) .ret) K1)))) (G1 qo 6))))))) (S1 (G1 qo 7) .ret))):=kr
theorem acn:qv=(S1 (G1 qv 0) (S1 (S1 (G1 qv 1) (B1 0 (.loop (S1 (G1 qv 2) (S1 (C1 9 K1 (X1 0)) (S1 (B1 1 (S1 (G1 qv 3) (S1 (G1 qv 4) (C1 16 (S1 (G1 qv 5) .ret) K1)))) (G1 qv 6))))))) (S1 (G1 qv 7) .ret))):=kr
theorem acq:A4=(S1 (G1 A4 0) (S1 (G1 A4 1) .ret)):=kr
theorem acu:ql=(S1 (G1 ql 0) (S1 (S1 (G1 ql 1) (B1 0 (.loop (S1 (G1 ql 2) (S1 (C1 9 K1 (X1 0)) (S1 (B1 1 (S1 (G1 ql 3) (S1 (G1 ql 4) (C1 16 (S1 (G1 ql 5) .ret) K1)))) (G1 ql 6))))))) (S1 (G1 ql 7) .ret))):=kr
theorem acx:AE=(S1 (G1 AE 0) (S1 (G1 AE 1) .ret)):=kr
theorem aee:qi=(S1 (G1 qi 0) (S1 (S1 (G1 qi 1) (B1 0 (.loop (S1 (G1 qi 2) (S1 (C1 9 K1 (X1 0)) (S1 (B1 1 (S1 (G1 qi 3) (S1 (G1 qi 4) (C1 16 (S1 (G1 qi 5) .ret) K1)))) (G1 qi 6))))))) (S1 (G1 qi 7) .ret))):=kr
theorem adB:AV=(S1 (G1 AV 0) (S1 (G1 AV 1) .ret)):=kr
theorem adH:AM=(S1 (G1 AM 0) (S1 (G1 AM 1) .ret)):=kr
theorem adN:AP=(S1 (G1 AP 0) (S1 (G1 AP 1) .ret)):=kr
theorem adQ:AX=(S1 (G1 AX 0) (S1 (G1 AX 1) .ret)):=kr
theorem adT:AN=(S1 (G1 AN 0) (S1 (G1 AN 1) .ret)):=kr
theorem afo:yH=(S1 (G1 yH 0) (S1 (G1 yH 1) (S1 (G1 yH 2) .ret))):=kr
theorem afl:wx=(S1 (G1 wx 0) (S1 (G1 wx 1) (S1 (G1 wx 2) (S1 (G1 wx 3) .ret)))):=kr
theorem aeF:AZ=(S1 (G1 AZ 0) (S1 (G1 AZ 1) .ret)):=kr
theorem aeI:wA=(S1 (G1 wA 0) (S1 (S1 (G1 wA 1) (C1 12 (S1 (G1 wA 2) .ret) K1)) (S1 (G1 wA 3) .ret))):=kr
theorem ae4:mY=(S1 (G1 mY 0) (S1 (G1 mY 1) (S1 (S1 (G1 mY 2) (C1 20 (G1 mY 3) K1)) (S1 (G1 mY 4) (S1 (S1 (G1 mY 5) (B1 0 (S1 (G1 mY 6) (C1 31 (G1 mY 7) (S1 (G1 mY 8) (C1 43 (G1 mY 9) K1)))))) (S1 (G1 mY 10) .ret)))))):=kr
theorem afi:qq=(S1 (G1 qq 0) (S1 (S1 (G1 qq 1) (B1 0 (.loop (S1 (G1 qq 2) (S1 (C1 11 K1 (X1 0)) (S1 (B1 1 (S1 (G1 qq 3) (S1 (G1 qq 4) (C1 33 (S1 (G1 qq 5) .ret) K1)))) (G1 qq 6))))))) (S1 (G1 qq 7) .ret))):=kr
theorem aeO:A0=(S1 (G1 A0 0) (S1 (G1 A0 1) .ret)):=kr
theorem LL:drawInfo (Z yK 1)=some [(10,11),(10,12),(10,13),(10,15),(10,16)]:=kr
theorem aeR:yK=(S1 (G1 yK 0) (S1 (G2 yK 1) .ret)):=kr
theorem Yc:drawInfo (Z yL 1)=some [(2,3)]:=kr
theorem afP:yL=(S1 (G1 yL 0) (S1 (G2 yL 1) .ret)):=kr
theorem ae1:l9=(S1 (G1 l9 0) (S1 (G1 l9 1) (S1 (S1 (G1 l9 2) (B1 0 (S1 (G1 l9 3) (C1 14 (S1 (G1 l9 4) .ret) (S1 (G1 l9 5) (C1 18 (S1 (G1 l9 6) .ret) (S1 (G1 l9 7) (C1 22 (S1 (G1 l9 8) .ret) (S1 (G1 l9 9) (C1 26 (S1 (G1 l9 10) .ret) K1)))))))))) (S1 (G1 l9 11) .ret)))):=kr
theorem aff:A5=(S1 (G1 A5 0) (S1 (G1 A5 1) .ret)):=kr
theorem aeL:A6=(S1 (G1 A6 0) (S1 (G1 A6 1) .ret)):=kr
theorem afc:A1=(S1 (G1 A1 0) (S1 (G1 A1 1) .ret)):=kr
theorem ae':A7=(S1 (G1 A7 0) (S1 (G1 A7 1) .ret)):=kr
theorem Xg:drawInfo (Z dP 11)=some [(3,4),(3,5),(3,6)]:=kr
theorem Xh:drawInfo (Z dP 28)=some [(7,8),(7,9),(7,10)]:=kr
theorem agI:dP=(S1 (G1 dP 0) (S1 (G1 dP 1) (S1 (G1 dP 2) (S1 (S1 (G1 dP 3) (B1 0 (S1 (G1 dP 4) (C1 13 (G1 dP 5) (S1 (G1 dP 6) (C1 20 (G1 dP 7) (S1 (G1 dP 8) (C1 42 (S1 (G1 dP 9) (S1 (G1 dP 10) (C1 57 (G2 dP 11) K1))) (S1 (G1 dP 12) (C1 66 (G1 dP 13) (S1 (G1 dP 14) (C1 72 (S1 (G1 dP 15) (S1 (G1 dP 16) (G1 dP 17))) (S1 (G1 dP 18) (C1 107 (S1 (G1 dP 19) (G1 dP 20)) (S1 (G1 dP 21) (C1 153 (S1 (G1 dP 22) (G1 dP 23)) (S1 (G1 dP 24) (C1 187 (S1 (G1 dP 25) (G1 dP 26)) (S1 (G1 dP 27) (C1 224 (G2 dP 28) K1)))))))))))))))))))) (S1 (G1 dP 29) .ret))))):=kr
theorem afS:kL=(S1 (G1 kL 0) (S1 (S1 (G1 kL 1) (B1 0 (S1 (G1 kL 2) (C1 17 (S1 (G1 kL 3) .ret) (S1 (G1 kL 4) (C1 45 (S1 (G1 kL 5) .ret) (S1 (G1 kL 6) (C1 69 (S1 (G1 kL 7) .ret) (S1 (G1 kL 8) (C1 93 (S1 (G1 kL 9) (S1 (G1 kL 10) (S1 (G1 kL 11) .ret))) K1)))))))))) (S1 (G1 kL 12) (S1 (G1 kL 13) .ret)))):=kr
theorem W2:drawInfo (Z dg 10)=some []:=kr
theorem W3:drawInfo (Z dg 32)=some []:=kr
theorem ad0:dg=(S1 (G1 dg 0) (S1 (G1 dg 1) (S1 (G1 dg 2) (S1 (S1 (G1 dg 3) (C1 71 (S1 (G1 dg 4) .ret) K1)) (S1 (S1 (G1 dg 5) (C1 101 (S1 (G1 dg 6) .ret) K1)) (S1 (S1 (G1 dg 7) (B1 0 (.loop (S1 (S1 (G1 dg 8) (C1 106 K1 (X1 0))) (S1 (B1 1 (S1 (G2 dg 10) (C1 120 (S1 (G1 dg 11) .ret) K1))) (G1 dg 9)))))) (S1 (G1 dg 12) (S1 (S1 (G1 dg 13) (B1 2 (.loop (S1 (G1 dg 14) (S1 (C1 126 K1 (X1 2)) (S1 (B1 3 (S1 (G1 dg 15) (S1 (S1 (G1 dg 16) (C1 139 (S1 (G1 dg 17) .ret) K1)) (S1 (G1 dg 18) (C1 143 (S1 (S1 (G1 dg 19) (C1 148 (S1 (G1 dg 20) .ret) K1)) (G1 dg 21)) K1))))) (G1 dg 22))))))) (S1 (G1 dg 23) (S1 (S1 (G1 dg 24) (B1 4 (.loop (S1 (G1 dg 25) (S1 (C1 160 K1 (X1 4)) (S1 (B1 5 (S1 (G1 dg 26) (S1 (G1 dg 27) (S1 (G1 dg 28) (B1 6 (.loop (S1 (G1 dg 29) (S1 (C1 168 K1 (X1 6)) (S1 (B1 7 (S1 (G1 dg 30) (S1 (G1 dg 31) (S1 (G2 dg 32) (C1 187 (S1 (G1 dg 33) .ret) K1))))) (G1 dg 34)))))))))) (G1 dg 35))))))) (S1 (G1 dg 36) .ret))))))))))):=kr
theorem ajA:mh=(S1 (G1 mh 0) (S1 (G1 mh 1) (S1 (S1 (G1 mh 2) (B1 0 (.loop (S1 (G1 mh 3) (S1 (C1 18 K1 (X1 0)) (S1 (B1 1 (S1 (G1 mh 4) (S1 (G1 mh 5) (B1 2 (.loop (S1 (G1 mh 6) (S1 (C1 28 K1 (X1 2)) (S1 (B1 3 (S1 (G1 mh 7) (G1 mh 8))) (G1 mh 9))))))))) (G1 mh 10))))))) (S1 (G1 mh 11) .ret)))):=kr
theorem adh:AG=(S1 (G1 AG 0) (S1 (G1 AG 1) .ret)):=kr
theorem XR:drawInfo (Z uA 2)=some [(0,2)]:=kr
theorem adk:uA=(S1 (G1 uA 0) (S1 (S1 (G1 uA 1) (C1 9 (S1 (G2 uA 2) .ret) K1)) (S1 (G1 uA 3) .ret))):=kr
theorem F1:drawInfo (Z gQ 10)=some [(6,9)]:=kr
theorem adn:gQ=(S1 (G1 gQ 0) (S1 (G1 gQ 1) (S1 (S1 (G1 gQ 2) (B1 0 (.loop (S1 (G1 gQ 3) (S1 (C1 17 K1 (X1 0)) (S1 (B1 1 (S1 (G1 gQ 4) (S1 (S1 (G1 gQ 5) (B1 2 (.loop (S1 (G1 gQ 6) (S1 (C1 24 K1 (X1 2)) (S1 (B1 3 (S1 (G1 gQ 7) (G1 gQ 8))) (G1 gQ 9))))))) (S1 (G2 gQ 10) (G1 gQ 11))))) (G1 gQ 12))))))) (S1 (S1 (G1 gQ 13) (B1 4 (.loop (S1 (G1 gQ 14) (S1 (C1 56 K1 (X1 4)) (S1 (B1 5 (S1 (G1 gQ 15) (G1 gQ 16))) (G1 gQ 17))))))) (S1 (G1 gQ 18) .ret))))):=kr
theorem XM:drawInfo (Z sZ 2)=some [(0,3)]:=kr
theorem XL:drawInfo (Z sZ 3)=some [(0,2)]:=kr
theorem acJ:sZ=(S1 (G1 sZ 0) (S1 (S1 (G1 sZ 1) (C1 7 (S1 (G2 sZ 2) .ret) K1)) (S1 (G2 sZ 3) .ret))):=kr
theorem XJ:drawInfo (Z uB 2)=some []:=kr
theorem acD:uB=(S1 (G1 uB 0) (S1 (S1 (G1 uB 1) (C1 6 (G2 uB 2) K1)) (S1 (G1 uB 3) .ret))):=kr
theorem XK:drawInfo (Z qt 4)=some []:=kr
theorem acG:qt=(S1 (G1 qt 0) (S1 (S1 (G1 qt 1) (B1 0 (.loop (S1 (G1 qt 2) (S1 (C1 7 K1 (X1 0)) (S1 (B1 1 (S1 (G1 qt 3) (G2 qt 4))) (G1 qt 5))))))) (S1 (G1 qt 6) .ret))):=kr
theorem acA:AR=(S1 (G1 AR 0) (S1 (G1 AR 1) .ret)):=kr
theorem ag0:A2=(S1 (G1 A2 0) (S1 (G1 A2 1) .ret)):=kr
theorem XS:drawInfo (Z dK 1)=some [(4,5),(4,6),(4,7),(4,8)]:=kr
theorem WV:drawInfo (Z dK 20)=some []:=kr
theorem WW:drawInfo (Z dK 24)=some [(2,8),(3,8)]:=kr
theorem WX:drawInfo (Z dK 25)=some []:=kr
theorem ady:dK=(S1 (G1 dK 0) (S1 (G2 dK 1) (S1 (S1 (G1 dK 2) (B1 0 (.loop (S1 (G1 dK 3) (S1 (C1 29 K1 (X1 0)) (S1 (B1 1 (S1 (G1 dK 4) (G1 dK 5))) (G1 dK 6))))))) (S1 (G1 dK 7) (S1 (S1 (G1 dK 8) (B1 2 (.loop (S1 (G1 dK 9) (S1 (C1 45 K1 (X1 2)) (S1 (B1 3 (S1 (G1 dK 10) (G1 dK 11))) (G1 dK 12))))))) (S1 (S1 (G1 dK 13) (B1 4 (.loop (S1 (S1 (G1 dK 14) (C1 55 K1 (X1 4))) (B1 5 (S1 (G1 dK 15) (S1 (G1 dK 16) (B1 6 (.loop (S1 (G1 dK 17) (S1 (C1 61 K1 (X1 6)) (S1 (B1 7 (S1 (G1 dK 18) (S1 (S1 (G1 dK 19) (C1 69 (X1 7) K1)) (S1 (G2 dK 20) (S1 (G1 dK 21) (B1 8 (.loop (S1 (G1 dK 22) (S1 (C1 85 K1 (X1 8)) (S1 (B1 9 (S1 (G1 dK 23) (S1 (G2 dK 24) (S1 (G2 dK 25) (C1 110 (G1 dK 26) K1))))) (G1 dK 27))))))))))) (G1 dK 28))))))))))))) (S1 (G1 dK 29) .ret))))))):=kr
theorem XU:drawInfo (Z eN 7)=some []:=kr
theorem WZ:drawInfo (Z eN 17)=some []:=kr
theorem W0:drawInfo (Z eN 18)=some [(14,15),(14,16),(14,18),(14,19)]:=kr
theorem adW:eN=(S1 (G1 eN 0) (.scope (S1 (G1 eN 1) (S1 (G1 eN 2) (S1 (.label 0) (S1 (S1 (G1 eN 3) (B1 0 (.loop (S1 (G1 eN 4) (S1 (C1 28 K1 (X1 0)) (S1 (B1 1 (S1 (G1 eN 5) (S1 (S1 (G1 eN 6) (C1 36 (X1 1) K1)) (S1 (S1 (G2 eN 7) (S1 (G1 eN 8) (C1 47 (S1 (G1 eN 9) .ret) K1))) (S1 (G1 eN 10) (B1 2 (.loop (S1 (G1 eN 11) (S1 (C1 52 K1 (X1 2)) (S1 (B1 3 (S1 (G1 eN 12) (S1 (S1 (G1 eN 13) (C1 57 (X1 1) K1)) (S1 (G1 eN 14) (B1 4 (.loop (S1 (G1 eN 15) (S1 (C1 64 K1 (X1 4)) (S1 (B1 5 (S1 (G1 eN 16) (S1 (G2 eN 17) (S1 (G2 eN 18) (C1 104 (S1 (G1 eN 19) .ret) K1))))) (G1 eN 20)))))))))) (G1 eN 21))))))))))) (G1 eN 22))))))) (S1 (G1 eN 23) .ret))))))):=kr
theorem ajM:s5=(S1 (G1 s5 0) (S1 (B1 0 (S1 (G1 s5 1) (C1 3 (S1 (G1 s5 2) .ret) (S1 (G1 s5 3) (C1 7 (S1 (G1 s5 4) .ret) K1))))) (S1 (G1 s5 5) .ret))):=kr
theorem ag3:eM=(S1 (G1 eM 0) (S1 (S1 (G1 eM 1) (B1 0 (S1 (S1 (G1 eM 2) (C1 5 K1 (S1 (G1 eM 3) (C1 5 K1 (S1 (G1 eM 4) (C1 5 K1 (S1 (G1 eM 5) (C1 5 K1 (S1 (G1 eM 6) (C1 5 K1 (S1 (G1 eM 7) (C1 5 K1 (S1 (G1 eM 8) (C1 5 K1 (S1 (G1 eM 9) (C1 5 K1 (S1 (G1 eM 10) (C1 5 K1 (S1 (G1 eM 11) (C1 5 K1 (S1 (G1 eM 12) (C1 5 K1 (S1 (G1 eM 13) (C1 5 K1 (S1 (G1 eM 14) (C1 5 K1 (S1 (G1 eM 15) (C1 5 K1 (G1 eM 16))))))))))))))))))))))))))))) (C1 5 (S1 (G1 eM 17) .ret) (S1 (S1 (G1 eM 18) (C1 23 K1 (S1 (G1 eM 19) (C1 23 K1 (S1 (G1 eM 20) (C1 23 K1 (S1 (G1 eM 21) (C1 23 K1 (S1 (G1 eM 22) (C1 23 K1 (S1 (G1 eM 23) (C1 23 K1 (G1 eM 24))))))))))))) (C1 23 (S1 (G1 eM 25) .ret) K1)))))) (S1 (G1 eM 26) .ret))):=kr
theorem ahb:dW=(S1 (G1 dW 0) (S1 (S1 (G1 dW 1) (B1 0 (S1 (S1 (G1 dW 2) (C1 5 K1 (S1 (G1 dW 3) (C1 5 K1 (S1 (G1 dW 4) (C1 5 K1 (S1 (G1 dW 5) (C1 5 K1 (S1 (G1 dW 6) (C1 5 K1 (S1 (G1 dW 7) (C1 5 K1 (S1 (G1 dW 8) (C1 5 K1 (S1 (G1 dW 9) (C1 5 K1 (G1 dW 10))))))))))))))))) (C1 5 (S1 (G1 dW 11) .ret) (S1 (S1 (G1 dW 12) (C1 18 K1 (S1 (G1 dW 13) (C1 18 K1 (S1 (G1 dW 14) (C1 18 K1 (S1 (G1 dW 15) (C1 18 K1 (S1 (G1 dW 16) (C1 18 K1 (S1 (G1 dW 17) (C1 18 K1 (S1 (G1 dW 18) (C1 18 K1 (S1 (G1 dW 19) (C1 18 K1 (S1 (G1 dW 20) (C1 18 K1 (S1 (G1 dW 21) (C1 18 K1 (S1 (G1 dW 22) (C1 18 K1 (S1 (G1 dW 23) (C1 18 K1 (G1 dW 24))))))))))))))))))))))))) (C1 18 (S1 (G1 dW 25) .ret) (S1 (G1 dW 26) (C1 37 (S1 (G1 dW 27) .ret) (S1 (G1 dW 28) (C1 42 (S1 (G1 dW 29) .ret) K1)))))))))) (S1 (G1 dW 30) .ret))):=kr
theorem ahf:j8=(S1 (G1 j8 0) (S1 (S1 (G1 j8 1) (B1 0 (S1 (S1 (G1 j8 2) (C1 5 K1 (S1 (G1 j8 3) (C1 5 K1 (G1 j8 4))))) (C1 5 (S1 (G1 j8 5) .ret) (S1 (G1 j8 6) (C1 12 (S1 (G1 j8 7) (C1 16 (S1 (G1 j8 8) .ret) K1)) (S1 (G1 j8 9) (C1 20 (S1 (G1 j8 10) .ret) (S1 (S1 (G1 j8 11) (C1 25 K1 (G1 j8 12))) (C1 25 (S1 (G1 j8 13) .ret) K1)))))))))) (S1 (G1 j8 14) .ret))):=kr
theorem ag6:nO=(S1 (G1 nO 0) (S1 (S1 (G1 nO 1) (B1 0 (S1 (G1 nO 2) (C1 5 (S1 (G1 nO 3) .ret) (S1 (S1 (G1 nO 4) (C1 10 K1 (G1 nO 5))) (C1 10 (S1 (G1 nO 6) .ret) (S1 (G1 nO 7) (C1 15 (S1 (G1 nO 8) .ret) K1)))))))) (S1 (G1 nO 9) .ret))):=kr
theorem ag9:ux=(S1 (G1 ux 0) (S1 (S1 (G1 ux 1) (C1 4 (S1 (G1 ux 2) .ret) K1)) (S1 (G1 ux 3) .ret))):=kr
theorem ajr:Bo=(S1 (G1 Bo 0) (G1 Bo 1)):=kr
theorem ac':dX=(S1 (G1 dX 0) (S1 (G1 dX 1) (B1 0 (.loop (B1 1 (S1 (G1 dX 2) (S1 (S1 (G1 dX 3) (C1 23 (S1 (G1 dX 4) .ret) K1)) (S1 (S1 (G1 dX 5) (C1 29 (S1 (G1 dX 6) .ret) K1)) (S1 (S1 (G1 dX 7) (C1 35 (S1 (G1 dX 8) (G1 dX 9)) K1)) (S1 (G1 dX 10) (S1 (S1 (G1 dX 11) (C1 50 (S1 (G1 dX 12) (S1 (G1 dX 13) (G1 dX 14))) K1)) (S1 (S1 (G1 dX 15) (C1 68 (S1 (G1 dX 16) (C1 72 .ret K1)) K1)) (S1 (S1 (G2 dX 17) (C1 87 (S1 (G1 dX 18) (S1 (G1 dX 19) (X1 1))) K1)) (S1 (G1 dX 20) (S1 (G1 dX 21) (S1 (G1 dX 22) (S1 (G1 dX 23) (S1 (G1 dX 24) (C1 113 (S1 (G1 dX 25) (S1 (G1 dX 26) (G1 dX 27))) (S1 (G1 dX 28) (S1 (G1 dX 29) (G1 dX 30)))))))))))))))))))))):=kr
theorem XN:drawInfo (Z px 4)=some []:=kr
theorem XO:drawInfo (Z px 6)=some []:=kr
theorem ac7:px=(S1 (G1 px 0) (B1 0 (.loop (S1 (S1 (G1 px 1) (C1 12 K1 (X1 0))) (S1 (B1 1 (S1 (G1 px 3) (B1 2 (.loop (S1 (S1 (G2 px 4) (C1 30 K1 (X1 2))) (S1 (B1 3 (G2 px 6)) (G1 px 5))))))) (G1 px 2)))))):=kr
theorem ac4:AK=(S1 (G1 AK 0) (S1 (G1 AK 1) .ret)):=kr
theorem ac1:AT=(S1 (G1 AT 0) (S1 (G1 AT 1) .ret)):=kr
theorem Za:drawInfo (Z hP 6)=some []:=kr
theorem XQ:drawInfo (Z hP 11)=some []:=kr
theorem aju:hP=(S1 (G1 hP 0) (S1 (S1 (G1 hP 1) (C1 8 (S1 (G1 hP 2) .ret) K1)) (S1 (S1 (G1 hP 3) (B1 0 (.loop (S1 (S1 (G1 hP 4) (C1 13 K1 (X1 0))) (S1 (B1 1 (S1 (G2 hP 6) (C1 25 (S1 (G1 hP 7) (S1 (S1 (G1 hP 8) (B1 2 (.loop (S1 (S1 (G1 hP 9) (C1 32 K1 (X1 2))) (S1 (B1 3 (S1 (G2 hP 11) (C1 44 (S1 (G1 hP 12) (G1 hP 13)) K1))) (G1 hP 10)))))) (S1 (G1 hP 14) (S1 (G1 hP 15) .ret)))) K1))) (G1 hP 5)))))) (S1 (G1 hP 16) .ret)))):=kr
theorem ade:wz=(S1 (G1 wz 0) (S1 (G1 wz 1) (S1 (G1 wz 2) (S1 (G1 wz 3) .ret)))):=kr
theorem acY:A3=(S1 (G1 A3 0) (S1 (G1 A3 1) .ret)):=kr
theorem acV:uC=(S1 (G1 uC 0) (S1 (S1 (G1 uC 1) (B1 0 (.rangeFunc (.tmp 6) #[7] (G1 uC 2) (B1 1 (G1 uC 3))))) (S1 (G1 uC 4) .ret))):=kr
theorem aeb:kK=(S1 (G1 kK 0) (S1 (G1 kK 1) (S1 (S1 (G1 kK 2) (C1 13 (G1 kK 3) K1)) (S1 (S1 (G1 kK 4) (C1 26 (G1 kK 5) K1)) (S1 (S1 (G1 kK 6) (B1 0 (.loop (S1 (G1 kK 7) (S1 (C1 36 K1 (X1 0)) (S1 (B1 1 (S1 (G1 kK 8) (G1 kK 9))) (G1 kK 10))))))) (S1 (S1 (G1 kK 11) (C1 47 (G1 kK 12) K1)) (S1 (G1 kK 13) .ret))))))):=kr
theorem aeU:qj=(S1 (G1 qj 0) (S1 (G1 qj 1) (S1 (S1 (G1 qj 2) (C1 15 (S1 (G1 qj 3) .ret) K1)) (S1 (G1 qj 4) (S1 (G1 qj 5) (S1 (G1 qj 6) (S1 (G1 qj 7) .ret))))))):=kr
theorem aeC:rR=(S1 (G1 rR 0) (S1 (G1 rR 1) (B1 0 (.loop (S1 (G1 rR 2) (S1 (C1 20 K1 (X1 0)) (S1 (B1 1 (S1 (G1 rR 3) (S1 (G1 rR 4) (C1 32 (G1 rR 5) K1)))) (G1 rR 6)))))))):=kr
theorem Zm:drawInfo (Z fO 5)=some []:=kr
theorem X0:drawInfo (Z fO 11)=some [(1,6),(2,6),(3,6)]:=kr
theorem X2:drawInfo (Z fO 15)=some [(1,14),(2,14),(3,14)]:=kr
theorem TX:fO=(S1 (G1 fO 0) (S1 (S1 (G1 fO 1) (S1 (G1 fO 2) (C1 15 (S1 (G1 fO 3) .ret) K1))) (S1 (G1 fO 4) (S1 (G2 fO 5) (S1 (S1 (G1 fO 6) (B1 0 (.loop (S1 (G1 fO 7) (S1 (C1 31 K1 (X1 0)) (S1 (B1 1 (S1 (G1 fO 8) (S1 (G1 fO 9) (S1 (G1 fO 10) (S1 (G2 fO 11) (S1 (G1 fO 12) (B1 2 (.loop (S1 (G1 fO 13) (S1 (C1 57 K1 (X1 2)) (S1 (B1 3 (S1 (G1 fO 14) (G2 fO 15))) (G1 fO 16)))))))))))) (G1 fO 17))))))) (S1 (G1 fO 18) (S1 (G1 fO 19) .ret))))))):=kr
theorem aeX:qn=(S1 (G1 qn 0) (S1 (S1 (G1 qn 1) (B1 0 (.loop (S1 (G1 qn 2) (S1 (C1 20 K1 (X1 0)) (S1 (B1 1 (S1 (G1 qn 3) (S1 (G1 qn 4) (C1 27 (G1 qn 5) K1)))) (G1 qn 6))))))) (G1 qn 7))):=kr
theorem aj1:qB=(S1 (G1 qB 0) (S1 (G1 qB 1) (S1 (G1 qB 2) (S1 (G1 qB 3) (S1 (G1 qB 4) (S1 (G1 qB 5) (S1 (G1 qB 6) (S1 (G1 qB 7) .ret)))))))):=kr
theorem Zk:drawInfo (Z uI 3)=some []:=kr
theorem ajY:uI=(S1 (G1 uI 0) (B1 0 (.loop (S1 (S1 (G1 uI 1) (C1 9 K1 (X1 0))) (S1 (B1 1 (G2 uI 3)) (G1 uI 2)))))):=kr
theorem aek:rP=(S1 (G1 rP 0) (S1 (G1 rP 1) (S1 (G1 rP 2) (S1 (S1 (G1 rP 3) (C1 19 (G1 rP 4) K1)) (S1 (G1 rP 5) .ret))))):=kr
theorem aeh:AJ=(S1 (G1 AJ 0) (S1 (G1 AJ 1) .ret)):=kr
theorem aen:pw=(S1 (G1 pw 0) (S1 (G1 pw 1) (S1 (S1 (G1 pw 2) (B1 0 (.loop (S1 (G1 pw 3) (S1 (C1 12 K1 (X1 0)) (S1 (B1 1 (S1 (G1 pw 4) (S1 (G1 pw 5) (C1 17 (G1 pw 6) K1)))) (G1 pw 7))))))) (S1 (G1 pw 8) .ret)))):=kr
theorem aeq:ww=(S1 (G1 ww 0) (S1 (S1 (G1 ww 1) (C1 7 (S1 (G1 ww 2) .ret) K1)) (S1 (G1 ww 3) .ret))):=kr
theorem aet:pu=(S1 (G1 pu 0) (S1 (G1 pu 1) (S1 (G1 pu 2) (S1 (S1 (G1 pu 3) (B1 0 (.loop (S1 (G1 pu 4) (S1 (C1 25 K1 (X1 0)) (S1 (B1 1 (S1 (G1 pu 5) (G1 pu 6))) (G1 pu 7))))))) (S1 (G1 pu 8) .ret))))):=kr
theorem XV:drawInfo (Z wv 1)=some []:=kr
theorem ad3:wv=(S1 (G1 wv 0) (S1 (G2 wv 1) (S1 (G1 wv 2) .ret))):=kr
theorem XX:drawInfo (Z qm 4)=some []:=kr
theorem ad9:qm=(S1 (G1 qm 0) (S1 (S1 (G1 qm 1) (B1 0 (.loop (S1 (G1 qm 2) (S1 (C1 7 K1 (X1 0)) (S1 (B1 1 (S1 (G1 qm 3) (G2 qm 4))) (G1 qm 5))))))) (S1 (G1 qm 6) .ret))):=kr
theorem XW:drawInfo (Z uy 2)=some []:=kr
theorem ad6:uy=(S1 (G1 uy 0) (S1 (S1 (G1 uy 1) (C1 6 (G2 uy 2) K1)) (S1 (G1 uy 3) .ret))):=kr
theorem ajP:Bn=(S1 (G1 Bn 0) (S1 (G1 Bn 1) .ret)):=kr
theorem ajT:pC=(S1 (G1 pC 0) (S1 (G1 pC 1) (S1 (S1 (G1 pC 2) (B1 0 (.loop (S1 (G1 pC 3) (S1 (C1 9 K1 (X1 0)) (S1 (B1 1 (S1 (G1 pC 4) (S1 (G1 pC 5) (C1 13 (G1 pC 6) K1)))) (G1 pC 7))))))) (S1 (G1 pC 8) .ret)))):=kr
theorem Zo:drawInfo (Z cG 2)=some []:=kr
theorem X4:drawInfo (Z cG 22)=some [(0,5),(1,5),(0,6)]:=kr
theorem X5:drawInfo (Z cG 32)=some [(0,2)]:=kr
theorem X6:drawInfo (Z cG 38)=some []:=kr
theorem X7:drawInfo (Z cG 39)=some [(5,7)]:=kr
theorem aj4:cG=(S1 (G1 cG 0) (S1 (G1 cG 1) (S1 (G2 cG 2) (S1 (G1 cG 3) (S1 (G1 cG 4) (S1 (S1 (G1 cG 5) (B1 0 (.loop (S1 (S1 (G1 cG 6) (C1 37 K1 (X1 0))) (B1 1 (S1 (G1 cG 7) (S1 (G1 cG 8) (B1 2 (.loop (S1 (G1 cG 9) (S1 (C1 41 K1 (X1 2)) (S1 (B1 3 (S1 (G1 cG 10) (S1 (G1 cG 11) (S1 (G1 cG 12) (S1 (S1 (G1 cG 13) (B1 4 (.loop (S1 (G1 cG 14) (S1 (C1 61 K1 (X1 4)) (S1 (B1 5 (S1 (G1 cG 15) (S1 (G1 cG 16) (S1 (S1 (G1 cG 17) (B1 6 (.loop (S1 (G1 cG 18) (S1 (C1 74 K1 (X1 6)) (S1 (B1 7 (S1 (G1 cG 19) (G1 cG 20))) (G1 cG 21))))))) (G2 cG 22))))) (G1 cG 23))))))) (S1 (S1 (G1 cG 24) (B1 8 (.loop (S1 (G1 cG 25) (S1 (C1 95 K1 (X1 8)) (S1 (B1 9 (S1 (G1 cG 26) (G1 cG 27))) (G1 cG 28))))))) (S1 (G1 cG 29) (S1 (S1 (G1 cG 30) (B1 10 (.rangeFunc (.tmp 105) #[106,107] (G1 cG 31) (B1 11 (S1 (G2 cG 32) (S1 (G1 cG 33) (B1 12 (.loop (S1 (G1 cG 34) (S1 (C1 116 K1 (X1 12)) (S1 (B1 13 (S1 (G1 cG 35) (G1 cG 36))) (G1 cG 37)))))))))))) (S1 (G2 cG 38) (C1 136 (G2 cG 39) K1)))))))))) (G1 cG 40))))))))))))) (S1 (G1 cG 41) .ret))))))):=kr
theorem aew:AF=(S1 (G1 AF 0) (S1 (G1 AF 1) .ret)):=kr
theorem aez:wy=(S1 (G1 wy 0) (B1 0 (.loop (S1 (S1 (G1 wy 1) (C1 8 K1 (X1 0))) (S1 (B1 1 (S1 (G1 wy 3) (C1 18 .ret K1))) (G1 wy 2)))))):=kr
theorem Zp:drawInfo (Z me 8)=some [(8,14),(9,14),(10,14),(8,15),(9,15),(10,15),(8,16),(9,16),(10,16),(8,17),(9,17),(10,17),(8,18),(9,18),(10,18)]:=kr
theorem T4:me=(S1 (G1 me 0) (S1 (G1 me 1) (S1 (S1 (G1 me 2) (C1 15 (S1 (G1 me 3) .ret) K1)) (S1 (G1 me 4) (S1 (S1 (G1 me 5) (B1 0 (.loop (S1 (G1 me 6) (S1 (C1 25 K1 (X1 0)) (S1 (B1 1 (S1 (G1 me 7) (G2 me 8))) (G1 me 9))))))) (S1 (G1 me 10) .ret)))))):=kr
theorem akh:gR=(S1 (G1 gR 0) (S1 (S1 (G1 gR 1) (C1 58 (S1 (G1 gR 2) .ret) K1)) (S1 (S1 (G1 gR 3) (B1 0 (.loop (S1 (S1 (G1 gR 4) (C1 63 K1 (X1 0))) (S1 (B1 1 (S1 (G1 gR 6) (C1 72 (S1 (G1 gR 7) .ret) K1))) (G1 gR 5)))))) (S1 (S1 (G1 gR 8) (B1 2 (.loop (S1 (S1 (G1 gR 9) (C1 77 K1 (X1 2))) (S1 (B1 3 (S1 (G1 gR 11) (S1 (S1 (G1 gR 12) (C1 117 (S1 (G1 gR 13) .ret) K1)) (S1 (G1 gR 14) (B1 4 (.loop (S1 (S1 (G1 gR 15) (C1 122 K1 (X1 4))) (S1 (B1 5 (S1 (G1 gR 17) (C1 132 (S1 (G1 gR 18) .ret) K1))) (G1 gR 16))))))))) (G1 gR 10)))))) (S1 (G1 gR 19) .ret))))):=kr
theorem akk:uH=(S1 (G1 uH 0) (B1 0 (.loop (S1 (G1 uH 1) (S1 (C1 12 K1 (X1 0)) (S1 (B1 1 (S1 (G1 uH 2) (S1 (G1 uH 3) (C1 22 .ret K1)))) (G1 uH 4))))))):=kr
theorem Aj:drawInfo (Z cV 20)=some [(0,6)]:=kr
theorem T9:cV=(S1 (G1 cV 0) (S1 (G1 cV 1) (S1 (S1 (G1 cV 2) (C1 19 (S1 (G1 cV 3) .ret) K1)) (S1 (G1 cV 4) (S1 (G1 cV 5) (S1 (S1 (G1 cV 6) (B1 0 (.rangeFunc (.tmp 31) #[32] (G1 cV 7) (B1 1 (S1 (G1 cV 8) (B1 2 (.loop (S1 (G1 cV 9) (S1 (C1 42 K1 (X1 2)) (S1 (B1 3 (S1 (G1 cV 10) (S1 (G1 cV 11) (B1 4 (.loop (S1 (S1 (G1 cV 12) (C1 64 K1 (X1 4))) (S1 (B1 5 (G2 cV 14)) (G1 cV 13)))))))) (G1 cV 15))))))))))) (S1 (S1 (G1 cV 16) (B1 6 (.loop (S1 (G1 cV 17) (S1 (C1 83 K1 (X1 6)) (S1 (B1 7 (S1 (G1 cV 18) (S1 (G1 cV 19) (G2 cV 20)))) (G1 cV 21))))))) (S1 (G1 cV 22) .ret)))))))):=kr
noncomputable def BH:T (Func×Code):=
 (.node none (.node none (.node (some (Tryz.f3,S9)) (.node (some (Tryz.f7,Tb)) (.node (some (Tryz.f15,gR)) (.node (some (Tryz.f31,PW)) (.node (some (Tryz.f63,Qv)) (.node (some (Tryz.f127,mX)) (.node (some (Tryz.f255,A5)) .leaf .leaf) .leaf) (.node (some (Tryz.f191,AN)) .leaf .leaf)) (.node (some (Tryz.f95,s5)) (.node (some (Tryz.f159,N8)) .leaf .leaf) (.node (some (Tryz.f223,OD)) .leaf .leaf))) (.node (some (Tryz.f47,Qk)) (.node (some (Tryz.f79,QD)) (.node (some (Tryz.f143,NZ)) .leaf .leaf) (.node (some (Tryz.f207,Oy)) .leaf .leaf)) (.node (some (Tryz.f111,NQ)) (.node (some (Tryz.f175,nO)) .leaf .leaf) (.node (some (Tryz.f239,yK)) .leaf .leaf)))) (.node (some (Tryz.f23,me)) (.node (some (Tryz.f39,cV)) (.node (some (Tryz.f71,Qy)) (.node (some (Tryz.f135,uy)) .leaf .leaf) (.node (some (Tryz.f199,uA)) .leaf .leaf)) (.node (some (Tryz.f103,NK)) (.node (some (Tryz.f167,Og)) .leaf .leaf) (.node (some (Tryz.f231,qp)) .leaf .leaf))) (.node (some (Tryz.f55,dz)) (.node (some (Tryz.f87,QH)) (.node (some (Tryz.f151,dX)) .leaf .leaf) (.node (some (Tryz.f215,l8)) .leaf .leaf)) (.node (some (Tryz.f119,AE)) (.node (some (Tryz.f183,Om)) .leaf .leaf) (.node (some (Tryz.f247,A3)) .leaf .leaf))))) (.node (some (Tryz.f11,PG)) (.node (some (Tryz.f19,PN)) (.node (some (Tryz.f35,P')) (.node (some (Tryz.f67,c9)) (.node (some (Tryz.f131,NX)) (.node (some (Tryz.f259,OM)) .leaf .leaf) .leaf) (.node (some (Tryz.f195,dP)) .leaf .leaf)) (.node (some (Tryz.f99,QN)) (.node (some (Tryz.f163,Od)) .leaf .leaf) (.node (some (Tryz.f227,AT)) .leaf .leaf))) (.node (some (Tryz.f51,fO)) (.node (some (Tryz.f83,QF)) (.node (some (Tryz.f147,pv)) .leaf .leaf) (.node (some (Tryz.f211,rS)) .leaf .leaf)) (.node (some (Tryz.f115,kK)) (.node (some (Tryz.f179,Oh)) .leaf .leaf) (.node (some (Tryz.f243,qt)) .leaf .leaf)))) (.node (some (Tryz.f27,PS)) (.node (some (Tryz.f43,Qg)) (.node (some (Tryz.f75,gS)) (.node (some (Tryz.f139,eM)) .leaf .leaf) (.node (some (Tryz.f203,Ou)) .leaf .leaf)) (.node (some (Tryz.f107,NN)) (.node (some (Tryz.f171,cJ)) .leaf .leaf) (.node (some (Tryz.f235,mY)) .leaf .leaf))) (.node (some (Tryz.f59,r6)) (.node (some (Tryz.f91,QJ)) (.node (some (Tryz.f155,AG)) .leaf .leaf) (.node (some (Tryz.f219,fp)) .leaf .leaf)) (.node (some (Tryz.f123,dV)) (.node (some (Tryz.f187,Oq)) .leaf .leaf) (.node (some (Tryz.f251,OL)) .leaf .leaf)))))) (.node (some (Tryz.f5,S')) (.node (some (Tryz.f9,Td)) (.node (some (Tryz.f17,PL)) (.node (some (Tryz.f33,PY)) (.node (some (Tryz.f65,cG)) (.node (some (Tryz.f129,NW)) (.node (some (Tryz.f257,A7)) .leaf .leaf) .leaf) (.node (some (Tryz.f193,AP)) .leaf .leaf)) (.node (some (Tryz.f97,mh)) (.node (some (Tryz.f161,Oa)) .leaf .leaf) (.node (some (Tryz.f225,OF)) .leaf .leaf))) (.node (some (Tryz.f49,Qm)) (.node (some (Tryz.f81,nT)) (.node (some (Tryz.f145,lu)) .leaf .leaf) (.node (some (Tryz.f209,OA)) .leaf .leaf)) (.node (some (Tryz.f113,NS)) (.node (some (Tryz.f177,AJ)) .leaf .leaf) (.node (some (Tryz.f241,OH)) .leaf .leaf)))) (.node (some (Tryz.f25,nR)) (.node (some (Tryz.f41,Qe)) (.node (some (Tryz.f73,QA)) (.node (some (Tryz.f137,j8)) .leaf .leaf) (.node (some (Tryz.f201,wz)) .leaf .leaf)) (.node (some (Tryz.f105,ux)) (.node (some (Tryz.f169,gP)) .leaf .leaf) (.node (some (Tryz.f233,AZ)) .leaf .leaf))) (.node (some (Tryz.f57,Qr)) (.node (some (Tryz.f89,Bo)) (.node (some (Tryz.f153,dg)) .leaf .leaf) (.node (some (Tryz.f217,pz)) .leaf .leaf)) (.node (some (Tryz.f121,df)) (.node (some (Tryz.f185,On)) .leaf .leaf) (.node (some (Tryz.f249,OJ)) .leaf .leaf))))) (.node (some (Tryz.f13,PI)) (.node (some (Tryz.f21,PQ)) (.node (some (Tryz.f37,Qb)) (.node (some (Tryz.f69,Qw)) (.node (some (Tryz.f133,wv)) .leaf .leaf) (.node (some (Tryz.f197,dK)) .leaf .leaf)) (.node (some (Tryz.f101,NH)) (.node (some (Tryz.f165,Of)) .leaf .leaf) (.node (some (Tryz.f229,AV)) .leaf .leaf))) (.node (some (Tryz.f53,Qp)) (.node (some (Tryz.f85,qB)) (.node (some (Tryz.f149,qn)) .leaf .leaf) (.node (some (Tryz.f213,rT)) .leaf .leaf)) (.node (some (Tryz.f117,NU)) (.node (some (Tryz.f181,Oj)) .leaf .leaf) (.node (some (Tryz.f245,sZ)) .leaf .leaf)))) (.node (some (Tryz.f29,PU)) (.node (some (Tryz.f45,Qi)) (.node (some (Tryz.f77,yV)) (.node (some (Tryz.f141,rP)) .leaf .leaf) (.node (some (Tryz.f205,Ow)) .leaf .leaf)) (.node (some (Tryz.f109,NP)) (.node (some (Tryz.f173,l7)) .leaf .leaf) (.node (some (Tryz.f237,A0)) .leaf .leaf))) (.node (some (Tryz.f61,uH)) (.node (some (Tryz.f93,QK)) (.node (some (Tryz.f157,N7)) .leaf .leaf) (.node (some (Tryz.f221,jL)) .leaf .leaf)) (.node (some (Tryz.f125,eZ)) (.node (some (Tryz.f189,yH)) .leaf .leaf) (.node (some (Tryz.f253,l9)) .leaf .leaf))))))) (.node none (.node (some (Tryz.f4,te)) (.node (some (Tryz.f8,Tc)) (.node (some (Tryz.f16,PK)) (.node (some (Tryz.f32,PX)) (.node (some (Tryz.f64,nS)) (.node (some (Tryz.f128,jJ)) (.node (some (Tryz.f256,A6)) .leaf .leaf) .leaf) (.node (some (Tryz.f192,AO)) .leaf .leaf)) (.node (some (Tryz.f96,Bp)) (.node (some (Tryz.f160,N9)) .leaf .leaf) (.node (some (Tryz.f224,OE)) .leaf .leaf))) (.node (some (Tryz.f48,Ql)) (.node (some (Tryz.f80,QE)) (.node (some (Tryz.f144,N2)) .leaf .leaf) (.node (some (Tryz.f208,Oz)) .leaf .leaf)) (.node (some (Tryz.f112,NR)) (.node (some (Tryz.f176,wy)) .leaf .leaf) (.node (some (Tryz.f240,yL)) .leaf .leaf)))) (.node (some (Tryz.f24,mf)) (.node (some (Tryz.f40,Qd)) (.node (some (Tryz.f72,Qz)) (.node (some (Tryz.f136,ww)) .leaf .leaf) (.node (some (Tryz.f200,AR)) .leaf .leaf)) (.node (some (Tryz.f104,NL)) (.node (some (Tryz.f168,rR)) .leaf .leaf) (.node (some (Tryz.f232,AY)) .leaf .leaf))) (.node (some (Tryz.f56,mg)) (.node (some (Tryz.f88,QI)) (.node (some (Tryz.f152,N6)) .leaf .leaf) (.node (some (Tryz.f216,yI)) .leaf .leaf)) (.node (some (Tryz.f120,de)) (.node (some (Tryz.f184,AK)) .leaf .leaf) (.node (some (Tryz.f248,OI)) .leaf .leaf))))) (.node (some (Tryz.f12,PH)) (.node (some (Tryz.f20,PO)) (.node (some (Tryz.f36,Qa)) (.node (some (Tryz.f68,qz)) (.node (some (Tryz.f132,pu)) (.node (some (Tryz.f260,qv)) .leaf .leaf) .leaf) (.node (some (Tryz.f196,kL)) .leaf .leaf)) (.node (some (Tryz.f100,NG)) (.node (some (Tryz.f164,Oe)) .leaf .leaf) (.node (some (Tryz.f228,AU)) .leaf .leaf))) (.node (some (Tryz.f52,Qo)) (.node (some (Tryz.f84,uI)) (.node (some (Tryz.f148,uz)) .leaf .leaf) (.node (some (Tryz.f212,AS)) .leaf .leaf)) (.node (some (Tryz.f116,qj)) (.node (some (Tryz.f180,Oi)) .leaf .leaf) (.node (some (Tryz.f244,A2)) .leaf .leaf)))) (.node (some (Tryz.f28,PT)) (.node (some (Tryz.f44,Qh)) (.node (some (Tryz.f76,qA)) (.node (some (Tryz.f140,dW)) .leaf .leaf) (.node (some (Tryz.f204,Ov)) .leaf .leaf)) (.node (some (Tryz.f108,NO)) (.node (some (Tryz.f172,fc)) .leaf .leaf) (.node (some (Tryz.f236,qq)) .leaf .leaf))) (.node (some (Tryz.f60,Qt)) (.node (some (Tryz.f92,qC)) (.node (some (Tryz.f156,AH)) .leaf .leaf) (.node (some (Tryz.f220,ja)) .leaf .leaf)) (.node (some (Tryz.f124,rQ)) (.node (some (Tryz.f188,Ot)) .leaf .leaf) (.node (some (Tryz.f252,qu)) .leaf .leaf)))))) (.node (some (Tryz.f6,Ta)) (.node (some (Tryz.f10,PF)) (.node (some (Tryz.f18,PM)) (.node (some (Tryz.f34,PZ)) (.node (some (Tryz.f66,pC)) (.node (some (Tryz.f130,ql)) (.node (some (Tryz.f258,uC)) .leaf .leaf) .leaf) (.node (some (Tryz.f194,AQ)) .leaf .leaf)) (.node (some (Tryz.f98,QM)) (.node (some (Tryz.f162,Oc)) .leaf .leaf) (.node (some (Tryz.f226,OG)) .leaf .leaf))) (.node (some (Tryz.f50,Qn)) (.node (some (Tryz.f82,Bn)) (.node (some (Tryz.f146,nN)) .leaf .leaf) (.node (some (Tryz.f210,OB)) .leaf .leaf)) (.node (some (Tryz.f114,NT)) (.node (some (Tryz.f178,px)) .leaf .leaf) (.node (some (Tryz.f242,uB)) .leaf .leaf)))) (.node (some (Tryz.f26,PR)) (.node (some (Tryz.f42,Qf)) (.node (some (Tryz.f74,QB)) (.node (some (Tryz.f138,AF)) .leaf .leaf) (.node (some (Tryz.f202,py)) .leaf .leaf)) (.node (some (Tryz.f106,NM)) (.node (some (Tryz.f170,AI)) .leaf .leaf) (.node (some (Tryz.f234,wA)) .leaf .leaf))) (.node (some (Tryz.f58,Qs)) (.node (some (Tryz.f90,hP)) (.node (some (Tryz.f154,eN)) .leaf .leaf) (.node (some (Tryz.f218,yJ)) .leaf .leaf)) (.node (some (Tryz.f122,qk)) (.node (some (Tryz.f186,Oo)) .leaf .leaf) (.node (some (Tryz.f250,OK)) .leaf .leaf))))) (.node (some (Tryz.f14,PJ)) (.node (some (Tryz.f22,Bm)) (.node (some (Tryz.f38,Qc)) (.node (some (Tryz.f70,Qx)) (.node (some (Tryz.f134,qm)) .leaf .leaf) (.node (some (Tryz.f198,gQ)) .leaf .leaf)) (.node (some (Tryz.f102,NI)) (.node (some (Tryz.f166,wx)) .leaf .leaf) (.node (some (Tryz.f230,AX)) .leaf .leaf))) (.node (some (Tryz.f54,Qq)) (.node (some (Tryz.f86,QG)) (.node (some (Tryz.f150,N5)) .leaf .leaf) (.node (some (Tryz.f214,jK)) .leaf .leaf)) (.node (some (Tryz.f118,NV)) (.node (some (Tryz.f182,Ol)) .leaf .leaf) (.node (some (Tryz.f246,rU)) .leaf .leaf)))) (.node (some (Tryz.f30,PV)) (.node (some (Tryz.f46,Qj)) (.node (some (Tryz.f78,QC)) (.node (some (Tryz.f142,NY)) .leaf .leaf) (.node (some (Tryz.f206,Ox)) .leaf .leaf)) (.node (some (Tryz.f110,qi)) (.node (some (Tryz.f174,pw)) .leaf .leaf) (.node (some (Tryz.f238,A1)) .leaf .leaf))) (.node (some (Tryz.f62,Qu)) (.node (some (Tryz.f94,QL)) (.node (some (Tryz.f158,qo)) .leaf .leaf) (.node (some (Tryz.f222,OC)) .leaf .leaf)) (.node (some (Tryz.f126,l6)) (.node (some (Tryz.f190,AM)) .leaf .leaf) (.node (some (Tryz.f254,A4)) .leaf .leaf))))))))
def ER(p:Nat->Func×Code->Prop):(Nat->Nat)->T (Func×Code)->Prop
 |_,.leaf=>True
 |g,.node v l r=>(∀ a,v=some a->p (g 0) a)/\ER p (fun i=>g (2*i+1)) l/\ER p (fun i=>g (2*i+2)) r
theorem GY{p:Nat->Func×Code->Prop}:∀ {t:T (Func×Code)} {g:Nat->Nat},ER p g t->∀ i a,t.get i=some a->p (g i) a
 | .leaf,_,_,i,a,h=>by cases h
 | .node v l r,g,⟨h1,h2,h3⟩,i,a,h=>by
  rw[T.sT] at h;by_cases h0:i=0
  .subst h0;exact h1 a (by simpa using h)
  .rw[if_neg h0] at h;by_cases C:i % 2=1
   .rw[if_pos C] at h;have:=GY h2 _ a h;have e:2*(i / 2)+1=i:=by omega
    simpa only[e] using this
   .rw[if_neg C] at h;have:=GY h3 _ a h;have e:2*(i / 2 - 1)+2=i:=by omega
    simpa only[e] using this
theorem e0{p:Func×Code->Prop}:∀ a,(none:Option (Func×Code))=some a->p a:=fun _ h=>by cases h
theorem e1{i:Nat}{fn:Func}{c:Code}(h:pI prog i fn c):∀ a,some (fn,c)=some a->pI prog i a.1 a.2:=fun _ e=>by cases e;exact h
theorem aaW:ER (fun i a=>pI prog i a.1 a.2) (fun i=>i) BH:=
 ⟨e0,⟨e0,⟨e1 ok3,⟨e1 ok7,⟨e1 T5,⟨e1 alG,⟨e1 al6,⟨e1 SR,⟨e1 Sf,trivial,trivial⟩,trivial⟩,⟨e1 RO,trivial,trivial⟩⟩,⟨e1 TM,⟨e1 ahM,trivial,trivial⟩,⟨e1 aib,trivial,trivial⟩⟩⟩,⟨e1 alV,⟨e1 amd,⟨e1 ahH,trivial,trivial⟩,⟨e1 ah7,trivial,trivial⟩⟩,⟨e1 ahy,⟨e1 SY,trivial,trivial⟩,⟨e1 Ij,trivial,trivial⟩⟩⟩⟩,⟨e1 Jb,⟨e1 Ub,⟨e1 al9,⟨e1 RT,trivial,trivial⟩,⟨e1 RB,trivial,trivial⟩⟩,⟨e1 ahs,⟨e1 ahT,trivial,trivial⟩,⟨e1 H6,trivial,trivial⟩⟩⟩,⟨e1 Un,⟨e1 amh,⟨e1 Ry,trivial,trivial⟩,⟨e1 So,trivial,trivial⟩⟩,⟨e1 Ri,⟨e1 ahY,trivial,trivial⟩,⟨e1 Ru,trivial,trivial⟩⟩⟩⟩⟩,⟨e1 alq,⟨e1 aly,⟨e1 alK,⟨e1 UA,⟨e1 ahF,⟨e1 ail,trivial,trivial⟩,trivial⟩,⟨e1 SP,trivial,trivial⟩⟩,⟨e1 amn,⟨e1 ahQ,trivial,trivial⟩,⟨e1 Rv,trivial,trivial⟩⟩⟩,⟨e1 I5,⟨e1 amf,⟨e1 S5,trivial,trivial⟩,⟨e1 Sk,trivial,trivial⟩⟩,⟨e1 RV,⟨e1 ahU,trivial,trivial⟩,⟨e1 Rm,trivial,trivial⟩⟩⟩⟩,⟨e1 alC,⟨e1 alR,⟨e1 Ur,⟨e1 SX,trivial,trivial⟩,⟨e1 ah3,trivial,trivial⟩⟩,⟨e1 ahv,⟨e1 Iq,trivial,trivial⟩,⟨e1 R9,trivial,trivial⟩⟩⟩,⟨e1 Jl,⟨e1 amj,⟨e1 RA,trivial,trivial⟩,⟨e1 Sx,trivial,trivial⟩⟩,⟨e1 SC,⟨e1 ah1,trivial,trivial⟩,⟨e1 aik,trivial,trivial⟩⟩⟩⟩⟩⟩,⟨e1 ok5,⟨e1 ok9,⟨e1 alw,⟨e1 alI,⟨e1 TZ,⟨e1 ahE,⟨e1 Sd,trivial,trivial⟩,trivial⟩,⟨e1 RM,trivial,trivial⟩⟩,⟨e1 TG,⟨e1 ahO,trivial,trivial⟩,⟨e1 aid,trivial,trivial⟩⟩⟩,⟨e1 alX,⟨e1 Uw,⟨e1 Sy,trivial,trivial⟩,⟨e1 ah9,trivial,trivial⟩⟩,⟨e1 ahA,⟨e1 RW,trivial,trivial⟩,⟨e1 aif,trivial,trivial⟩⟩⟩⟩,⟨e1 Jk,⟨e1 alP,⟨e1 ama,⟨e1 S2,trivial,trivial⟩,⟨e1 Rz,trivial,trivial⟩⟩,⟨e1 SZ,⟨e1 SE,trivial,trivial⟩,⟨e1 Ih,trivial,trivial⟩⟩⟩,⟨e1 al2,⟨e1 TC,⟨e1 RQ,trivial,trivial⟩,⟨e1 Il,trivial,trivial⟩⟩,⟨e1 SV,⟨e1 ahZ,trivial,trivial⟩,⟨e1 aii,trivial,trivial⟩⟩⟩⟩⟩,⟨e1 als,⟨e1 alA,⟨e1 alM,⟨e1 al7,⟨e1 RS,trivial,trivial⟩,⟨e1 RG,trivial,trivial⟩⟩,⟨e1 ahq,⟨e1 ahS,trivial,trivial⟩,⟨e1 RI,trivial,trivial⟩⟩⟩,⟨e1 al0,⟨e1 TU,⟨e1 R7,trivial,trivial⟩,⟨e1 Sl,trivial,trivial⟩⟩,⟨e1 ahC,⟨e1 ahW,trivial,trivial⟩,⟨e1 Rn,trivial,trivial⟩⟩⟩⟩,⟨e1 alE,⟨e1 alT,⟨e1 Uv,⟨e1 RX,trivial,trivial⟩,⟨e1 ah5,trivial,trivial⟩⟩,⟨e1 ahx,⟨e1 SQ,trivial,trivial⟩,⟨e1 R5,trivial,trivial⟩⟩⟩,⟨e1 T7,⟨e1 amk,⟨e1 ahL,trivial,trivial⟩,⟨e1 SI,trivial,trivial⟩⟩,⟨e1 SA,⟨e1 Si,trivial,trivial⟩,⟨e1 R8,trivial,trivial⟩⟩⟩⟩⟩⟩⟩,⟨e0,⟨e1 V6,⟨e1 ok8,⟨e1 alv,⟨e1 alH,⟨e1 Jj,⟨e1 SD,⟨e1 R4,trivial,trivial⟩,trivial⟩,⟨e1 Rg,trivial,trivial⟩⟩,⟨e1 TH,⟨e1 ahN,trivial,trivial⟩,⟨e1 aic,trivial,trivial⟩⟩⟩,⟨e1 alW,⟨e1 ame,⟨e1 ahI,trivial,trivial⟩,⟨e1 ah8,trivial,trivial⟩⟩,⟨e1 ahz,⟨e1 R2,trivial,trivial⟩,⟨e1 Sr,trivial,trivial⟩⟩⟩⟩,⟨e1 UG,⟨e1 alO,⟨e1 al',⟨e1 RZ,trivial,trivial⟩,⟨e1 Rj,trivial,trivial⟩⟩,⟨e1 aht,⟨e1 R3,trivial,trivial⟩,⟨e1 RJ,trivial,trivial⟩⟩⟩,⟨e1 Ui,⟨e1 ami,⟨e1 ahK,trivial,trivial⟩,⟨e1 Sp,trivial,trivial⟩⟩,⟨e1 SL,⟨e1 Rw,trivial,trivial⟩,⟨e1 aih,trivial,trivial⟩⟩⟩⟩⟩,⟨e1 alr,⟨e1 alz,⟨e1 alL,⟨e1 Ux,⟨e1 R0,⟨e1 H8,trivial,trivial⟩,trivial⟩,⟨e1 Ss,trivial,trivial⟩⟩,⟨e1 ahp,⟨e1 ahR,trivial,trivial⟩,⟨e1 Rf,trivial,trivial⟩⟩⟩,⟨e1 alZ,⟨e1 TS,⟨e1 S4,trivial,trivial⟩,⟨e1 Sj,trivial,trivial⟩⟩,⟨e1 R6,⟨e1 ahV,trivial,trivial⟩,⟨e1 SW,trivial,trivial⟩⟩⟩⟩,⟨e1 alD,⟨e1 alS,⟨e1 Uh,⟨e1 S0,trivial,trivial⟩,⟨e1 ah4,trivial,trivial⟩⟩,⟨e1 ahw,⟨e1 SK,trivial,trivial⟩,⟨e1 Ik,trivial,trivial⟩⟩⟩,⟨e1 al4,⟨e1 Ug,⟨e1 Rp,trivial,trivial⟩,⟨e1 SH,trivial,trivial⟩⟩,⟨e1 Sz,⟨e1 ah2,trivial,trivial⟩,⟨e1 H5,trivial,trivial⟩⟩⟩⟩⟩⟩,⟨e1 ok6,⟨e1 alp,⟨e1 alx,⟨e1 alJ,⟨e1 TP,⟨e1 H9,⟨e1 Rt,trivial,trivial⟩,trivial⟩,⟨e1 RL,trivial,trivial⟩⟩,⟨e1 amm,⟨e1 ahP,trivial,trivial⟩,⟨e1 aie,trivial,trivial⟩⟩⟩,⟨e1 alY,⟨e1 TO,⟨e1 SB,trivial,trivial⟩,⟨e1 ah',trivial,trivial⟩⟩,⟨e1 ahB,⟨e1 Rx,trivial,trivial⟩,⟨e1 Rk,trivial,trivial⟩⟩⟩⟩,⟨e1 alB,⟨e1 alQ,⟨e1 amb,⟨e1 R1,trivial,trivial⟩,⟨e1 Rq,trivial,trivial⟩⟩,⟨e1 ahu,⟨e1 Sm,trivial,trivial⟩,⟨e1 Ii,trivial,trivial⟩⟩⟩,⟨e1 al3,⟨e1 zk,⟨e1 RP,trivial,trivial⟩,⟨e1 Sq,trivial,trivial⟩⟩,⟨e1 Ip,⟨e1 ah0,trivial,trivial⟩,⟨e1 aij,trivial,trivial⟩⟩⟩⟩⟩,⟨e1 alu,⟨e1 Ut,⟨e1 alN,⟨e1 al8,⟨e1 RU,trivial,trivial⟩,⟨e1 RC,trivial,trivial⟩⟩,⟨e1 ahr,⟨e1 Sg,trivial,trivial⟩,⟨e1 RN,trivial,trivial⟩⟩⟩,⟨e1 al1,⟨e1 amg,⟨e1 ahJ,trivial,trivial⟩,⟨e1 Sv,trivial,trivial⟩⟩,⟨e1 ahD,⟨e1 ahX,trivial,trivial⟩,⟨e1 Rr,trivial,trivial⟩⟩⟩⟩,⟨e1 alF,⟨e1 alU,⟨e1 amc,⟨e1 ahG,trivial,trivial⟩,⟨e1 ah6,trivial,trivial⟩⟩,⟨e1 Ig,⟨e1 RY,trivial,trivial⟩,⟨e1 Se,trivial,trivial⟩⟩⟩,⟨e1 al5,⟨e1 aml,⟨e1 H7,trivial,trivial⟩,⟨e1 aia,trivial,trivial⟩⟩,⟨e1 SU,⟨e1 RK,trivial,trivial⟩,⟨e1 Rh,trivial,trivial⟩⟩⟩⟩⟩⟩⟩⟩
theorem HA(f:FuncId)(fn:Func)(c:Code)(h:BH.get f=some (fn,c)):pI prog f fn c:=GY aaW f (fn,c) h
end Go.Proofs.Tryz.K
