/- Part 2 of the proof; the last part says what is proved. -/
import Derived.Test.YtonoegleildfnaaGreatOrders1
import Derived.IntWalk
import Derived.ProofKit
import Derived.RangeFuncRecord
import Derived.Scope
import Derived.Test.YtonoegleildfnaaGreatChecked
import Derived.Test.YtonoegleildfnaaGreatProg
namespace Go.Abs
section
variable{P:Program}{F:Nat->Prop}
theorem Ht{β β':Pla}{w:World}{m:Mem}(hm:MSim P F m β w){i:Nat}{cs:List D}{e:TypeId}(av:m i=some (.cells cs e))(hβ:β'=up β i (some .dead)){d:D}{v:Value}(h:R F β w d v):
 R F β' w (fz0 i cs (P.cellsOf e) d) v:=by
 have hs:Step β w β' w:=by rw[hβ];exact step_dead β w i
 have M:=h.step hs;obtain⟨p,hp,hr⟩:=hm.row i _ av;unfold fz0;split
 .rename_i j off n;split
  .rename_i X;subst X;cases h with
   |rsd _ _ _ _ h1 _=>
    rw[h1] at hp;cases hp;cases hr
   |rsn _ a h1=>
    rw[h1] at hp;cases hp;cases hr;simp only[List.drop_nil,List.take_nil];exact .sln a 0
   |rsz _ _ a b o len room sz h1=>
    simp only[Nat.zero_mul,List.take_zero];exact .sln a 0
   |rs _ _ _ cap b o len room sz h1 hn dZ h2 h3=>
    rw[h1] at hp;cases hp;have J:β j=some (.cells b o len room sz):=h1;obtain⟨U,hl,bN,_⟩:=hr.rd;have Xj:=(U.drop off).take (n*P.cellsOf e);obtain⟨us,u1,u2⟩:=Xj;refine .sl _ n b (o+off) cap us (hm.nf j _ b J rfl) ?_ (hm.lt j _ b J rfl) hn dZ u1 fun k d hk=>(u2 k d hk).step hs;rw[hβ];intro k q hq;by_cases C:k=j
    .subst C;rw[up_same] at hq;cases hq;simp[Pl.blk]
    .rw[up_ne _ _ C] at hq;exact hm.free_other J rfl hq C
  .exact M
 .rename_i j off;split
  .rename_i X;subst X;cases h with
   |rpd _ _ _ h1 _=>
    rw[h1] at hp;cases hp;cases hr
   |rp _ _ b o len room sz h1=>
    rw[h1] at hp;cases hp;obtain⟨U,hl,bN,_⟩:=hr.rd;obtain⟨us,u1,u2⟩:=U.drop off;refine .pt _ b (o+off) us (hm.nf j _ b h1 rfl) ?_ (hm.lt j _ b h1 rfl) u1 fun k d hk=>(u2 k d hk).step hs;rw[hβ];intro k q hq;by_cases C:k=j
    .subst C;rw[up_same] at hq;cases hq;simp[Pl.blk]
    .rw[up_ne _ _ C] at hq;exact hm.free_other h1 rfl hq C
  .exact M
 .exact M
theorem Q3{β β':Pla}{w:World}{m:Mem}(hm:MSim P F m β w){i:Nat}{es:List (Value×D)}(av:m i=some (.map es))(U:β'=up β i (some .dead)){d:D}{v:Value}(h:R F β w d v):R F β' w (fm0 i es d) v:=by
 have J:Step β w β' w:=by rw[U];exact step_dead β w i
 unfold fm0;split
 .rename_i j;split
  .rename_i X;subst X;obtain⟨r,ms,clock,h1,rfl,h3,h4,h5,M⟩:=h.mp_inv hm av;refine .im es r ms clock (hm.nf j _ r h1 rfl) ?_ h3 h4 h5 (fun k x m hx hm=>(M k x m hx hm).1) fun k x m hx hm=>(M k x m hx hm).2.step J;rw[U];intro k q hq;by_cases C:k=j
   .subst C;rw[up_same] at hq;cases hq;simp[Pl.blk]
   .rw[up_ne _ _ C] at hq;exact hm.free_other h1 rfl hq C
  .exact h.step J
 .exact h.step J
section subst
variable{σ:D->D}{β β':Pla}{w:World}
theorem GP(C:∀ {d v},R F β w d v->R F β' w (σ d) v){d:D}{v:Value}(h:R F β w d v):R F β' w (sub1 σ d) v:=by
 unfold sub1;split
 .rename_i ds;obtain⟨vs,rfl,hl,J⟩:=h.agg_inv;refine .agg _ vs (by simpa using hl) fun k d v hd hv=>?_;simp only[List.getElem?_map,cK] at hd;obtain⟨d',M,rfl⟩:=hd;exact C (J k d' v M hv)
 .cases h with
  |opt c d _ h1 h2=>exact .opt _ _ v (fun hc=>C (h1 hc)) h2
 .exact C h
theorem Ct(J:∀ {d v},R F β w d v->R F β' w (σ d) v){d:D}{v:Value}(h:R F β w d v):R F β' w (sub σ d) v:=by
 have map:∀ (ds:List D) (vs:List Value),(∀ (k:Nat) (d:D) (v:Value),ds[k]? =some d->vs[k]? =some v->R F β w d v)->
  ∀ (k:Nat) (d:D) (v:Value),(ds.map (sub1 σ))[k]? =some d->vs[k]? =some v->R F β' w d v:=fun ds vs C k d v hd hv=>by
  simp only[List.getElem?_map,cK] at hd;obtain⟨d',M,rfl⟩:=hd;exact GP J (C k d' v M hv)
 unfold sub;split
 .rename_i ds;obtain⟨vs,rfl,hl,C⟩:=h.tup_inv;exact .tup _ vs (by simpa using hl) (map ds vs C)
 .rename_i f fs ds;cases h with
  |fn _ _ _ us vs hl jy h1 h2=>exact .fn f _ _ us vs (by simpa using hl) (by simpa using jy) (map fs us h1) (map ds vs h2)
 .exact GP J h
theorem Sg(M:∀ {d v},R F β w d v->R F β' w (σ d) v)(X:Step β w β' w){r:Row}{p:Pl}(h:RowR P F β w r p):RowR P F β' w (r.sub σ) p:=by
 cases h with
 |nil C=>exact .nil C
 |cells ds C b o room sz c hc hr hlen bN J=>
  have:=RowR.cells (P:=P) (F:=F) (β:=β') (w:=w) (ds.map (Abs.sub σ)) C b o room sz c hc hr (by simpa using hlen) bN fun k d hk=>by
   simp only[List.getElem?_map,cK] at hk;obtain⟨d',oF,rfl⟩:=hk;obtain⟨v,h1,h2,h3⟩:=J k d' oF;exact⟨v,h1,Ct M h2,h3⟩
  simpa[Row.sub] using this
 |map es r ms clock hc hl de J=>
  refine .map _ r ms clock hc (by simpa using hl) (by simpa[List.map_map,Function.comp_def] using de) fun k x mm hk U=>?_;simp only[List.getElem?_map,cK] at hk;obtain⟨x',tZ,rfl⟩:=hk;obtain⟨h1,h2⟩:=J k x' mm tZ U;exact⟨h1,Ct M h2⟩
 |raw r o hc=>exact .raw r o hc
 |ren f r _ F₂ h1 h2 h=>exact(RowR.ren f r p F₂ h1 h2 h).step X fun _ _=>rfl
end subst
theorem Gn{σ:D->D}{env:Env}{m:Mem}{nx i:Nat}{row:Row}(h:m i=some row){w:World}{a:Act}{β:Pla}(J:dX P F ⟨env,m,nx⟩ β w a)(X:∀ {d v},R F β w d v->R F (up β i (some .dead)) w (σ d) v):
 ∃ β',dX P F ⟨fun t=>sub σ (env t),fun j=>if j=i then none else(m j).map (Row.sub σ),nx⟩ β' w a/\fT nx β w a ⟨fun t=>sub σ (env t),fun j=>if j=i then none else(m j).map (Row.sub σ),nx⟩ β' w a:=by
 have U:=step_dead β w i;have hm:=J.m;simp only at hm
 have M:∀ j q b,up β i (some .dead) j=some q->q.blk=some b->j≠i/\β j=some q:=fun j q b hq e=>by
  by_cases hj:j=i
  .subst hj;rw[up_same] at hq;cases hq;simp[Pl.blk] at e
  .rw[up_ne _ _ hj] at hq;exact⟨hj,hq⟩
 have hi:∃ p,β i=some p:=by
  obtain⟨p,hp,_⟩:=hm.row i _ h;exact⟨p,hp⟩
 refine⟨up β i (some .dead),⟨fun t=>Ct X (J.e t),⟨fun j r hj=>?_,fun j k q q' b hq fF e1 e2=>hm.inj j k q q' b (M j q b hq e1).2 (M k q' b fF e2).2 e1 e2,
  fun j q b hq e1=>hm.lt j q b (M j q b hq e1).2 e1,fun j q b hq e1=>hm.nf j q b (M j q b hq e1).2 e1,hm.fb⟩,fun j hj=>?_⟩,⟨U,bE _,fun j hj hn=>?_,rfl,rfl⟩⟩
 .simp only at hj;by_cases C:j=i
  .rw[if_pos C] at hj;cases hj
  .rw[if_neg C] at hj;simp only[cK] at hj;obtain⟨r',gC,rfl⟩:=hj;obtain⟨q,hq,av⟩:=hm.row j r' gC;exact⟨q,by rw[up_ne _ _ C];exact hq,Sg X U av⟩
 .have C:j≠i:=fun e1=>by
   subst e1;obtain⟨p,hp⟩:=hi;rw[J.n j hj] at hp;cases hp
  rw[up_ne _ _ C];exact J.n j hj
 .have C:j≠i:=fun e1=>by
   subst e1;obtain⟨p,hp⟩:=hi;rw[hn] at hp;cases hp
  rw[up_ne _ _ C];exact hn
theorem Q4{β:Pla}{w:World}{cs cs':List D}{e:TypeId}{p:Pl}(hl:cs'.length=cs.length)(M:∀ (k:Nat) (d d':D),cs[k]? =some d->cs'[k]? =some d'->Wk d d')(h:RowR P F β w (.cells cs e) p):RowR P F β w (.cells cs' e) p:=by
 cases h with
 |nil _=>
  have:cs'=[]:=List.length_eq_zero_iff.1 (by simpa using hl);subst this;exact .nil e
 |cells _ _ b o room sz c hc hr hlen bN J=>
  rw[<- hl];refine .cells cs' e b o room sz c hc hr oG bN fun k d' C=>?_;have hk:k<cs.length:=by rw[<- hl];exact(bA.1 C).1
  obtain⟨v,h1,h2,h3⟩:=J k cs[k] (by simp[hk]);exact⟨v,h1,M k cs[k] d' (by simp[hk]) C _ _ _ _ h2,h3⟩
theorem Gp{st st':St}(h:Ghost P st st'){w:World}{a:Act}:∀ {β:Pla},dX P F st β w a->∃ β',dX P F st' β' w a/\fT st.nx β w a st' β' w a:=by
 induction h with
 |refl st=>exact fun {β} C=>⟨β,C,fT.refl st β w a⟩
 |trans _ _ ZZ Z0=>
  intro β C;obtain⟨β₁,h1,h2⟩:=ZZ C;obtain⟨β₂,h3,h4⟩:=Z0 h1;exact⟨β₂,h3,h2.trans h4⟩
 |forget env env' m nx h=>
  intro β C;refine⟨β,⟨fun t=>?_,C.m,C.n⟩,⟨Step.refl β w,bE _,fun _ _ h=>h,rfl,rfl⟩⟩;rcases h t with h1|h1
  .simp only[h1];exact C.e t
  .simp only[h1];exact .u _
 |drop env m m' nx h=>
  intro β C;refine⟨β,⟨C.e,⟨fun i r hi=>?_,C.m.inj,C.m.lt,C.m.nf,C.m.fb⟩,C.n⟩,⟨Step.refl β w,bE _,fun _ _ h=>h,rfl,rfl⟩⟩;rcases h i with h1|h1
  .exact C.m.row i r (h1.symm.trans hi)
  .simp only at hi;rw[h1] at hi;cases hi
 |weak env env' m m' nx h ef=>
  intro β C;refine⟨β,⟨fun t=>h t _ _ _ _ (C.e t),⟨fun i r hi=>?_,C.m.inj,C.m.lt,C.m.nf,C.m.fb⟩,C.n⟩,⟨Step.refl β w,bE _,fun _ _ h=>h,rfl,rfl⟩⟩;rcases ef i with h1|⟨cs,cs',e,h1,h2,h3,h4⟩
  .exact C.m.row i r (h1.symm.trans hi)
  .simp only at hi;rw[h2] at hi;cases hi;obtain⟨p,hp,hr⟩:=C.m.row i _ h1;exact⟨p,hp,Q4 h3 h4 hr⟩
 |freeze env m nx i cs e h=>
  intro β C;exact Gn h C fun hr=>Ht C.m h rfl hr
 |freezeM env m nx i es h=>
  intro β C;exact Gn h C fun hr=>Q3 C.m h rfl hr
 |nilrow env m nx t e h=>
  intro β C;have hm:=C.m;have hn:β nx=none:=C.n nx (bE _);simp only at hm
  have J:∀ j q b,up β nx (some .nil) j=some q->q.blk=some b->j≠nx/\β j=some q:=fun j q b hq e=>by
   by_cases hj:j=nx
   .subst hj;rw[up_same] at hq;cases hq;simp[Pl.blk] at e
   .rw[up_ne _ _ hj] at hq;exact⟨hj,hq⟩
  have M:Step β w (up β nx (some .nil)) w:=by
   refine⟨bE _,fun b _ hf=>⟨rfl,fun j q hq e1=>?_⟩,fun j q hq=>.inl ?_,rfl,rfl⟩
   .exact hf j q (J j q b hq e1).2 e1
   .rw[up_ne _ _ (fun e1=>by rw[e1,hn] at hq;cases hq)];exact hq
  refine⟨up β nx (some .nil),⟨fun u=>?_,⟨fun j r hj=>?_,fun j k q q' b hq fF e1 e2=>hm.inj j k q q' b (J j q b hq e1).2 (J k q' b fF e2).2 e1 e2,
   fun j q b hq e1=>hm.lt j q b (J j q b hq e1).2 e1,fun j q b hq e1=>hm.nf j q b (J j q b hq e1).2 e1,hm.fb⟩,fun j hj=>?_⟩,⟨M,Nat.le_succ _,fun j hj hb=>?_,rfl,rfl⟩⟩
  .by_cases X:u=t
   .subst X;have h1:=C.e u;simp only at h1;rw[h] at h1;obtain⟨x,hx⟩:=h1.z_inv;simp only[up_same,hx];exact .rsn nx x (up_same _ _ _)
   .simp only[up_ne _ _ X];exact(C.e u).step M
  .simp only at hj;by_cases U:j=nx
   .subst U;rw[up_same] at hj;cases hj;exact⟨.nil,up_same _ _ _,.nil e⟩
   .rw[up_ne _ _ U] at hj;obtain⟨q,hq,av⟩:=hm.row j r hj;exact⟨q,by rw[up_ne _ _ U];exact hq,av.step M fun _ _=>rfl⟩
  .simp only at hj;rw[up_ne _ _ (show j≠nx by omega)];exact C.n j (by simp only;omega)
  .simp only at hj;rw[up_ne _ _ (show j≠nx by omega)];exact hb
def iy(N:Nat):Code->Bool
 | .region _ ops _=>tC N ops
 | .seq a b=>iy N a&&iy N b
 | .cond _ a b=>iy N a&&iy N b
 | .block _ b=>iy N b
 | .loop b=>iy N b
 | .scope b=>iy N b
 | .rangeFunc _ ps a b=>(ps.toList.all fun t=>Nat.blt t N)&&(iy N a&&iy N b)
 |_=>true
theorem OC{Fc:Fence}{n:Nat}{Q:Exit->Act->World->Prop}{c:Code}(J:Nat->Act->World->Prop){j₀:Nat}{a:Act}{w:World}(h₀:J j₀ a w)
 (round:∀ j a w,J j a w->c.wpIn Fc n P (Exit.then (fun a' w'=>∃ X,X<j/\J X a' w') Q) a w):(Code.loop c).wpIn Fc n P Q a w:=by
 intro b k cs E3 hb hr
 have key:∀ j a w,J j a w->
  ∃ e a' w',Q e a' w'/\ArrivesIn (Machine.fenced P Fc) P (lone (b.atR a (.code c::.inLoop c::k)) cs w) b k cs e a' w':=by
  intro j
  induction j using Nat.strongRecOn with
  |_ j ih=>
   intro a w hI;obtain⟨e,M,U,hq,C⟩:=round j a w hI b (.inLoop c::k) cs E3 hb hr;cases e with
   |normal=>
    obtain⟨X,al,Z1⟩:=hq;obtain⟨e₂,a₂,w₂,Z2,T0⟩:=ih X al M U Z1;exact⟨e₂,a₂,w₂,Z2,.of_steps (StepsIn.trans C (.one (fenced_calm hb hr rfl) stepR_inLoop)) T0⟩
   |exit id=>exact⟨_,M,U,hq,.pass (x:=.inLoop c) rfl (fun _ _=>.inl oS) C⟩
   |goto l=>exact⟨_,M,U,hq,.pass (x:=.inLoop c) rfl (fun _ _=>.inl oS) C⟩
   |ret=>exact⟨_,M,U,hq,.pass (x:=.inLoop c) rfl (fun _ _=>.inl oS) C⟩
   |panic ch=>exact⟨_,M,U,hq,.pass (x:=.inLoop c) rfl (fun _ _=>.inl oS) C⟩
   |outgrown=>exact⟨_,M,U,hq,.pass (x:=.inLoop c) rfl (fun _ _=>.inl oS) C⟩
 obtain⟨e,a',w',hq,C⟩:=key _ a w h₀;exact⟨e,a',w',hq,.of_steps (.one (fenced_calm hb hr rfl) stepR_loop) C⟩
def mark(b:Nat):Deferred:={ target:=.collected b,args:= #[] }
def Marks(β:Pla)(w:World)(lo:Nat):List Deferred->Nat->Prop
 |[],_=>True
 |d::ds,hi=>∃ b,d=mark b/\lo<=b/\b<hi/\w.heap[b]? =some (.deferred (some []))/\β.free b/\Marks β w lo ds b
theorem Marks.step{β β':Pla}{w w':World}(C:Step β w β' w'){lo:Nat}:∀ {ds:List Deferred} {hi:Nat},hi<=w.heap.size->Marks β w lo ds hi->Marks β' w' lo ds hi
 |[],_,_,_=>trivial
 |d::ds,hi,hle,⟨b,h1,h2,h3,h4,h5,h6⟩=>by
  obtain⟨J,M⟩:=C.imm b oG h5;exact⟨b,h1,h2,h3,J.trans h4,M,Marks.step C oG h6⟩
theorem Marks.mono{β:Pla}{w:World}{lo hi C:Nat}(h:hi<=C):∀ {ds:List Deferred},Marks β w lo ds hi->Marks β w lo ds C
 |[],_=>trivial
 |_::_,⟨b,h1,h2,h3,h4⟩=>⟨b,h1,h2,oG,h4⟩
theorem Marks.append{β:Pla}{w:World}{lo mid:Nat}(J:lo<=mid){C:List Deferred}:∀ {ds:List Deferred} {hi:Nat},mid<=hi->Marks β w mid ds hi->Marks β w lo C mid->Marks β w lo (ds++C) hi
 |[],_,hle,_,h'=>Marks.mono hle h'
 |_::_,_,_,⟨b,h1,h2,h3,h4,h5,h6⟩,h'=>⟨b,h1,oG,h3,h4,h5,Marks.append J h2 h6 h'⟩
structure nE(N:Nat)(β:Pla)(w:World)(a:Act)(st':St)(β':Pla)(w':World)(a':Act):Prop where
 step:Step β w β' w'
 le:N<=st'.nx
 grow:∀ i,i<N->β i=none->β' i=none
 size:a'.tmps.size=a.tmps.size
 defers:∃ ds,a'.defers=ds++a.defers/\Marks β' w' w.heap.size ds w'.heap.size
theorem fT.Bf{N:Nat}{β β':Pla}{w w':World}{a a':Act}{st':St}(h:fT N β w a st' β' w' a'):nE N β w a st' β' w' a':=
 ⟨h.step,h.le,h.grow,h.size,[],h.defers,trivial⟩
theorem nE.trans{N:Nat}{β β₁ β₂:Pla}{w X w₂:World}{a C J:Act}{M U:St}(h:nE N β w a M β₁ X C)(k:nE M.nx β₁ X C U β₂ w₂ J):nE N β w a U β₂ w₂ J:=by
 obtain⟨ds,e1,h1⟩:=h.defers;obtain⟨sA,e2,h2⟩:=k.defers
 exact⟨h.step.trans k.step,Nat.le_trans h.le k.le,fun i hi hn=>k.grow i (Nat.lt_of_lt_of_le hi h.le) (h.grow i hi hn),k.size.trans h.size,sA++ds,by rw[e2,e1,List.append_assoc],
  Marks.append h.step.size k.step.size h2 (h1.step k.step (bE _))⟩
theorem nE.since{N:Nat}{β β₁ β₂:Pla}{w X w₂:World}{a C J:Act}{M U:St}(h:nE N β w a M β₁ X C)(k:fT M.nx β₁ X C U β₂ w₂ J):nE N β w a U β₂ w₂ J:=h.trans k.Bf
def T1(P:Program)(F:Nat->Prop)(N:Nat)(β:Pla)(w:World)(a:Act)(Q:Exit->St->Prop)(e:Exit)(a':Act)(w':World):Prop:=
 ∃ st' β',Q e st'/\dX P F st' β' w' a'/\nE N β w a st' β' w' a'
theorem YCall.base{J:Pla}{C:World}{β:Pla}{w:World}(U:Step J C β w){l:Nat}{args:List D}{m:Mem}{nx:Nat}{K:D->Mem->Nat->Prop}(h:YCall P F J C l args m nx K):YCall P F β w l args m nx K:=
 fun β' w' us M=>h β' w' us (U.trans M)
theorem free_other{β:Pla}{i:Nat}{p:Option Pl}{b:Nat}(h:β.free b)(hp:∀ q,p=some q->q.blk≠some b):Pla.free (up β i p) b:=fun j q hq=>by
 by_cases hj:j=i
 .subst hj;rw[up_same] at hq;exact hp q hq
 .rw[up_ne _ _ hj] at hq;exact h j q hq
theorem R.pW{β:Pla}{w:World}{l:Nat}(C:F l)(o:Obj){d:D}{v:Value}(h:R F β w d v):R F β (w.putObj l o) d v:=
 h.gen oS (fun b _ hb hf=>⟨same_of (World.putObj_heap_other fun e=>hb (e▸C)),hf,hb⟩) fun _ _ _ h=>.inl h
theorem RowR.pW{β:Pla}{w:World}{l:Nat}(C:F l)(o:Obj){r:Row}{p:Pl}(hp:∀ b,p.blk=some b->b≠l)(h:RowR P F β w r p):RowR P F β (w.putObj l o) r p:=
 h.gen oS (fun b _ hb hf=>⟨same_of (World.putObj_heap_other fun e=>hb (e▸C)),hf,hb⟩) (fun _ _ _ h=>.inl h) fun b hb=>World.putObj_heap_other (hp b hb)
theorem MSim.pW{m:Mem}{β:Pla}{w:World}{l:Nat}(C:F l)(o:Obj)(h:MSim P F m β w):MSim P F m β (w.putObj l o):=
 ⟨fun i r hi=>by
  obtain⟨p,hp,hr⟩:=h.row i r hi
  exact⟨p,hp,hr.pW C o fun b hb e=>h.nf i p b hp hb (e▸C)⟩,h.inj,fun i p b hp hb=>by simpa using h.lt i p b hp hb,h.nf,fun b hb=>by simpa using h.fb b hb⟩
theorem dX.pW{st:St}{β:Pla}{w:World}{a:Act}{l:Nat}(C:F l)(o:Obj)(h:dX P F st β w a):dX P F st β (w.putObj l o) a:=
 ⟨fun t=>(h.e t).pW C o,h.m.pW C o,h.n⟩
theorem R.weak{F':Nat->Prop}(C:∀ b,F' b->F b){β:Pla}{w:World}{d:D}{v:Value}(h:R F β w d v):R F' β w d v:=
 h.gen (bE _) (fun b _ hb hf=>⟨SameB.refl w b,hf,fun e=>hb (C b e)⟩) fun _ _ _ h=>.inl h
theorem MSim.weak{F':Nat->Prop}(C:∀ b,F' b->F b){m:Mem}{β:Pla}{w:World}(h:MSim P F m β w):MSim P F' m β w:=
 ⟨fun i r hi=>by
  obtain⟨p,hp,hr⟩:=h.row i r hi
  exact⟨p,hp,hr.gen (bE _) (fun b _ hb hf=>⟨SameB.refl w b,hf,fun e=>hb (C b e)⟩) (fun _ _ _ h=>.inl h) fun _ _=>rfl⟩,h.inj,h.lt,fun i p b hp hb e=>h.nf i p b hp hb (C b e),fun b hb=>h.fb b (C b hb)⟩
theorem Hu{β:Pla}{b:Nat}(h:¬ β.free b):∃ i p,β i=some p/\p.blk=some b:=by
 unfold Pla.free at h;simp only[Classical.not_forall] at h;obtain⟨i,p,hp,hb⟩:=h;exact⟨i,p,hp,Decidable.not_not.1 hb⟩
structure View(il n₀:Nat)(f:Nat->Option Nat)(mc:Mem)(nc:Nat)(m:Mem)(nx:Nat):Prop where
 low:n₀<=nc
 lt:il<nx
 id:∀ i,i<n₀->f i=some i
 Bg:∀ i,i<nc->∃ j,f i=some j/\j<nx/\j≠il
 out:∀ i,nc<=i->f i=none
 inj:∀ i i' j,f i=some j->f i'=some j->i=i'
 rows:∀ i r,mc i=some r->∃ j,f i=some j/\m j=some (r.renB f)
theorem View.sf{il n₀:Nat}{f:Nat->Option Nat}{mc:Mem}{nc:Nat}{m:Mem}{nx:Nat}(h:View il n₀ f mc nc m nx){i j:Nat}(hf:f i=some j):i<nc/\j<nx/\j≠il:=by
 rcases Nat.lt_or_ge i nc with al|C
 .obtain⟨J,h1,h2,h3⟩:=h.Bg i al;rw[hf] at h1;cases h1;exact⟨al,h2,h3⟩
 .rw[h.out i C] at hf;cases hf
theorem View.ext{il n₀:Nat}{f:Nat->Option Nat}{mc:Mem}{nc:Nat}{m m':Mem}{nx nx':Nat}(h:View il n₀ f mc nc m nx)(C:nx<=nx')(he:∀ i,i<nx->m' i=m i):View il n₀ f mc nc m' nx':=
 ⟨h.low,Nat.lt_of_lt_of_le h.lt C,h.id,fun i hi=>by
  obtain⟨j,h1,h2,h3⟩:=h.Bg i hi;exact⟨j,h1,oG,h3⟩,h.out,h.inj,fun i r hi=>by
  obtain⟨j,h1,h2⟩:=h.rows i r hi
  exact⟨j,h1,(he j (h.sf h1).2.1).trans h2⟩⟩
theorem PR{f:Nat->Option Nat}{m:Mem}{β:Pla}{w:World}(hm:MSim P F m β w){b:Nat}(h:hidden F β f b):b<w.heap.size:=by
 rcases h with h|⟨h,_⟩
 .exact hm.fb b h
 .obtain⟨i,p,hp,hb⟩:=Hu h;exact hm.lt i p b hp hb
theorem View.enter{il n₀:Nat}{f:Nat->Option Nat}{mc:Mem}{nc:Nat}{m:Mem}{nx:Nat}(h:View il n₀ f mc nc m nx){β:Pla}{w:World}(hm:MSim P F m β w):
 MSim P (hidden F β f) mc (β.via f) w/\∀ i,nc<=i->(β.via f) i=none:=by
 have look:∀ i p,(β.via f) i=some p->∃ j,f i=some j/\β j=some p:=fun i p hp=>Option.bind_eq_some_iff.1 hp;refine⟨⟨fun i r hi=>?_,fun i i' p q b hp hq e J=>?_,fun i p b hp e=>?_,fun i p b hp e C=>?_,fun b hb=>PR hm hb⟩,fun i hi=>?_⟩
 .obtain⟨j,h1,h2⟩:=h.rows i r hi;obtain⟨p,hp,hr⟩:=hm.row j _ h2;exact⟨p,by simp[Pla.via,h1,hp],hr.seen⟩
 .obtain⟨j,h1,h2⟩:=look i p hp;obtain⟨M,h3,h4⟩:=look i' q hq;have:=hm.inj j M p q b h2 h4 e J;subst this;exact h.inj i i' j h1 h3
 .obtain⟨j,h1,h2⟩:=look i p hp;exact hm.lt j p b h2 e
 .obtain⟨j,h1,h2⟩:=look i p hp;rcases C with C|⟨_,C⟩
  .exact hm.nf j p b h2 e C
  .exact C i p hp e
 .simp[Pla.via,h.out i hi]
theorem MSim.vf{m:Mem}{β:Pla}{w:World}{i l:Nat}{o:Obj}(h:MSim P F m β w)(hm:m i=some (.raw l o)):β i=some (.raw l)/\w.heap[l]? =some o/\¬ F l/\l<w.heap.size:=by
 obtain⟨p,hp,hr⟩:=h.row i _ hm;cases hr with
 |raw _ _ hc=>exact⟨hp,hc,h.nf i _ l hp rfl,h.lt i _ l hp rfl⟩
theorem View.z3{il n₀:Nat}{f:Nat->Option Nat}{mc:Mem}{nc:Nat}{m:Mem}{nx:Nat}(h:View il n₀ f mc nc m nx){β:Pla}{w:World}(hm:MSim P F m β w){j:Nat}{p:Pl}{b:Nat}(hj:∀ i,f i≠some j)(hp:β j=some p)(hb:p.blk=some b):
 (β.via f).free b/\hidden F β f b:=by
 have C:(β.via f).free b:=fun i q hq e=>by
  obtain⟨J,h1,h2⟩:=Option.bind_eq_some_iff.1 hq;exact hj i (hm.inj J j q p b h2 hp e hb▸h1)
 exact⟨C,.inr ⟨fun e=>e j p hp hb,C⟩⟩
structure pN(l:Nat)(β:Pla)(w:World)(β':Pla)(w':World):Prop where
 size:w.heap.size<=w'.heap.size
 imm:∀ b,b<w.heap.size->b≠l->β.free b->w'.heap[b]? =w.heap[b]? /\β'.free b
 keep:∀ i p,β i=some p->β' i=some p\/β' i=some .dead
 out:Out w w'
theorem Step.x{β β':Pla}{w w':World}(h:Step β w β' w')(l:Nat):pN l β w β' w':=⟨h.size,fun b hb _=>h.imm b hb,h.keep,h.out⟩
theorem pN.trans{l:Nat}{X β₂ β₃:Pla}{J M U:World}(h:pN l X J β₂ M)(k:pN l β₂ M β₃ U):pN l X J β₃ U:=by
 refine⟨Nat.le_trans h.size k.size,fun b hb C hf=>?_,fun i p hp=>?_,h.out.trans k.out⟩
 .obtain⟨h1,h2⟩:=h.imm b hb C hf;obtain⟨k1,k2⟩:=k.imm b (Nat.lt_of_lt_of_le hb h.size) C h2;exact⟨k1.trans h1,k2⟩
 .rcases h.keep i p hp with h1|h1
  .exact k.keep i p h1
  .right;rcases k.keep i _ h1 with h2|h2<;>exact h2
theorem pN.put(l:Nat)(β:Pla)(w:World)(o:Obj):pN l β w β (w.putObj l o):=⟨oS,fun b _ C hf=>⟨World.putObj_heap_other C,hf⟩,fun _ _ h=>.inl h,rfl,rfl⟩
theorem GQ{n j:Nat}{f:Nat->Option Nat}(C:∀ i i' j,f i=some j->f i'=some j->i=i'):
 (∀ i,(List.range n).find? (fun i=>f i==some j)=some i->f i=some j/\i<n)/\(∀ i,i<n->f i=some j->(List.range n).find? (fun i=>f i==some j)=some i):=by
 refine⟨fun i hi=>⟨by simpa using List.find?_some hi,by simpa using List.mem_of_find?_eq_some hi⟩,fun i hi hf=>?_⟩;cases h:(List.range n).find? (fun i=>f i==some j) with
 |none=>
  have:=List.find?_eq_none.1 h i (by simpa using hi);simp[hf] at this
 |some k=>rw[C i k j hf (by simpa using List.find?_some h)]
theorem View.T2{il n₀:Nat}{f:Nat->Option Nat}{mc:Mem}{nc:Nat}{m:Mem}{nx:Nat}(h:View il n₀ f mc nc m nx){β:Pla}{w:World}(hm:MSim P F m β w)(hn:∀ i,nx<=i->β i=none){l:Nat}{o o':Obj}(hl:m il=some (.raw l o))
 {m':Mem} {M:Nat} {β':Pla} {w':World} (ia:MSim P (hidden F β f) m' β' w') (hs:pN l (β.via f) w β' w') (du:∀ i,M<=i->β' i=none) (hle:nc<=M) (hg:∀ i,i<nc->(β.via f) i=none->β' i=none) (ho:w'.heap[l]? =some o'):
 ∃ C U ns J,View il n₀ C m' M U ns/\U il=some (.raw l o')/\MSim P F U J w'/\(∀ i,ns<=i->J i=none)/\Step β w J w'/\nx<=ns/\∀ i,i<nx->β i=none->J i=none:=by
 obtain⟨E4,oI,Z3,al⟩:=hm.vf hl
 let C:Nat->Option Nat:=fun i=>if i<nc then f i else if i<M then some (nx+(i - nc)) else none
 have xT:∀ i,i<nc->C i=f i:=fun i hi=>by simp[C,hi]
 have DI:∀ i,nc<=i->i<M->C i=some (nx+(i - nc)):=fun i h1 h2=>by simp[C,h2,Nat.not_lt.2 h1]
 have Kv:∀ i,M<=i->C i=none:=fun i h1=>by simp[C,Nat.not_lt.2 h1,Nat.not_lt.2 (Nat.le_trans hle h1)]
 have tc:∀ i j,C i=some j->(f i=some j/\i<nc/\j<nx)\/(nc<=i/\i<M/\j=nx+(i - nc)):=fun i j hf=>by
  rcases Nat.lt_or_ge i nc with h1|h1
  .rw[xT i h1] at hf;exact .inl ⟨hf,h.sf hf |>.1,(h.sf hf).2.1⟩
  .rcases Nat.lt_or_ge i M with h2|h2
   .rw[DI i h1 h2] at hf;cases hf;exact .inr ⟨h1,h2,rfl⟩
   .rw[Kv i h2] at hf;cases hf
 have DJ:∀ i i' j,C i=some j->C i'=some j->i=i':=fun i i' j h1 h2=>by
  rcases tc i j h1 with⟨a1,a2,a3⟩|⟨a1,a2,a3⟩<;>rcases tc i' j h2 with⟨b1,b2,b3⟩|⟨b1,b2,b3⟩
  .exact h.inj i i' j a1 b1
  .omega
  .omega
  .omega
 let inv:Nat->Option Nat:=fun j=>(List.range M).find? fun i=>C i==some j
 have tJ:∀ i j,inv j=some i->C i=some j:=fun i j hi=>((GQ DJ).1 i hi).1;have En:∀ i j,C i=some j->inv j=some i:=fun i j hf=>(GQ DJ).2 i (by rcases tc i j hf with h1|h1<;>omega) hf
 have Xl:∀ j,inv j=none->∀ i,f i≠some j:=fun j hj i hf=>by
  have:=En i j (by rw[xT i (h.sf hf).1];exact hf);rw[hj] at this;cases this
 let J:Pla:=fun j=>match inv j with|some i=>β' i|none=>β j
 let U:Mem:=fun j=>match inv j with|some i=>(m' i).map (Row.renB C)|none=>if j=il then some (.raw l o') else m j
 have βs:∀ i j,C i=some j->J j=β' i:=fun i j hf=>by simp[J,En i j hf]
 have βn:∀ j,inv j=none->J j=β j:=fun j hj=>by simp[J,hj]
 have Tc:inv il=none:=by
  cases hi:inv il with
  |none=>rfl
  |some i=>
   rcases tc i il (tJ i il hi) with⟨a1,a2,a3⟩|⟨a1,a2,a3⟩
   .exact absurd rfl (h.sf a1).2.2
   .have:=h.lt;omega
 have via:J.via C=β':=by
  funext i;simp only[Pla.via];cases hf:C i with
  |some j=>exact βs i j hf
  |none=>
   rcases Nat.lt_or_ge i M with h1|h1
   .rcases Nat.lt_or_ge i nc with h2|h2
    .obtain⟨j,h3,_⟩:=h.Bg i h2;rw[xT i h2,h3] at hf;cases hf
    .rw[DI i h2 h1] at hf;cases hf
   .exact(du i h1).symm
 have look:∀ j p,J j=some p->(∃ i,inv j=some i/\C i=some j/\β' i=some p)\/(inv j=none/\β j=some p):=fun j p hp=>by
  cases hi:inv j with
  |some i=>exact .inl ⟨i,rfl,tJ i j hi,by rw[<- βs i j (tJ i j hi)];exact hp⟩
  |none=>exact .inr ⟨rfl,by rw[<- βn j hi];exact hp⟩
 have Xm:∀ b,β.free b->b≠l:=fun b hb e=>hb il _ E4 (e▸rfl)
 have imm:∀ b,b<w.heap.size->β.free b->w'.heap[b]? =w.heap[b]? /\J.free b:=fun b hb hf=>by
  obtain⟨h1,h2⟩:=hs.imm b hb (Xm b hf) (Pla.free_via hf f);refine⟨h1,fun j p hp=>?_⟩;rcases look j p hp with⟨i,_,_,h4⟩|⟨_,h4⟩
  .exact h2 i p h4
  .exact hf j p h4
 have keep:∀ j p,β j=some p->J j=some p\/J j=some .dead:=fun j p hp=>by
  cases hi:inv j with
  |none=>exact .inl ((βn j hi).trans hp)
  |some i=>
   have hf:=tJ i j hi;rw[βs i j hf];rcases tc i j hf with⟨a1,a2,a3⟩|⟨a1,a2,a3⟩
   .exact hs.keep i p (by simp[Pla.via,a1,hp])
   .rw[hn j oG] at hp;cases hp
 have X:∀ j p b,inv j=none->β j=some p->p.blk=some b->hidden F β f b/\(b≠l->b<w.heap.size/\w'.heap[b]? =w.heap[b]?):=fun j p b hj hp hb=>by
  obtain⟨h1,h2⟩:=h.z3 hm (Xl j hj) hp hb;exact⟨h2,fun aI=>⟨hm.lt j p b hp hb,(hs.imm b (hm.lt j p b hp hb) aI h1).1⟩⟩
 refine⟨C,U,nx+(M - nc),J,⟨Nat.le_trans h.low hle,by have:=h.lt;omega,fun i hi=>?_,fun i hi=>?_,Kv,DJ,fun i r hi=>?_⟩,?_,⟨fun j r hj=>?_,fun i j p q b hp hq e e'=>?_,fun j p b hp e=>?_,fun j p b hp e hF=>?_,fun b hb=>?_⟩,fun i hi=>?_,⟨hs.size,imm,keep,hs.out⟩,oG,fun i hi hb=>?_⟩
 .rw[xT i (Nat.lt_of_lt_of_le hi h.low)];exact h.id i hi
 .rcases Nat.lt_or_ge i nc with h1|h1
  .obtain⟨j,h2,h3,h4⟩:=h.Bg i h1;exact⟨j,by rw[xT i h1];exact h2,oG,h4⟩
  .exact⟨_,DI i h1 hi,oG,by have:=h.lt;omega⟩
 .obtain⟨p,hp,_⟩:=ia.row i r hi
  have:∃ j,C i=some j:=by
   rw[<- via] at hp;obtain⟨j,h1,_⟩:=Option.bind_eq_some_iff.1 hp;exact⟨j,h1⟩
  obtain⟨j,hj⟩:=this;exact⟨j,hj,by simp[U,En i j hj,hi]⟩
 .simp[U,Tc]
 .cases hi:inv j with
  |some i=>
   simp only[U,hi,cK] at hj;obtain⟨r0,ua,rfl⟩:=hj;obtain⟨p,hp,hr⟩:=ia.row i r0 ua;refine⟨p,(βs i j (tJ i j hi)).trans hp,RowR.hide (F':=hidden F β f) (by rw[via];exact hr) (fun b hb=>.inl hb) fun b g1 g2=>?_⟩;obtain⟨k,q,hq,Nd⟩:=Hu g1;rcases look k q hq with⟨i',_,_,h4⟩|⟨h3,h4⟩
   .exact absurd Nd (g2 i' q (by rw[via];exact h4))
   .exact(X k q b h3 h4 Nd).1
  |none=>
   simp only[U,hi] at hj;split at hj
   .rename_i e;subst e;cases hj;exact⟨.raw l,(βn j hi).trans E4,.raw l o' ho⟩
   .rename_i aI;obtain⟨p,hp,hr⟩:=hm.row j r hj;refine⟨p,(βn j hi).trans hp,hr.gen hs.size (fun b hb g1 g2=>⟨same_of (imm b hb g2).1,(imm b hb g2).2,g1⟩) (fun i p _=>keep i p) fun b hb=>?_⟩;exact((X j p b hi hp hb).2 fun e=>aI (hm.inj j il p _ b hp E4 hb (e▸rfl))).2
 .rcases look i p hp with⟨i',a1,a2,a3⟩|⟨a1,a2⟩<;>rcases look j q hq with⟨j',b1,b2,b3⟩|⟨b1,b2⟩
  .have:=ia.inj i' j' p q b a3 b3 e e';subst this;rw[a2] at b2;cases b2;rfl
  .exact absurd (X j q b b1 b2 e').1 (ia.nf i' p b a3 e)
  .exact absurd (X i p b a1 a2 e).1 (ia.nf j' q b b3 e')
  .exact hm.inj i j p q b a2 b2 e e'
 .rcases look j p hp with⟨i',a1,a2,a3⟩|⟨a1,a2⟩
  .exact ia.lt i' p b a3 e
  .exact Nat.lt_of_lt_of_le (hm.lt j p b a2 e) hs.size
 .rcases look j p hp with⟨i',a1,a2,a3⟩|⟨a1,a2⟩
  .exact ia.nf i' p b a3 e (.inl hF)
  .exact hm.nf j p b a2 e hF
 .exact Nat.lt_of_lt_of_le (hm.fb b hb) hs.size
 .cases df:inv i with
  |none=>exact(βn i df).trans (hn i oG)
  |some i0=>
   rcases tc i0 i (tJ i0 i df) with⟨a1,a2,a3⟩|⟨a1,a2,a3⟩<;>omega
 .cases df:inv i with
  |none=>exact(βn i df).trans hb
  |some i0=>
   have hf:=tJ i0 i df;rw[βs i0 i hf];rcases tc i0 i hf with⟨a1,a2,a3⟩|⟨a1,a2,a3⟩
   .exact hg i0 a2 (by simp[Pla.via,a1,hb])
   .omega
theorem Gx{β:Pla}{w:World}:∀ (ts:List Tmp) (ds:List D) (vs:List Value) (env:Env) (tmps:Array Value),vs.length=ds.length->(∀ (k:Nat) (d:D) (v:Value),ds[k]? =some d->vs[k]? =some v->R F β w d v)->
 (∀ t,t∈ts->t<tmps.size)->ESim F β w env { tmps:=tmps,defers:=[] }->
 ESim F β w (setAll env ts ds) { tmps:=(ts.zip vs).foldl (fun tmps (t,a)=>tmps.setIfInBounds t a) tmps,defers:=[] }/\((ts.zip vs).foldl (fun tmps (t,a)=>tmps.setIfInBounds t a) tmps).size=tmps.size
 |[],_,_,env,tmps,_,_,_,h=>by simpa[setAll] using h
 |_::_,[],[],env,tmps,_,_,_,h=>by simpa[setAll] using h
 |_::_,[],_::_,_,_,hl,_,_,_=>by simp at hl
 |_::_,_::_,[],_,_,hl,_,_,_=>by simp at hl
 |t::ts,d::ds,v::vs,env,tmps,hl,hR,al,h=>by
  have h1:ESim F β w (up env t d) { tmps:=tmps.setIfInBounds t v,defers:=[] }:=by
   have:=h.put (some t) d v (hR 0 d v rfl rfl) (fun u C=>by cases C;exact al t oS);simpa[Act.put,up] using this
  have:=Gx ts ds vs (up env t d) (tmps.setIfInBounds t v) (by simpa using hl) (fun k d v hd hv=>hR (k+1) d v (by simpa using hd) (by simpa using hv)) (fun u C=>by simpa using al u (by simp[C])) h1;simp only[setAll,List.zip_cons_cons,List.foldl_cons];exact⟨this.1,by rw[this.2];simp⟩
theorem wB{c:Code}{b:Frame}{a:Act}{k:List Item}{cs:List Frame}{w:World}:step P (lone (b.atR a (.code (.scope c)::k)) cs w)=.next (lone (b.atR a (.code c::.inScope c::k)) cs w):=
 step_lone_go (by simp[stepG,stepG.exec,Frame.atR])
theorem OD{c:Code}{b:Frame}{a:Act}{k:List Item}{cs:List Frame}{w:World}:step P (lone (b.atR a (.inScope c::k)) cs w)=.next (lone (b.atR a k) cs w):=
 step_lone_go (by simp[stepG,stepG.exec,Frame.atR])
theorem zs{I:Machine->Prop}{m:Machine}{b:Frame}{c:Code}{k:List Item}{cs:List Frame}{e:Exit}{a:Act}{w:World}
 (hn:e≠ .normal) (hg:∀ l,e≠ .goto l) (h:ArrivesIn I P m b (.inScope c::k) cs e a w):ArrivesIn I P m b k cs e a w:=by
 cases e with
 |normal=>exact absurd rfl hn
 |exit id=>exact⟨fun C hk=>h.1 C (by simp[exitTo,hk]),fun hr hk=>h.2 hr (by simp[exitTo,hk])⟩
 |goto l=>exact absurd rfl (hg l)
 |ret=>exact h
 |panic chain=>exact h
 |outgrown=>exact h
theorem O3{U:Fence}{n:Nat}{Q:Exit->Act->World->Prop}{a:Act}{w:World}{c:Code}(h:c.wpIn U n P (Exit.noGoto Q) a w):(Code.scope c).wpIn U n P Q a w:=by
 intro b k cs X hb hr;have h0:(lone (b.atR a (.code (.scope c)::k)) cs w).fenced P U:=fenced_calm hb hr rfl;obtain⟨e,C,M,hq,J⟩:=h b (.inScope c::k) cs X hb hr;cases e with
 |normal=>exact⟨.normal,C,M,hq,.head h0 wB (StepsIn.trans J (.one (fenced_calm hb hr rfl) OD))⟩
 |goto l=>exact hq.elim
 |exit id=>exact⟨.exit id,C,M,hq,.of_steps (.one h0 wB) (zs (c:=c) oS oS J)⟩
 |ret=>exact⟨.ret,C,M,hq,.of_steps (.one h0 wB) (zs (c:=c) oS oS J)⟩
 |panic ch=>exact⟨.panic ch,C,M,hq,.of_steps (.one h0 wB) (zs (c:=c) oS oS J)⟩
 |outgrown=>exact⟨.outgrown,C,M,hq,.of_steps (.one h0 wB) (zs (c:=c) oS oS J)⟩
def Jump(env:Env)(Q:Exit->St->Prop):Code->Mem->Nat->Prop
 | .ret,m,nx=>Q .ret ⟨env,m,nx⟩
 | .exit id,m,nx=>Q (.exit id) ⟨env,m,nx⟩
 |_,_,_=>False
def u6(il l:Nat)(n₀:Nat)(o:Obj)(I:Mem->Nat->Prop)(m:Mem)(nx:Nat):Prop:=∃ f mc nc,View il n₀ f mc nc m nx/\m il=some (.raw l o)/\I mc nc
theorem u6.closed{il l n₀:Nat}{o:Obj}{I:Mem->Nat->Prop}:Closed (u6 il l n₀ o I):=by
 rintro m nx m' nx' ⟨f,mc,nc,h1,h2,h3⟩ C he;exact⟨f,mc,nc,h1.ext C he,(he il h1.lt).trans h2,h3⟩
theorem PS(ps:Array Tmp)(us:Array Value)(tmps:Array Value):
 (ps.zip us).foldl (fun tmps (t,a)=>tmps.setIfInBounds t a) tmps=(ps.toList.zip us.toList).foldl (fun tmps (t,a)=>tmps.setIfInBounds t a) tmps:=by
 rw[<- Array.foldl_toList];simp
theorem OE{β:Pla}{w:World}{a:Act}{g:Operand}{f:FuncId}{fs cs:List D}(hR:R F β w (.fn (.func f) fs cs) (a.eval g))(he:enterOk P f=true)(l:Nat)(w':World):
 ∃ (us vs:List Value) (d:Deferred),us.length=fs.length/\vs.length=cs.length/\(∀ (k:Nat) (d:D) (v:Value),fs[k]? =some d->us[k]? =some v->R F β w d v)/\(∀ (k:Nat) (d:D) (v:Value),cs[k]? =some d->vs[k]? =some v->R F β w d v)/\
  (resolve a.eval (rangeCall g l) 0).run P w'=.ok d w'/\(invoke d.target d.args).run P w'=.ok (.enter f (us.toArray++ #[.func (.yield l) #[] #[]]++vs.toArray)) w':=by
 generalize hv:a.eval g=v at hR;cases hR with
 |fn _ _ _ us vs hl jy J C=>
 refine⟨us,vs,{ target:=.fn (.func f) vs.toArray,args:=us.toArray++ #[.func (.yield l) #[] #[]] },hl,jy,J,C,?_,?_⟩
 .simp only[resolve,hv,Sem.run_bind,Deferred.ofValue];simp[go_sem]
 .simp only[invoke];unfold callFunc;unfold enterOk at he;simp only[Sem.run_bind,run_program,Result.andThen_ok];split at he
  .rename_i fn M;simp only[aM,Bool.not_eq_true'] at he
   have hb:fn.body.isNone=false:=by
    cases U:fn.body<;>simp_all
   rw[M];simp only[he.1,hb,Bool.false_eq_true,if_false,Sem.run_pure]
  .cases he
theorem Rs.append{β:Pla}{w:World}{aS bs:List D}{xs ys:Array Value}(h:Rs F β w aS xs)(k:Rs F β w bs ys):Rs F β w (aS++bs) (xs++ys):=by
 refine⟨by simp[h.1,k.1],fun j d v hd hv=>?_⟩;rcases Nat.lt_or_ge j aS.length with hj|hj
 .rw[List.getElem?_append_left hj] at hd;rw[Array.getElem?_append_left (by rw[h.1];exact hj)] at hv;exact h.2 j d v hd hv
 .rw[List.getElem?_append_right hj] at hd;rw[Array.getElem?_append_right (by rw[h.1];exact hj),h.1] at hv;exact k.2 _ d v hd hv
theorem Q5(kE:P.follows .mixedOrders=true):∀ (c:Code) (F:Nat->Prop) (r:Option Nat) (n:Nat) (Y:YSpec) (rf:Bool) (N₀:Nat) (β₀:Pla) (w₀:World) (a₀:Act),(rf=true->r=none)->
 (∀ l args m nx K,Y l args m nx K->YCall P F β₀ w₀ l args m nx K)->iy a₀.tmps.size c=true->∀ (Q:Exit->St->Prop) (st:St) (β:Pla) (w:World) (a:Act),
 AW P Y rf c Q st->dX P F st β w a->nE N₀ β₀ w₀ a₀ st β w a->c.wpIn (Fe r) n P (T1 P F N₀ β₀ w₀ a₀ Q) a w:=by
 intro c
 induction c with
 |skip=>exact fun F r n Y rf N₀ β₀ w₀ a₀ U hY _ Q st β w a h C M=>wpIn_skip ⟨st,β,h,C,M⟩
 |ret=>exact fun F r n Y rf N₀ β₀ w₀ a₀ U hY _ Q st β w a h C M=>wpIn_ret ⟨st,β,h,C,M⟩
 |exit id=>exact fun F r n Y rf N₀ β₀ w₀ a₀ U hY _ Q st β w a h C M=>wpIn_exit ⟨st,β,h,C,M⟩
 |label l=>exact fun F r n Y rf N₀ β₀ w₀ a₀ U hY _ Q st β w a h C M=>wpIn_label ⟨st,β,h,C,M⟩
 |region id ops draw=>
  intro F r n Y rf N₀ β₀ w₀ a₀ U hY al Q st β w a h C M;have tK:tC a.tmps.size ops=true:=by rw[M.size];exact al
  cases draw with
  |false=>
   refine wpIn_mono (OP (N:=st.nx) (β₀:=β) (w₀:=w) (a₀:=a) (fun l args m nx K hy=>(hY l args m nx K hy).base M.step) tK h C (fT.refl st β w a)) fun e a' w' hp=>?_;obtain⟨st',β',hq,dE,fD⟩:=hp;exact⟨st',β',hq,dE,M.since fD⟩
  |true=>
   simp only[AW] at h;split at h
   .rename_i cf oJ;refine wpIn_mono (OQ (N₀:=st.nx) (β₀:=β) (w₀:=w) (a₀:=a) kE oJ tK h C (fT.refl st β w a)) fun e a' w' hp=>?_;obtain⟨st',β',hq,dE,fD⟩:=hp;exact⟨st',β',hq,dE,M.since fD⟩
   .exact h.elim
 |seq x y Bh Bi=>
  intro F r n Y rf N₀ β₀ w₀ a₀ U hY al Q st β w a h C M;simp only[iy,aM] at al;refine wpIn_seq (wpIn_mono (Bh F r n Y rf N₀ β₀ w₀ a₀ U hY al.1 _ st β w a h C M) fun e a' w' hp=>?_);obtain⟨st',β',hq,dE,fD⟩:=hp;cases e with
  |normal=>
   obtain⟨gA,hg,hy⟩:=hq;obtain⟨gS,tL,DK⟩:=Gp hg dE;exact Bi F r n Y rf N₀ β₀ w₀ a₀ U hY al.2 Q gA gS w' a' hy tL (fD.since DK)
  |_=>exact⟨st',β',hq,dE,fD⟩
 |cond c x y Bh Bi=>
  intro F r n Y rf N₀ β₀ w₀ a₀ U hY al Q st β w a h C M;simp only[iy,aM] at al;obtain⟨ha,h⟩:=h;have hR:=(C.e.opd c).core_of _ ha;split at h
  .rename_i t ht;rw[ht] at hR;exact wpIn_cond_split hR.s_inv.1 (fun e=>Bh F r n Y rf N₀ β₀ w₀ a₀ U hY al.1 Q st β w a (h.1 e) C M) fun e=>Bi F r n Y rf N₀ β₀ w₀ a₀ U hY al.2 Q st β w a (h.2 e) C M
  .rename_i ht;rw[ht] at hR;obtain⟨b,hb⟩:=hR.ub_inv;exact wpIn_cond_split hb (fun _=>Bh F r n Y rf N₀ β₀ w₀ a₀ U hY al.1 Q st β w a h.1 C M) fun _=>Bi F r n Y rf N₀ β₀ w₀ a₀ U hY al.2 Q st β w a h.2 C M
  .exact h.elim
 |scope b ih=>
  intro F r n Y rf N₀ β₀ w₀ a₀ U hY al Q st β w a h C M;refine O3 (wpIn_mono (ih F r n Y rf N₀ β₀ w₀ a₀ U hY al _ st β w a h C M) fun e a' w' hp=>?_);obtain⟨st',β',hq,dE,fD⟩:=hp;cases e with
  |goto l=>exact hq.elim
  |_=>exact⟨st',β',hq,dE,fD⟩
 |block id b ih=>
  intro F r n Y rf N₀ β₀ w₀ a₀ U hY al Q st β w a h C M;refine wpIn_block (wpIn_mono (ih F r n Y rf N₀ β₀ w₀ a₀ U hY al _ st β w a h C M) fun e a' w' hp=>?_);obtain⟨st',β',hq,dE,fD⟩:=hp;cases e with
  |exit i=>
   simp only[blockQ] at hq;simp only[Exit.inBlock];split at hq
   .rename_i hi;rw[if_pos hi];exact⟨st',β',hq,dE,fD⟩
   .rename_i hi;rw[if_neg hi];exact⟨st',β',hq,dE,fD⟩
  |_=>exact⟨st',β',hq,dE,fD⟩
 |loop b ih=>
  intro F r n Y rf N₀ β₀ w₀ a₀ U hY al Q st β w a h C M;obtain⟨I,μ,hI,u7⟩:=h;refine OC (fun j a w=>∃ st β,I st/\μ st=j/\dX P F st β w a/\nE N₀ β₀ w₀ a₀ st β w a) ⟨st,β,hI,rfl,C,M⟩ ?_;rintro j a w ⟨st,β,hI,hμ,C,M⟩;refine wpIn_mono (ih F r n Y rf N₀ β₀ w₀ a₀ U hY al _ st β w a (u7 st hI) C M) fun e a' w' hp=>?_;obtain⟨st',β',hq,dE,fD⟩:=hp;cases e with
  |normal=>
   obtain⟨ic,hg,mw,ab3⟩:=hq;obtain⟨gS,tL,DK⟩:=Gp hg dE;exact⟨μ ic,oG,ic,gS,mw,rfl,tL,fD.since DK⟩
  |_=>exact⟨st',β',hq,dE,fD⟩
 |rangeFunc g ps assign body sD sE=>
  intro F r n Y rf N₀ β₀ w₀ a₀ U hY al Q st β w a h C M;obtain⟨env,mem,nx⟩:=st;obtain⟨Eo,lp,f,fs,cs,xs,I,vg,AN,Aq,Bj,u7,Ar⟩:=h;simp only at lp vg Bj u7 Ar;have hr:=U Eo;subst hr;simp only[iy,aM,br,Nat.blt_eq] at al;obtain⟨uc,Xn,Xo⟩:=al;have bN:a.tmps.size=a₀.tmps.size:=M.size;have hR:=(C.e.opd g).core_of _ lp;simp only[vg] at hR;refine wpIn_rangeFunc fun fn sy=>?_;obtain⟨J,qI⟩:∃ J:LoopState->Option Code->Loop,J=fun st pe=>{ state:=st,pending:=pe,fn,tmps:=a.tmps,params:=ps,assign,body,defers:=w.heap.size }:=⟨_,rfl⟩
  obtain⟨W1,yH⟩:∃ W1,(w.alloc (.deferred (some []))).alloc (.loop (J .ready none))=W1:=⟨_,rfl⟩
  obtain⟨us,vs,d,E5,qc,hu,hv,jX,hinv⟩:=OE (P:=P) hR AN.1 (w.heap.size+1) W1;have hn:∀ i,nx<=i->β i=none:=C.n;have Z3:¬ F (w.heap.size+1):=fun e=>by have:=C.m.fb _ e;omega
  let f₀:Nat->Option Nat:=fun i=>if i<nx then some i else none
  have L5:β.via f₀=β:=by
   funext i;simp only[Pla.via,f₀];split
   .rfl
   .exact(hn i oG).symm
  have ud:MSim P F (fun i=>(mem i).map (Row.renB f₀)) β w:=⟨fun i r hi=>by
   simp only[cK] at hi;obtain⟨r0,h1,rfl⟩:=hi;obtain⟨p,hp,hr⟩:=C.m.row i r0 h1
   exact⟨p,hp,RowR.hide (F':=F) (by rw[L5];exact hr) (fun _ h=>h) fun b g1 g2=>absurd (L5▸g2) g1⟩,C.m.inj,C.m.lt,C.m.nf,C.m.fb⟩
  have sF:Step β w β (w.alloc (.deferred (some []))):=step_ext oS fun b hb=>heap_alloc_old w _ hb;have vS:MSim P F (fun i=>(mem i).map (Row.renB f₀)) β (w.alloc (.deferred (some []))):=ud.ext oS fun b hb=>heap_alloc_old w _ hb
  have yI:MSim P F (up (fun i=>(mem i).map (Row.renB f₀)) nx (some (.raw (w.heap.size+1) (.loop (J .ready none))))) (up β nx (some (.raw (w.heap.size+1)))) W1:=by
   rw[<- yH];refine vS.alloc (hn nx (bE _)) _ _ _ (fun b hb=>by simp only[Pl.blk,aF] at hb;simp;omega) (.raw _ _ ?_);have:=World.alloc_heap_new (w.alloc (.deferred (some []))) (.loop (J .ready none))
   rwa[World.size_alloc] at this
  have lx:Step β w (up β nx (some (.raw (w.heap.size+1)))) W1:=by
   rw[<- yH];exact sF.trans (step_alloc vS _ (hn nx (bE _)) _ (fun b hb=>by simp only[Pl.blk,aF] at hb;simp;omega))
  have Z4:W1.heap[w.heap.size]? =some (.deferred (some [])):=by
   rw[<- yH];rw[heap_alloc_old _ _ oS];exact World.alloc_heap_new w _
  have Jq:Pla.free (up β nx (some (.raw (w.heap.size+1)))) w.heap.size:=
   free_other (fun i p hp e=>by have:=C.m.lt i p _ hp e;omega) (by rintro q hq;cases hq;simp[Pl.blk])
  have ab4:W1.heap.size=w.heap.size+2:=by rw[<- yH];simp
  have Si:∀ i,nx<=i->mem i=none:=fun i hi=>by
   cases hm:mem i with
   |none=>rfl
   |some row=>
    obtain⟨p,hp,_⟩:=C.m.row i row hm;rw[hn i hi] at hp;cases hp
  have own:∀ {f:Nat->Option Nat} {mc:Mem} {nc:Nat} {m:Mem} {dt:Nat} {β2:Pla} {w2:World},View nx nx f mc nc m dt->Step (up β nx (some (.raw (w.heap.size+1)))) W1 β2 w2->
   ∀ {d:D} {v:Value},R F β w d v->R (hidden F β2 f) (β2.via f) w2 d v:=fun {_ _ _ _ _ _ _} X aX {d v} h=>by
   have oq:=lx.trans aX;refine h.gen oq.size (fun b hb hf jR=>?_) fun i p _ hp=>?_
   .obtain⟨g1,g2⟩:=oq.imm b hb jR;exact⟨same_of g1,Pla.free_via g2 _,fun e=>e.elim hf fun e=>e.1 g2⟩
   .have hi:i<nx:=by
     rcases Nat.lt_or_ge i nx with h1|h1
     .exact h1
     .rw[hn i h1] at hp;cases hp
    simp only[Pla.via,X.id i hi,Option.bind_some];exact oq.keep i p hp
  refine⟨w.heap.size+1,[mark w.heap.size],W1,d,W1,f,_,W1,?_,jX,fun f' _=>trivial,hinv,fun hd=>by simp at hd,Hv ?_⟩
  .rw[<- yH,qI];exact run_enterLoop_outer _ _ _ _ _
  refine(AN.2 F (w.heap.size+1) (fun k=>u6 nx (w.heap.size+1) nx (.loop (J .ready none)) (I k)) (fun m k=>∃ c,u6 nx (w.heap.size+1) nx (.loop (J .done (some c))) (Jump env Q c) m k)
   (up (fun i=>(mem i).map (Row.renB f₀)) nx (some (.raw (w.heap.size+1) (.loop (J .ready none))))) (nx+1) (up β nx (some (.raw (w.heap.size+1)))) W1 _ (fun k=>u6.closed) ?_ yI ?_ ?_ ?_ ?_).mono ?_
  .rintro m k m' k' ⟨c,hc⟩ hle he;exact⟨c,u6.closed m k m' k' hc hle he⟩
  .intro i hi;rw[up_ne _ _ (show i≠nx by omega)];exact hn i oG
  .refine Rs.append (Rs.append ?_ ?_) ?_
   .exact⟨by simp[E5],fun k d v hd hv=>(hu k d v hd (by simpa using hv)).step lx⟩
   .refine⟨rfl,fun k d v hd hv=>?_⟩;cases k with
    |zero=>
     simp only[List.getElem?_cons_zero,aF] at hd;simp only[List.getElem?_toArray,List.getElem?_cons_zero,aF] at hv;subst hd;subst hv;exact .fn _ [] [] [] [] rfl rfl oS oS
    |succ k=>simp at hd
   .exact⟨by simp[qc],fun k d v hd E6=>(hv k d v hd (by simpa using E6)).step lx⟩
  .rintro k x m k' hx ⟨g,mc,nc,X,nF,Z5⟩ β2 w2 Bk Xp iI vT yJ;obtain⟨Nf,vh,_,Ep⟩:=iI.vf nF;have Xq:Bk.size=ps.size:=by rw[yJ.1];exact(Aq x (cg hx)).1
   have hy:=run_yield (P:=P) (args:=Bk) vh (by rw[qI];exact Xq);simp only[qI,PS] at hy;refine⟨fn,_,assign,body,hy,fun n'=>?_⟩;obtain⟨E7,vU⟩:=X.enter iI;have yK:hidden F β2 g (w.heap.size+1):=(X.z3 iI (fun i e=>(X.sf e).2.2 rfl) Nf rfl).2;have Jr:(β2.via g).free (w.heap.size+1):=(X.z3 iI (fun i e=>(X.sf e).2.2 rfl) Nf rfl).1;have Z6:ESim (hidden F β2 g) (β2.via g) w2 env { tmps:=a.tmps,defers:=[] }:=fun t=>own X Xp (C.e t)
   obtain⟨Z7,L6⟩:=Gx ps.toList x Bk.toList env a.tmps (by simp[yJ.1]) (fun j d v hd hv=>
    ((Aq x (cg hx)).2 d (cg hd) F β2 w2 v (yJ.2 j d v hd (by simpa using hv))).gen (bE _)
     (fun b _ hb _=>⟨SameB.refl _ b,Pla.free_via (owned_free hb).2 _,fun e=>e.elim (owned_free hb).1 fun e=>e.1 (owned_free hb).2⟩) (fun i p _ hp=>by cases hp)) (fun t ht=>by rw[bN];exact uc t ht) Z6
   have Xr:=sD (hidden F β2 g) (some (w.heap.size+1)) n' noY false nc (β2.via g) w2
    { tmps:=(ps.toList.zip Bk.toList).foldl (fun tmps (t,a)=>tmps.setIfInBounds t a) a.tmps,defers:=[] } oS (fun _ _ _ _ _ h=>h.elim) (by show iy (Array.size _) assign=true;rw[L6,bN];exact Xn) _ ⟨setAll env ps.toList x,mc,nc⟩ (β2.via g) w2 _
    (u7 k mc nc x hx Z5) ⟨Z7,E7,vU⟩ (fT.refl ⟨setAll env ps.toList x,mc,nc⟩ _ _ _).Bf
   refine roundIn_of_wpIn trivial (wpIn_mono Xr fun e a3 w3 hp=>?_);obtain⟨ic,β3,Ng,Bl,sG⟩:=hp;cases e with
   |normal=>
    have DL:w.heap.size+1<w3.heap.size:=Nat.lt_of_lt_of_le Ep sG.step.size;have T3:w3.heap[w.heap.size+1]? =some (.loop (J .ready none)):=(sG.step.imm _ Ep Jr).1.trans vh;refine⟨_,run_beginRound T3 (by rw[qI]),?_⟩;have Xs:=Bl.pW (l:=w.heap.size+1) yK (.loop { J .ready none with state:=.busy });have T4:=sE (hidden F β2 g) (some (w.heap.size+1)) n' noY false ic.nx β3 _ a3 oS (fun _ _ _ _ _ h=>h.elim) (by rw[sG.size];show iy (Array.size _) body=true;rw[L6,bN];exact Xo) _ ic β3 _ a3 Ng Xs (fT.refl ic _ _ _).Bf;refine wpIn_mono T4 fun e a4 w4 Z8=>?_;obtain⟨Nh,β4,Bm,Ni,yL⟩:=Z8;have T5:w.heap.size+1<w4.heap.size:=Nat.lt_of_lt_of_le (by simpa using DL) yL.step.size
    have T6:w4.heap[w.heap.size+1]? =some (.loop { J .ready none with state:=.busy }):=
     (yL.step.imm _ (by simpa using DL) (sG.step.imm _ Ep Jr).2).1.trans (World.putObj_heap_same DL)
    have fin:∀ (jump:Option Code) (K:D->Mem->Nat->Prop),(∀ f' iH ns,View nx nx f' Nh.mem Nh.nx iH ns->iH nx=some (.raw (w.heap.size+1) (.loop (J (if jump.isNone then .ready else .done) jump)))->K (.s (.bool jump.isNone)) iH ns)->
     ∃ v w',(Instr.endRound (w.heap.size+1) jump).run P w4=.ok v w'/\∃ v' d m' nx' β',Ending.returned v=.returned v'/\K d m' nx'/\MSim P F m' β' w'/\(∀ i,nx'<=i->β' i=none)/\R F β' w' d v'/\Step β2 w2 β' w'/\k'<=nx'/\∀ i,i<k'->β2 i=none->β' i=none:=fun jump K hK=>by
     have eJ:=run_endRound (P:=P) jump T6;have e1:∀ s p,({ ({ J .ready none with state:=.busy }:Loop) with state:=s,pending:=p }:Loop)=J s p:=fun s p=>by rw[qI]
     rw[e1] at eJ
     obtain⟨f',iH,ns,gS,v1,v2,v3,v4,v5,v6,v7⟩:=X.T2 iI vT nF (o':=.loop (J (if jump.isNone then .ready else .done) jump)) (Ni.m.pW yK _)
      (((sG.step.x _).trans (pN.put _ β3 w3 _)).trans ((yL.step.x _).trans (pN.put _ β4 w4 _))) Ni.n (Nat.le_trans sG.le yL.le) (fun i hi hb=>yL.grow i (Nat.lt_of_lt_of_le hi sG.le) (sG.grow i hi hb)) (World.putObj_heap_same T5)
     exact⟨_,_,eJ,.bool jump.isNone,_,iH,ns,gS,rfl,hK f' iH ns v1 v2,v3,v4,.s _ rfl,v5,v6,v7⟩
    cases e with
    |normal=>exact fin none _ fun f' iH ns v1 v2=>.inl ⟨rfl,f',_,_,v1,v2,Bm⟩
    |ret=>exact fin (some .ret) _ fun f' iH ns v1 v2=>.inr ⟨rfl,.ret,f',_,_,v1,v2,Bm⟩
    |exit id=>exact fin (some (.exit id)) _ fun f' iH ns v1 v2=>.inr ⟨rfl,.exit id,f',_,_,v1,v2,Bm⟩
    |_=>exact Bm.elim
   |_=>exact Ng.elim
  .refine⟨f₀,mem,nx,⟨bE _,oG,fun i hi=>by simp[f₀,hi],fun i hi=>⟨i,by simp[f₀,hi],oG,oG⟩,fun i hi=>by simp[f₀,Nat.not_lt.2 hi],fun i i' j h1 h2=>?_,fun i r hi=>?_⟩,up_same _ _ _,Bj⟩
   .simp only[f₀,Option.ite_none_right_eq_some,aF] at h1 h2;omega
   .have al:i<nx:=by
     rcases Nat.lt_or_ge i nx with h1|h1
     .exact h1
     .rw[Si i h1] at hi;cases hi
    exact⟨i,by simp[f₀,al],by rw[up_ne _ _ (show i≠nx by omega),hi];rfl⟩
  .rintro e w6 ⟨v,d6,m6,Z9,β6,rfl,L7,qY,hn6,_,qJ,ab5,Xt⟩
   have fin:∀ {g:Nat->Option Nat} {mc:Mem} {nc:Nat} (o':Obj),View nx nx g mc nc m6 Z9->
    dX P F ⟨env,mc,nc⟩ (β6.via g) (w6.putObj (w.heap.size+1) o') { a with defers:=[mark w.heap.size]++a.defers }/\
    nE N₀ β₀ w₀ a₀ ⟨env,mc,nc⟩ (β6.via g) (w6.putObj (w.heap.size+1) o') { a with defers:=[mark w.heap.size]++a.defers }:=fun {g mc nc} o' X=>by
    obtain⟨E7,vU⟩:=X.enter qY
    have yK:hidden F β6 g (w.heap.size+1):=by
     have hβ:β6 nx=some (.raw (w.heap.size+1))\/β6 nx=some .dead:=qJ.keep nx _ (up_same _ _ _);rcases hβ with hβ|hβ
     .exact(X.z3 qY (fun i e=>(X.sf e).2.2 rfl) hβ rfl).2
     .exfalso;rcases L7 with⟨f',Z',mv,_,Er,_⟩|⟨c,f',Z',mv,_,Er,_⟩
      .rw[(qY.vf Er).1] at hβ;cases hβ
      .rw[(qY.vf Er).1] at hβ;cases hβ
    refine⟨⟨fun t=>((own X qJ (C.e t)).pW yK o').weak fun b hb=>.inl hb,(E7.pW yK o').weak fun b hb=>.inl hb,vU⟩,M.trans ⟨⟨?_,fun b hb hf=>?_,fun i p hp=>?_,(lx.out.trans qJ.out).trans ⟨rfl,rfl⟩⟩,X.low,fun i hi hb=>?_,rfl,[mark w.heap.size],rfl,?_⟩⟩
    .have:=qJ.size;simp;omega
    .obtain⟨g1,g2⟩:=lx.imm b hb hf;obtain⟨g3,g4⟩:=qJ.imm b oG g2;exact⟨(World.putObj_heap_other oG).trans (g3.trans g1),Pla.free_via g4 _⟩
    .have hi:i<nx:=by
      rcases Nat.lt_or_ge i nx with h1|h1
      .exact h1
      .rw[hn i h1] at hp;cases hp
     simp only[Pla.via,X.id i hi,Option.bind_some];exact(lx.trans qJ).keep i p hp
    .have hi:i<nx:=hi;simp only[Pla.via,X.id i hi,Option.bind_some];exact Xt i oG (by rw[up_ne _ _ oG];exact hb)
    .refine⟨w.heap.size,rfl,bE _,?_,?_,?_,trivial⟩
     .have:=qJ.size;simp;omega
     .exact(World.putObj_heap_other oG).trans ((qJ.imm _ oG Jq).1.trans Z4)
     .exact Pla.free_via (qJ.imm _ oG Jq).2 _
   rcases L7 with⟨g,mc,nc,X,nF,hI⟩|⟨c,g,mc,nc,X,nF,hj⟩
   .have eJ:(Instr.endLoop (w.heap.size+1)).run P w6=.ok none (w6.putObj (w.heap.size+1) (.loop (J .exhausted none))):=by
     have:=run_endLoop (P:=P) (qY.vf nF).2.1 (by rw[qI];simp);rw[qI] at this ⊢;exact this
    obtain⟨g1,g2⟩:=fin (.loop (J .exhausted none)) X;exact⟨none,_,eJ,⟨env,mc,nc⟩,_,Ar mc nc hI,g1,g2⟩
   .have eJ:(Instr.endLoop (w.heap.size+1)).run P w6=.ok (some c) (w6.putObj (w.heap.size+1) (.loop (J .exhausted (some c)))):=by
     have:=run_endLoop (P:=P) (qY.vf nF).2.1 (by rw[qI];simp);rw[qI] at this ⊢;exact this
    obtain⟨g1,g2⟩:=fin (.loop (J .exhausted (some c))) X;refine⟨some c,_,eJ,?_⟩;cases c with
    |ret=>exact wpIn_ret ⟨⟨env,mc,nc⟩,_,hj,g1,g2⟩
    |exit id=>exact wpIn_exit ⟨⟨env,mc,nc⟩,_,hj,g1,g2⟩
    |_=>exact hj.elim
 |_=>intro F r n Y rf N₀ β₀ w₀ a₀ U hY al Q st β w a h;exact h.elim
end
section
variable{P:Program}{F:Nat->Prop}{fn:Func}
def vt(tmps:Array Value):ResultVar->Sem Value
 | .tmp t=>pure (tmps.getD t undef)
 | .cell x t=>do loadVar t (<- asAddr (tmps.getD x undef))
theorem O6(fn:Func)(tmps:Array Value):results fn tmps=(do
 let vs<- fn.results.mapM (vt tmps)
 pure (if h:vs.size=1 then vs[0] else .tuple vs)):=by
 unfold results;congr 1
theorem Sq{st:St}{β:Pla}{w:World}{a:Act}(C:dX P F st β w a){r:ResultVar}{p:Prop}{d:D}(h:resD P st r=some (p,d))(hp:p):
 ∃ v,(vt a.tmps r).run P w=.ok v w/\R F β w d v:=by
 unfold resD at h;split at h
 .cases h;exact⟨_,by simp[vt],C.e _⟩
 .rename_i x t;have hx:=C.e x;split at h
  .rename_i i off M;rw[M] at hx;split at h
   .rename_i cs e hm;cases h;obtain⟨b,o,room,sz,X,hv,av⟩:=hx.rp_inv C.m hm;obtain⟨u,J,hr⟩:=run_load_rd (P:=P) hp.1 (av.rd.1.drop off) oP;refine⟨u,?_,hr⟩;simp only[vt,hv,Sem.run_bind];simp[asAddr,J]
   .cases h
  .rename_i cs M;rw[M] at hx;cases h;obtain⟨b,o,hv,_,_,_,U⟩:=hx.pt_inv;obtain⟨u,J,hr⟩:=run_load_rd (P:=P) hp.1 U hp.2;refine⟨u,?_,hr⟩;simp only[vt,hv,Sem.run_bind];simp[asAddr,J]
  .cases h
theorem HB{st:St}{β:Pla}{w:World}{a:Act}(J:dX P F st β w a){K:List D->Prop}:∀ (rs:List ResultVar) (C:List D),retL P st rs C K->
 ∃ vs ds,(rs.mapM (vt a.tmps)).run P w=.ok vs w/\vs.length=ds.length/\K (C++ds)/\
  ∀ (k:Nat) (d:D) (v:Value),ds[k]? =some d->vs[k]? =some v->R F β w d v
 |[],C,h=>⟨[],[],oS,rfl,by simpa[retL] using h,oS⟩
 |r::rs,C,h=>by
  simp only[retL] at h;split at h
  .rename_i p d hr;obtain⟨v,h1,h2⟩:=Sq J hr h.1;obtain⟨vs,ds,h3,h4,h5,M⟩:=HB J rs _ h.2;refine⟨v::vs,d::ds,?_,by simp[h4],by simpa using h5,fun k d' U hd hv=>?_⟩
   .rw[List.mapM_cons];simp only[Sem.run_bind];rw[h1];simp only[Result.andThen_ok,Sem.run_bind];rw[h3];simp
   .cases k with
    |zero=>simp at hd hv;subst hd;subst hv;exact h2
    |succ k=>exact M k d' U (by simpa using hd) (by simpa using hv)
  .exact h.elim
theorem OR{st:St}{β:Pla}{w:World}{a:Act}(C:dX P F st β w a){K:D->Prop}(h:retL P st fn.results.toList [] fun ds=>K (one1 ds)):
 ∃ v d,(results fn a.tmps).run P w=.ok v w/\K d/\R F β w d v:=by
 obtain⟨vs,ds,h1,h2,h3,h4⟩:=HB C _ _ h;simp only[List.nil_append] at h3;refine⟨if h:vs.toArray.size=1 then vs.toArray[0] else .tuple vs.toArray,one1 ds,?_,h3,?_⟩
 .rw[O6,Array.mapM_eq_mapM_toList];simp only[Sem.run_bind,map_eq_pure_bind,bind_assoc];rw[h1];simp
 .split
  .rename_i bN;simp only[List.size_toArray] at bN;obtain⟨v,rfl⟩:=List.length_eq_one_iff.1 bN;obtain⟨d,rfl⟩:=List.length_eq_one_iff.1 (show ds.length=1 by simpa using h2.symm);exact h4 0 d v rfl rfl
  .rename_i bN;simp only[List.size_toArray] at bN
   have:one1 ds=.tup ds:=by
    unfold one1;split
    .rename_i d;simp at h2;exact absurd h2 bN
    .rfl
   rw[this];exact .tup ds vs h2 h4
theorem OG{w:World}{b:Nat}{x:Option (List Deferred)}(h:w.heap[b]? =some (.deferred x))(o:Nat):w.cell? ⟨b,o,none⟩=none:=by
 simp[World.cell?,h]
theorem R.HC{w:World}{b:Nat}{x:Option (List Deferred)}(hb:w.heap[b]? =some (.deferred x))(o:Obj)(J:Nat):SameB w (w.putObj b o) J:=by
 refine⟨fun k u M=>?_,fun ms c hm=>?_⟩
 .have C:J≠b:=fun e=>by rw[e,OG hb] at M;cases M
  exact(cell_of_heap (World.putObj_heap_other C)).trans M
 .have C:J≠b:=fun e=>by rw[e,hb] at hm;cases hm
  exact(World.putObj_heap_other C).trans hm
theorem dX.putD{st:St}{β:Pla}{w:World}{a:Act}{b:Nat}{x:Option (List Deferred)}(hb:w.heap[b]? =some (.deferred x))(hf:β.free b)(o:Obj)(h:dX P F st β w a):dX P F st β (w.putObj b o) a:=
 ⟨fun t=>(h.e t).gen oS (fun C _ h1 h2=>⟨R.HC hb o C,h2,h1⟩) fun _ _ _ h=>.inl h,⟨fun i r hi=>by
  obtain⟨p,hp,hr⟩:=h.m.row i r hi;exact⟨p,hp,hr.gen oS (fun C _ h1 h2=>⟨R.HC hb o C,h2,h1⟩) (fun _ _ _ h=>.inl h) fun c hc=>World.putObj_heap_other fun e=>hf i p hp (e▸hc)⟩,
  h.m.inj,fun i p c hp hc=>by simpa using h.m.lt i p c hp hc,h.m.nf,fun c hc=>by simpa using h.m.fb c hc⟩,h.n⟩
theorem Marks.put{β:Pla}{w:World}{lo b:Nat}(o:Obj):∀ {ds:List Deferred} {hi:Nat},hi<=b->Marks β w lo ds hi->Marks β (w.putObj b o) lo ds hi
 |[],_,_,_=>trivial
 |_::_,_,hle,⟨c,h1,h2,h3,h4,h5,h6⟩=>⟨c,h1,h2,h3,(World.putObj_heap_other oG).trans h4,h5,Marks.put o oG h6⟩
theorem Gj{n:Nat}{tmps:Array Value}{R:Ending->World->Prop}{st:St}{β₀ β:Pla}{w₀:World}{a:Act}:∀ (ds:List Deferred) (hi:Nat) (w:World),Marks β w w₀.heap.size ds hi->dX P F st β w a->Step β₀ w₀ β w->
 (∀ w',dX P F st β w' a->Step β₀ w₀ β w'->∃ v,(results fn tmps).run P w'=.ok v w'/\R (.returned v) w')->LeavesInM (Fe none) n P fn tmps R ds .returning w
 |[],_,w,_,hs,aX,K=>K w hs aX
 |d::ds,hi,w,⟨b,h1,h2,h3,h4,h5,h6⟩,hs,aX,K=>by
  subst h1;refine⟨oS,.inl ⟨b,_,rfl,run_takeDeferred h4,Gj ds b _ (h6.put _ (bE _)) (hs.putD h4 h5 _) ?_ K⟩⟩;refine⟨by simpa using aX.size,fun c hc hf=>?_,aX.keep,aX.out.trans ⟨rfl,rfl⟩⟩;obtain⟨C,J⟩:=aX.imm c hc hf;exact⟨(World.putObj_heap_other oG).trans C,J⟩
theorem wM(kE:P.follows .mixedOrders=true){Y:YSpec}{f:FuncId}{c:Code}(hf:P.funcs[f]? =some fn)(hb:fn.body=some c)(al:iy fn.ntmps c=true){args:List D}(hn:Nat.ble args.length fn.ntmps=true){m:Mem}{nx:Nat}{K:D->St->Prop}
 (h:AW P Y true c (retQ P fn.results.toList K) ⟨envOf args,m,nx⟩) {β:Pla} {w:World} {vs:Array Value} (hY:∀ l args m nx K,Y l args m nx K->YCall P F β w l args m nx K) (hm:MSim P F m β w) (gE:∀ i,nx<=i->β i=none) (hR:Rs F β w args vs):
 Calls P f vs w fun e w'=>∃ v d st' β',e=.returned v/\K d st'/\R F β' w' d v/\MSim P F st'.mem β' w'/\(∀ i,st'.nx<=i->β' i=none)/\Step β w β' w'/\nx<=st'.nx/\∀ i,i<nx->β i=none->β' i=none:=by
 have hle:args.length<=fn.ntmps:=by simpa using hn
 refine(callsIn_wide (n:=0)).1 (callsIn_of_wp_marks hf hb trivial ?_)
 have bN:(vs++Array.replicate (fn.ntmps - vs.size) undef).size=fn.ntmps:=by
  simp only[Array.size_append,Array.size_replicate,hR.1];omega
 let a₀:Act:={ tmps:=vs++Array.replicate (fn.ntmps - vs.size) undef,defers:=[] }
 have hE:ESim F β w (envOf args) a₀:=fun t=>by
  unfold envOf;rcases Nat.lt_or_ge t args.length with al|X
  .have h1:args.getD t .u=args[t]:=by simp[al]
   have h2:a₀.tmps.getD t undef=vs[t]'(by rw[hR.1];exact al):=by
    show(vs++Array.replicate (fn.ntmps - vs.size) undef).getD t undef=_;have h3:t<vs.size:=by rw[hR.1];exact al
    simp[Array.getD_eq_getD_getElem?,Array.getElem?_append_left h3,h3]
   rw[h1,h2];exact hR.2 t _ _ (by simp[al]) (by simp[hR.1,al])
  .have h1:args.getD t .u=.u:=by simp[X]
   rw[h1];exact .u _
 have:=Q5 kE c F none 0 Y true nx β w a₀ (fun _=>rfl) hY (by show iy (vs++Array.replicate (fn.ntmps - vs.size) undef).size c=true;rw[bN];exact al) _ ⟨envOf args,m,nx⟩ β w a₀ h ⟨hE,hm,gE⟩ (fT.refl ⟨envOf args,m,nx⟩ β w a₀).Bf;refine wpIn_mono this fun e a' w' hp=>?_;obtain⟨st',β',hq,dE,C⟩:=hp
 have M:(retL P st' fn.results.toList [] fun ds=>K (one1 ds) st')->LeavesInM (Fe none) 0 P fn a'.tmps (fun e w'=>∃ v d st' β',e=.returned v/\K d st'/\R F β' w' d v/\MSim P F st'.mem β' w'/\(∀ i,st'.nx<=i->β' i=none)/\Step β w β' w'/\nx<=st'.nx/\∀ i,i<nx->β i=none->β' i=none) a'.defers .returning w':=fun hq=>by
  obtain⟨ds,h1,h2⟩:=C.defers;rw[h1,show a₀.defers=[] from rfl,List.append_nil];refine Gj ds _ w' h2 dE C.step fun w'' J U=>?_;obtain⟨v,d,g1,g2,g3⟩:=OR (K:=fun d=>K d st') J hq;exact⟨v,g1,v,d,st',β',rfl,g2,g3,J.m,J.n,U,C.le,C.grow⟩
 cases e with
 |normal=>exact M hq
 |ret=>exact M hq
 |_=>exact hq.elim
theorem Cg{w:World}(C:∀ b,F b->b<w.heap.size):MSim P F (fun _=>none) noRows w:=
 ⟨fun i r h=>oH,fun i j p q b h=>oH,fun i p b h=>oH,fun i p b h=>oH,C⟩
theorem BU{β':Pla}{w w':World}(h:Step noRows w β' w'):Kept w w':=
 ⟨h.size,fun b hb=>(h.imm b hb fun i p hp=>by cases hp).1,h.out⟩
theorem Tr.xU{d:D}(h:Tr d){β:Pla}{w:World}{v:Value}(hv:R F β w d v):R F noRows w d v:=
 (h F β w v hv).lift fun b hb=>⟨fun e=>hb (.inl e),fun i p hp=>by cases hp⟩
structure kF(P:Program)(f:FuncId)(fn:Func)(c:Code):Prop where
 hf:P.funcs[f]? =some fn
 hb:fn.body=some c
 al:iy fn.ntmps c=true
 he:enterOk P f=true
theorem HD(X:P.follows .mixedOrders=true){f:FuncId}{c:Code}(hf:kF P f fn c){args:List D}(hn:Nat.ble args.length fn.ntmps=true){m:Mem}{nx:Nat}{dp:D->Mem->Nat->Prop}
 (h:AW P noY true c (retQ P fn.results.toList fun d st=>dp d st.mem st.nx) ⟨envOf args,m,nx⟩):ACalls P f args m nx dp:=
 ⟨hf.he,fun F β w vs hm C hR=>(wM X hf.hf hf.hb hf.al hn h (fun _ _ _ _ _ h=>h.elim) hm C hR).mono fun e w' ⟨v,d,st',β',h1,h2,h3,h4,h5,J,M,U⟩=>⟨v,d,st'.mem,st'.nx,β',h1,h2,h4,h5,h3,J,M,U⟩⟩
theorem Q8(M:P.follows .mixedOrders=true){f:FuncId}{c:Code}(hf:kF P f fn c){args:List D}(hn:Nat.ble args.length fn.ntmps=true)(ht:∀ a∈args,Tr a){r:D}(hr:Tr r)
 (h:AW P noY true c (retQ P fn.results.toList fun d _=>d=r) ⟨envOf args,fun _=>none,0⟩):PCall P f args r:=
 ⟨hf.he,ht,fun F w vs J hR=>(wM M hf.hf hf.hb hf.al hn h (fun _ _ _ _ _ h=>h.elim) (Cg J) (fun _ _=>rfl) hR).mono fun e w' hp=>by
  obtain⟨v,d,st',β',h1,rfl,h3,h4,h5,C,U,X⟩:=hp
  exact⟨v,h1,hr.xU h3,BU C⟩⟩
theorem HE (kE:P.follows .mixedOrders=true){f:FuncId}{c:Code}(hf:kF P f fn c){args:List D}(hn:Nat.ble args.length fn.ntmps=true)(ht:∀ a∈args,Tr a){es:List D}(gT:∀ a∈es,Tr a){k:Nat}{t:TypeId}
 (h:AW P noY true c (retQ P fn.results.toList fun d st=>∃ i,d=.rs i 0 k/\st.mem i=some (.cells es t)) ⟨envOf args,fun _=>none,0⟩):OCall P f args es k t:=
 ⟨hf.he,ht,fun F w vs hF hR=>(wM kE hf.hf hf.hb hf.al hn h (fun _ _ _ _ _ h=>h.elim) (Cg hF) (fun _ _=>rfl) hR).mono fun e w' hp=>by
  obtain⟨v,d,st',β',h1,⟨i,rfl,hi⟩,h3,h4,h5,J,h7,h8⟩:=hp;obtain⟨p,hp,av⟩:=h4.row i _ hi;refine⟨v,p,h1,?_,fun b hb=>⟨?_,h4.lt i p b hp hb⟩,?_,?_,BU J⟩
  .rintro rfl;cases av
  .rcases Nat.lt_or_ge b w.heap.size with al|M
   .exact absurd hb ((J.imm b al fun i p hp=>by cases hp).2 i p hp)
   .exact M
  .have lift:∀ d∈es,∀ u,R F β' w' d u->R (fun x=>F x\/p.blk=some x) noRows w' d u:=fun d hd u hu=>
    (gT d hd F β' w' u hu).lift fun b hb=>⟨fun e=>hb (by
     rcases e with e|e
     .exact .inl e
     .exact .inr fun jR=>jR i p hp e),fun i p hp=>by cases hp⟩
   cases av with
   |nil _=>exact .nil _
   |cells _ _ b o room sz c q1 q2 q3 q4 q5=>
    refine .cells es t b o room sz c q1 q2 q3 q4 fun j d hd=>?_;obtain⟨u,u1,u2,u3⟩:=q5 j d hd;exact⟨u,u1,lift d (cg hd) u u2,u3⟩
  .cases h3 with
   |rsd _ _ _ _ C _=>rw[C] at hp;cases hp;cases av
   |rsn _ a C=>rw[C] at hp;cases hp;exact .rsn 0 a (up_same _ _ _)
   |rsz _ _ a b o len room sz C=>rw[C] at hp;cases hp;exact .rsz 0 0 a b o len room sz (up_same _ _ _)
   |rs _ _ _ cap b o len room sz C U X g3 g4=>rw[C] at hp;cases hp;exact .rs 0 0 k cap b o len room sz (up_same _ _ _) U X g3 g4⟩
def Ma(C:Nat)(xs:List (List D))(I:Nat->Mem->Nat->Prop)(Stop:Mem->Nat->Prop):YSpec:=fun l args m nx dp=>
 l=C/\∃ k,xs[k]? =some args/\I k m nx/\∀ d m' nx',SeqPost I Stop k d m' nx'->dp d m' nx'
theorem YCall.mono{β:Pla}{w:World}{l:Nat}{args:List D}{m:Mem}{nx:Nat}{K K':D->Mem->Nat->Prop}(hk:∀ d m nx,K d m nx->K' d m nx)(h:YCall P F β w l args m nx K):YCall P F β w l args m nx K':=
 fun β' w' us h1 h2 h3 h4=>by
  obtain⟨f,tmps,assign,body,C,J⟩:=h β' w' us h1 h2 h3 h4;exact⟨f,tmps,assign,body,C,fun n=>RoundIn.mono (F:=Fence.wide) (J n) fun e w' ⟨v,d,m',nx',β',M,U,X⟩=>⟨v,d,m',nx',β',M,hk _ _ _ U,X⟩⟩
theorem Du(kE:P.follows .mixedOrders=true){f:FuncId}{c:Code}(hf:kF P f fn c){fs cs:List D}(hn:Nat.ble (fs.length+1+cs.length) fn.ntmps=true){xs:List (List D)}
 (h:∀ (l:Nat) (I:Nat->Mem->Nat->Prop) (Stop:Mem->Nat->Prop) (m:Mem) (nx:Nat),(∀ k,Closed (I k))->Closed Stop->I 0 m nx->
  AW P (Ma l xs I Stop) true c (retQ P fn.results.toList fun _ st=>I xs.length st.mem st.nx\/Stop st.mem st.nx) ⟨envOf (fs++[.fn (.yield l) [] []]++cs),m,nx⟩):SeqA P f fs cs xs:=
 ⟨hf.he,fun F l I Stop m nx β w vs hI C hm J hR hy h0=>
  (wM kE hf.hf hf.hb hf.al (by simpa[Nat.add_assoc,Nat.add_comm,Nat.add_left_comm] using hn) (h l I Stop m nx hI C h0) (fun l' args m' nx' K hK=>by
   obtain⟨rfl,k,h1,h2,h3⟩:=hK
   exact(hy k args m' nx' h1 h2).mono h3) hm J hR).mono fun e w' ⟨v,d,st',β',h1,h2,h3,h4,h5,M,U,X⟩=>⟨v,d,st'.mem,st'.nx,β',h1,h2,h4,h5,h3,M,U,X⟩⟩
end
section
variable{P:Program}{Y:YSpec}{rf:Bool}{Q:Exit->St->Prop}{st:St}
theorem Ii(c a b):AW P Y rf (.cond c a b) Q st=((opd st.env c).ask/\match (opd st.env c).core with
 | .s (.bool t)=>(t=true->AW P Y rf a Q st)/\(t=false->AW P Y rf b Q st)
 | .ub=>AW P Y rf a Q st/\AW P Y rf b Q st
 |_=>False):=rfl
theorem Ij{b:Code}(I:St->Prop)(μ:St->Nat)(h0:I st)(h:∀ st',I st'->AW P Y rf b (seqQ (fun J=>∃ C,Ghost P J C/\I C/\μ C<μ st') Q) st'):AW P Y rf (.loop b) Q st:=⟨I,μ,h0,h⟩
theorem ACalls.mono{f:FuncId}{args:List D}{m:Mem}{nx:Nat}{dp C:D->Mem->Nat->Prop}(h:ACalls P f args m nx dp)(hp:∀ d m' nx',dp d m' nx'->C d m' nx'):ACalls P f args m nx C:=
 ⟨h.1,fun F β w vs hm hn hR=>(h.2 F β w vs hm hn hR).mono fun e w' ⟨v,d,m',nx',β',h1,h2,h3⟩=>⟨v,d,m',nx',β',h1,hp _ _ _ h2,h3⟩⟩
theorem CallOp.mono{dr:Bool}{f:FuncId}{args:List D}{K K':D->Mem->Nat->List Nat->List Nat->Prop}(hk:∀ d m nx rd wr,K d m nx rd wr->K' d m nx rd wr)(h:CallOp P dr st f args K):CallOp P dr st f args K':=by
 rcases h with⟨r,h1,h2⟩|⟨args',rds,r,h1,h2,h3,h4⟩|⟨es,n,t,h1,h2⟩|⟨h1,h2⟩|⟨r,ups,rds,h1,h2,h3⟩|⟨es,n,t,ups,rds,h1,h2,h3,h4⟩
 .exact .inl ⟨r,h1,hk _ _ _ _ _ h2⟩
 .exact .inr (.inl ⟨args',rds,r,h1,h2,h3,hk _ _ _ _ _ h4⟩)
 .exact .inr (.inr (.inl ⟨es,n,t,h1,hk _ _ _ _ _ h2⟩))
 .exact .inr (.inr (.inr (.inl ⟨h1,h2.mono fun d m nx h=>hk _ _ _ _ _ h⟩)))
 .exact .inr (.inr (.inr (.inr (.inl ⟨r,ups,rds,h1,h2,hk _ _ _ _ _ h3⟩))))
 .exact .inr (.inr (.inr (.inr (.inr ⟨es,n,t,ups,rds,h1,h2,h3,hk _ _ _ _ _ h4⟩))))
class dC(Y:YSpec):Prop where
 mono:∀ l args m nx K K',(∀ d m nx,K d m nx->K' d m nx)->Y l args m nx K->Y l args m nx K'
instance:dC noY:=⟨fun _ _ _ _ _ _ _ h=>h⟩
instance{l:Nat}{xs:List (List D)}{I:Nat->Mem->Nat->Prop}{Stop:Mem->Nat->Prop}:dC (Ma l xs I Stop):=⟨fun _ _ _ _ _ _ hk ⟨h1,k,h2,h3,h4⟩=>⟨h1,k,h2,h3,fun d m nx h=>hk _ _ _ (h4 d m nx h)⟩⟩
theorem AOp.mono[dC Y]{ops:Array Oper}{dr:Bool}{o:Oper}{K K':St->List Nat->List Nat->Prop}(hk:∀ st rd wr,K st rd wr->K' st rd wr)(h:AOp P Y ops dr o st K):AOp P Y ops dr o st K':=by
 unfold AOp at h ⊢;split at h
 .refine⟨h.1,?_⟩;have h:=h.2;split at h
  .exact h.mono fun _ _ _ _ _ h=>hk _ _ _ h
  .split at h
   .exact⟨h.1,dC.mono _ _ _ _ _ _ (fun _ _ _ h=>hk _ _ _ h) h.2⟩
   .split at h
    .exact⟨h.1,hk _ _ _ h.2⟩
    .exact h
 .split at h
  .exact h
  .split at h
   .rcases h with⟨r,h1,h2⟩|⟨h1,h2⟩
    .exact .inl ⟨r,h1,hk _ _ _ h2⟩
    .exact .inr ⟨fun hc=>⟨(h1 hc).1,(h1 hc).2.mono fun _ _ _ _ _ h=>hk _ _ _ h⟩,fun hc=>hk _ _ _ (h2 hc)⟩
   .split at h
    .exact⟨fun hc=>⟨(h.1 hc).1,(h.1 hc).2.1,dC.mono _ _ _ _ _ _ (fun _ _ _ h=>hk _ _ _ h) (h.1 hc).2.2⟩,fun hc=>hk _ _ _ (h.2 hc)⟩
    split at h
    .split at h
     .rename_i hc;rw[if_pos hc];exact⟨h.1,hk _ _ _ h.2⟩
     .rename_i hc;rw[if_neg hc];exact⟨fun hc=>⟨(h.1 hc).1,(h.1 hc).2.1,hk _ _ _ (h.1 hc).2.2⟩,fun hc=>hk _ _ _ (h.2 hc)⟩
    .exact⟨h.1,hk _ _ _ h.2⟩
theorem AOps.mono[dC Y]{ops:Array Oper}{dr:Bool}{cf:List (Nat×Nat)}{Q C:Exit->St->Prop}(hq:∀ st,Q .normal st->C .normal st):∀ (l:List Oper) (st:St) (tr:Tra),AOps P Y ops dr cf Q l st tr->AOps P Y ops dr cf C l st tr
 |[],st,tr,h=>⟨h.1,hq _ h.2⟩
 |o::l,st,tr,h=>AOp.mono (fun st' rd wr h=>AOps.mono hq l st' _ h) h
theorem qt:∀ (c:Code) {Y:YSpec} [dC Y] {rf:Bool} {Q C:Exit->St->Prop} {st:St},(∀ e st,Q e st->C e st)->AW P Y rf c Q st->AW P Y rf c C st:=by
 intro c
 induction c with
 |skip=>intro Y _ rf;exact fun hq h=>hq _ _ h
 |ret=>intro Y _ rf;exact fun hq h=>hq _ _ h
 |exit id=>intro Y _ rf;exact fun hq h=>hq _ _ h
 |region id ops draw=>
  intro Y _ rf Q C st hq h;cases draw with
  |false=>exact AOps.mono (hq .normal) _ _ _ h
  |true=>
   simp only[AW] at h ⊢;split at h
   .exact AOps.mono (hq .normal) _ _ _ h
   .exact h
 |seq a b J M=>
  intro Y _ rf Q C st hq h;refine J (fun e st' h=>?_) h;cases e with
  |normal=>obtain⟨U,hg,hb⟩:=h;exact⟨U,hg,M hq hb⟩
  |_=>exact hq _ _ h
 |cond c a b J M=>
  intro Y _ rf Q C st hq h;refine⟨h.1,?_⟩;have h:=h.2;split at h
  .exact⟨fun ht=>J hq (h.1 ht),fun ht=>M hq (h.2 ht)⟩
  .exact⟨J hq h.1,M hq h.2⟩
  .exact h
 |block id b ih=>
  intro Y _ rf Q C st hq h;refine ih (fun e st' h=>?_) h;cases e with
  |exit i=>
   simp only[blockQ] at h ⊢;split at h
   .rename_i hi;rw[if_pos hi];exact hq _ _ h
   .rename_i hi;rw[if_neg hi];exact hq _ _ h
  |_=>exact hq _ _ h
 |scope b ih=>
  intro Y _ rf Q C st hq h;refine ih (fun e st' h=>?_) h;cases e with
  |goto l=>exact h
  |_=>exact hq _ _ h
 |loop b ih=>
  intro Y _ rf Q C st hq h;obtain⟨I,μ,h0,h1⟩:=h;refine⟨I,μ,h0,fun st' hi=>ih (fun e U h=>?_) (h1 st' hi)⟩;cases e with
  |normal=>exact h
  |_=>exact hq _ _ h
 |label l=>intro Y _ rf;exact fun hq h=>hq _ _ h
 |rangeFunc g ps assign body J M=>
  intro Y _ rf Q C st hq h;obtain⟨Eo,lp,f,fs,cs,xs,I,vg,X,Aq,Bj,u7,Ar⟩:=h;refine⟨Eo,lp,f,fs,cs,xs,I,vg,X,Aq,Bj,fun k m nx x hx hI=>J (fun e s h=>?_) (u7 k m nx x hx hI),fun m nx h=>hq _ _ (Ar m nx h)⟩;cases e with
  |normal=>
   refine M (fun e s h=>?_) h;cases e with
   |normal=>exact h
   |ret=>exact hq _ _ h
   |exit id=>exact hq _ _ h
   |_=>exact h
  |_=>exact h
 |_=>intro Y _ rf;exact fun _ h=>h.elim
theorem least{p:Nat->Prop}:∀ j,p j->∃ i,p i/\∀ k,p k->i<=k:=by
 intro j
 induction j using Nat.strongRecOn with
 |_ j ih=>
  intro hj;by_cases h:∃ k,k<j/\p k
  .obtain⟨k,hk,hp⟩:=h;exact ih k hk hp
  .exact⟨j,hj,fun k hk=>Nat.le_of_not_lt fun al=>h ⟨k,al,hk⟩⟩
open Classical in
theorem HI[dC Y]{b:Code}(J:Nat->St->Prop){j₀:Nat}(h0:J j₀ st)(h:∀ j st',J j st'->AW P Y rf b (seqQ (fun gA=>∃ U,Ghost P gA U/\∃ M,M<j/\J M U) Q) st'):AW P Y rf (.loop b) Q st:=by
 have C:∀ st,(∃ j,J j st)->∃ i,J i st/\∀ k,J k st->i<=k:=fun st ⟨j,hj⟩=>least j hj
 let μ:St->Nat:=fun st=>if h:∃ j,J j st then Classical.choose (C st h) else 0
 have hμ:∀ st,(hj:∃ j,J j st)->J (μ st) st/\∀ k,J k st->μ st<=k:=fun st hj=>by
  have:μ st=Classical.choose (C st hj):=by simp only[μ];rw[dif_pos hj]
  rw[this];exact Classical.choose_spec (C st hj)
 refine Ij (fun st=>∃ j,J j st) μ ⟨j₀,h0⟩ fun st' hj=>qt b (fun e gA hq=>?_) (h (μ st') st' (hμ st' hj).1);cases e with
 |normal=>
  obtain⟨U,hg,M,al,X⟩:=hq;exact⟨U,hg,⟨M,X⟩,Nat.lt_of_le_of_lt ((hμ U ⟨M,X⟩).2 M X) al⟩
 |_=>exact hq
end
section
variable{P:Program}{F:Nat->Prop}{β:Pla}{w:World}
theorem Tr.opt{c:Bool}{d:D}(h:Tr d):Tr (.opt c d):=fun F β w v hv=>by
 cases hv with
 |opt _ _ _ h1 h2=>exact .opt c d v (fun hc=>h F β w v (h1 hc)) h2
theorem Tr.agg{cs:List D}(h:∀ d∈cs,Tr d):Tr (.agg cs):=fun F β w v hv=>by
 obtain⟨vs,rfl,hl,C⟩:=hv.agg_inv;exact .agg cs vs hl fun k d u hd J=>h d (cg hd) F β w u (C k d u hd J)
theorem Tr.tup{cs:List D}(h:∀ d∈cs,Tr d):Tr (.tup cs):=fun F β w v hv=>by
 obtain⟨vs,rfl,hl,C⟩:=hv.tup_inv;exact .tup cs vs hl fun k d u hd J=>h d (cg hd) F β w u (C k d u hd J)
theorem Tr.sl{cs:List D}{n:Nat}(h:∀ d∈cs,Tr d):Tr (.sl cs n):=fun F β w v hv=>by
 cases hv with
 |sln a cap=>exact .sln a cap
 |sl _ _ b o cap us hf hb al nt dZ hc C=>
  exact .sl cs n b o cap us (fun e=>e.elim hf fun e=>e hb) (fun i p hp=>by cases hp) al nt dZ hc fun k d hd=>h d (cg hd) F β w _ (C k d hd)
theorem Tr.pt{cs:List D}(h:∀ d∈cs,Tr d):Tr (.pt cs):=fun F β w v hv=>by
 cases hv with
 |pt _ b o us hf hb al hc C=>
  exact .pt cs b o us (fun e=>e.elim hf fun e=>e hb) (fun i p hp=>by cases hp) al hc fun k d hd=>h d (cg hd) F β w _ (C k d hd)
theorem Tr.fn{f:Fn}{fs cs:List D}(h:∀ d∈fs,Tr d)(h':∀ d∈cs,Tr d):Tr (.fn f fs cs):=fun F β w v hv=>by
 cases hv with
 |fn _ _ _ us vs hl jy h1 h2=>
  exact .fn f fs cs us vs hl jy (fun k d u hd C=>h d (cg hd) F β w u (h1 k d u hd C)) fun k d u hd C=>h' d (cg hd) F β w u (h2 k d u hd C)
theorem Tr.im{es:List (Value×D)}(h:∀ x∈es,Tr x.2):Tr (.im es):=fun F β w v hv=>by
 cases hv with
 |im _ r ms clock hf hb hc hl de hk C=>
  exact .im es r ms clock (fun e=>e.elim hf fun e=>e hb) (fun i p hp=>by cases hp) hc hl de hk fun k x m hx hm=>h x (cg hx) F β w _ (C k x m hx hm)
theorem Tr.s(x:Value):Tr (.s x):=fun F β w v hv=>by
 obtain⟨rfl,h⟩:=hv.s_inv;exact .s _ h
theorem Tr.ub:Tr .ub:=fun F β w v hv=>by
 obtain⟨b,rfl⟩:=hv.ub_inv;exact .ub b
theorem Tr.u:Tr .u:=fun F β w v _=>.u v
theorem Tr.z:Tr .z:=fun F β w v hv=>by
 obtain⟨a,rfl⟩:=hv.z_inv;exact .z a
theorem Tr.nil:∀ a∈([]:List D),Tr a:=fun _ h=>by cases h
theorem Tr.cons{d:D}{l:List D}(h:Tr d)(hl:∀ a∈l,Tr a):∀ a∈d::l,Tr a:=fun a ha=>by
 cases ha with
 |head=>exact h
 |tail _ ha=>exact hl a ha
theorem Tr.map{α:Type}{f:α->D}{l:List α}(h:∀ x,Tr (f x)):∀ a∈l.map f,Tr a:=fun a ha=>by
 obtain⟨x,_,rfl⟩:=List.mem_map.1 ha;exact h x
theorem Tr.flat{α:Type}{f:α->List D}{l:List α}(h:∀ x,∀ a∈f x,Tr a):∀ a∈l.flatMap f,Tr a:=fun a ha=>by
 obtain⟨x,_,hx⟩:=List.mem_flatMap.1 ha;exact h x a hx
end
instance(d:D):Decidable d.ask:=match d with
 | .opt c _=>inferInstanceAs (Decidable (c=true))
 | .u | .s _ | .ub | .agg _ | .tup _ | .z | .sl _ _ | .pt _ | .rs _ _ _ | .rp _ _ | .mp _ | .im _ | .fn _ _ _=>isTrue trivial
structure ea where
 pre:Prop
 [dec:Decidable pre]
 val:D
 ups:List (Nat×Option Row):=[]
 rd:List Nat:=[]
 new:Nat:=0
structure PD(α:Type) where
 p:Prop
 [dec:Decidable p]
 d:α
def ea.fY(e:ea):Eff:=⟨e.pre,e.val,e.ups,e.rd,e.new⟩
def Au(op:BinOp)(x y:Value):Option (PD Value):=
 match op,x,y with
 | .shl,.int k a,.int _ b=>some ⟨0<=b,.int k (k.wrap (a*2 ^ (min b.toNat k.bits)))⟩
 | .shr,.int k a,.int _ b=>some ⟨0<=b,.int k (a.fdiv (2 ^ (min b.toNat k.bits)))⟩
 | .add,.int k a,.int k' b=>some ⟨k=k',.int k (k.wrap (a+b))⟩
 | .sub,.int k a,.int k' b=>some ⟨k=k',.int k (k.wrap (a - b))⟩
 | .mul,.int k a,.int k' b=>some ⟨k=k',.int k (k.wrap (a*b))⟩
 | .quo,.int k a,.int k' b=>some ⟨k=k'/\b≠0,.int k (k.wrap (a.tdiv b))⟩
 | .rem,.int k a,.int k' b=>some ⟨k=k'/\b≠0,.int k (a.tmod b)⟩
 | .and,.int k a,.int k' b=>some ⟨k=k',.int k (intBitsV .and k a b)⟩
 | .or,.int k a,.int k' b=>some ⟨k=k',.int k (intBitsV .or k a b)⟩
 | .xor,.int k a,.int k' b=>some ⟨k=k',.int k (intBitsV .xor k a b)⟩
 | .andNot,.int k a,.int k' b=>some ⟨k=k',.int k (intBitsV .andNot k a b)⟩
 | .eql,.int k a,.int k' b=>some ⟨k=k',.bool (a==b)⟩
 | .neq,.int k a,.int k' b=>some ⟨k=k',.bool (a !=b)⟩
 | .lss,.int k a,.int k' b=>some ⟨k=k',.bool (decide (a<b))⟩
 | .leq,.int k a,.int k' b=>some ⟨k=k',.bool (decide (a<=b))⟩
 | .gtr,.int k a,.int k' b=>some ⟨k=k',.bool (decide (b<a))⟩
 | .geq,.int k a,.int k' b=>some ⟨k=k',.bool (decide (b<=a))⟩
 | .eql,.string a,.string b=>some ⟨True,.bool (a.toList==b.toList)⟩
 | .neq,.string a,.string b=>some ⟨True,.bool !(a.toList==b.toList)⟩
 | .lss,.string a,.string b=>some ⟨True,.bool (Op.bytesLess a.toList b.toList)⟩
 | .geq,.string a,.string b=>some ⟨True,.bool !(Op.bytesLess a.toList b.toList)⟩
 |_,_,_=>none
def CW(P:Program)(op:BinOp)(t:TypeId)(xs ys:List D):Option (PD D):=
 match op,flatT P t,zipV xs ys with
 | .eql,some ks,some q=>some ⟨q.1.map kindV=ks/\P.eqGuardType P.depth t=false,.s (.bool (veqs q.1 q.2))⟩
 | .neq,some ks,some q=>some ⟨q.1.map kindV=ks/\P.eqGuardType P.depth t=false,.s (.bool !(veqs q.1 q.2))⟩
 |_,_,_=>none
def DX(P:Program)(op:BinOp)(t:TypeId)(x y:D):Option (PD D):=
 match x,y with
 | .s (.bool a),.s (.bool b)=>match op with
  | .eql=>some ⟨boT P t=true,.s (.bool (a==b))⟩
  | .neq=>some ⟨boT P t=true,.s (.bool !(a==b))⟩
  |_=>none
 | .s a,.s b=>(Au op a b).map fun r=> @PD.mk _ r.p r.dec (.s r.d)
 | .agg xs,.agg ys=>CW P op t xs ys
 |_,_=>none
def Av(P:Program)(m:Mem)(op:BinOp)(t:TypeId)(x:D)(y:Operand):Option ea:=
 match y,op,x with
 | .const (.slice none 0 0),.eql,.sl _ n=>some { pre:=slT P t=true,val:=if n=0 then .ub else .s (.bool false) }
 | .const (.pointer none),.eql,.rp i _=>match m i with
  |some _=>some { pre:=ptT P t=true,val:=.s (.bool false),rd:=[i] }
  |none=>none
 | .const (.pointer none),.neq,.rp i _=>match m i with
  |some _=>some { pre:=ptT P t=true,val:=.s (.bool true),rd:=[i] }
  |none=>none
 |_,_,_=>none
def DY(P:Program)(m:Mem)(t:TypeId):D->Option ea
 | .sl _ n=>some { pre:=slT P t=true,val:=.s (.int .i64 n) }
 | .rs i _ n=>match m i with
  |some _=>some { pre:=slT P t=true,val:=.s (.int .i64 n),rd:=[i] }
  |none=>none
 | .z=>some { pre:=slT P t=true,val:=.s (.int .i64 0) }
 | .s (.string b)=>some { pre:=stT P t=true,val:=.s (.int .i64 b.size) }
 | .agg _=>some { pre:=arT P t=true,val:=.s (.int .i64 (lenP P t)) }
 |_=>none
def zu(m:Mem)(sz:Nat):D->Option (PD (List Nat×Nat×List D))
 | .sl es n=>some ⟨n*sz<=es.length,([],n,es.take (n*sz))⟩
 | .z=>some ⟨True,([],0,[])⟩
 | .rs i off n=>match m i with
  |some (.cells cs _)=>some ⟨off+n*sz<=cs.length,([i],n,(cs.drop off).take (n*sz))⟩
  |_=>none
 |_=>none
def Cw(P:Program)(m:Mem)(nx:Nat)(t:TypeId)(s x:D):Option ea:=
 let e:=elemP P t
 let sz:=P.cellsOf e
 match zu m sz x with
 |none=>none
 |some (@PD.mk _ p _ (rd,k,news))=>
  match s with
  | .z=>some { pre:=slT P t=true/\p/\0<sz/\k<=maxLen/\k*P.bytesOf e<=140737488355328,val:=.rs nx 0 k,ups:=[(nx,some (.cells news e))],rd:=rd,new:=1 }
  | .rs i off n=>match m i with
   |some (.cells cs e')=>some { pre:=slT P t=true/\e'=e/\p/\0<sz/\off+n*sz=cs.length/\n+k<=maxLen/\(n+k)*P.bytesOf e<=140737488355328/\i∉rd,val:=.rs nx 0 (n+k),ups:=[(i,none),(nx,some (.cells (cs.drop off++news) e))],rd:=i::rd,new:=1 }
   |_=>none
  |_=>none
def Cx(P:Program)(m:Mem)(t:TypeId)(x k:D)(ok:Bool):Option ea:=match keyV k,x with
 |some key,.mp i=>match m i with
  |some (.map es)=>some { pre:=mapT P t=true/\keyP P (mkeyP P t) key=true/\es.all (fun e=>keyP P (mkeyP P t) e.1)=true,val:=gotD P t ok (lookD key es),rd:=[i] }
  |_=>none
 |some key,.im es=>some { pre:=mapT P t=true/\keyP P (mkeyP P t) key=true/\es.all (fun e=>keyP P (mkeyP P t) e.1)=true,val:=gotD P t ok (lookD key es) }
 |some key,.s (.map none)=>some { pre:=mapT P t=true/\keyP P (mkeyP P t) key=true,val:=gotD P t ok none }
 |_,_=>none
def zR(P:Program)(m:Mem)(t:TypeId)(x k v:D):Option ea:=match keyV k,x with
 |some key,.mp i=>match m i with
  |some (.map es)=>some { pre:=mapT P t=true/\keyP P (mkeyP P t) key=true/\es.all (fun e=>keyP P (mkeyP P t) e.1)=true,val:=.tup [],ups:=[(i,some (.map (putD key v es)))],rd:=[i] }
  |_=>none
 |_,_=>none
def Cy(P:Program)(m:Mem)(t:TypeId)(x k:D):Option ea:=match keyV k,x with
 |some key,.mp i=>match m i with
  |some (.map es)=>some { pre:=mapT P t=true/\keyP P (mkeyP P t) key=true/\es.all (fun e=>keyP P (mkeyP P t) e.1)=true,val:=.tup [],ups:=[(i,some (.map (delD key es)))],rd:=[i] }
  |_=>none
 |_,_=>none
def zB(P:Program)(m:Mem)(nx:Nat)(b:Builtin)(ts:Array TypeId)(args:List D):Option ea:=
 match b,args with
 | .len,[x]=>DY P m (ts.getD 0 0) x
 | .append,[s,x]=>if ts.getD 0 0=ts.getD 1 0 then Cw P m nx (ts.getD 0 0) s x else none
 | .min,[.s (.int k a),.s (.int k' b)]=>some { pre:=k=k',val:=.s (.int k (if b<a then b else a)) }
 | .clear,[.rs i off n]=>match m i with
  |some (.cells cs e)=>some { pre:=slT P (ts.getD 0 0)=true/\off+n*P.cellsOf e<=cs.length/\e=elemP P (ts.getD 0 0),val:=.tup [],ups:=[(i,some (.cells (splice cs off (replD n (zeroP P e))) e))],rd:=[i] }
  |_=>none
 | .delete,[x,k]=>Cy P m (ts.getD 0 0) x k
 |_,_=>none
def CX(P:Program)(m:Mem)(t:TypeId)(x:D)(lo hi C:Option D):Option ea:=
 match x with
 | .sl es n=>match bndD lo 0,bndD hi n,C with
  |some l,some h,none=>some { pre:=slT P t=true/\0<=l/\l<=h/\h<=n,val:=.sl ((es.drop (l.toNat*P.cellsOf (elemP P t))).take ((h - l).toNat*P.cellsOf (elemP P t))) (h - l).toNat }
  |some l,some h,some d=>match d.int? with
   |some k=>some { pre:=slT P t=true/\hi.isSome=true/\0<=l/\l<=h/\h<=k/\k<=n,val:=.sl ((es.drop (l.toNat*P.cellsOf (elemP P t))).take ((h - l).toNat*P.cellsOf (elemP P t))) (h - l).toNat }
   |none=>none
  |_,_,_=>none
 | .rs i off n=>match m i with
  |some (.cells _ e)=>match bndD lo 0,bndD hi n,C with
   |some l,some h,none=>some { pre:=(slT P t=true/\P.cellsOf e=P.cellsOf (elemP P t))/\0<=l/\l<=h/\h<=n,val:=.rs i (off+l.toNat*P.cellsOf (elemP P t)) (h - l).toNat,rd:=[i] }
   |_,_,_=>none
  |_=>none
 | .s (.string b)=>match bndD lo 0,bndD hi b.size,C with
  |some l,some h,none=>some { pre:=stT P t=true/\0<=l/\l<=h/\h<=b.size,val:=.s (.string (b.extract l.toNat h.toNat)) }
  |_,_,_=>none
 |_=>none
def gN(P:Program)(o:Op)(ρ:Operand->D)(m:Mem)(nx:Nat):Option ea:=
 match o with
 | .move x=>some { pre:=True,val:=ρ x }
 | .assign x=>some { pre:=True,val:=ρ x }
 | .pick c a b=>match (ρ c).core.bool? with
  |some t=>some { pre:=(t=true->(ρ a).ask/\(ρ a).core.bool?.isSome=true)/\(t=false->(ρ b).ask/\(ρ b).core.bool?.isSome=true),val:=.s (.bool (if t then(ρ a).core.bool?.getD false else(ρ b).core.bool?.getD false)) }
  |none=>none
 | .alloc t=>some { pre:=tyOk P t=true,val:=.rp nx 0,ups:=[(nx,some (.cells (zeroP P t) t))],new:=1 }
 | .box t x=>some { pre:=(ρ x).cells.all D.one=true,val:=.rp nx 0,ups:=[(nx,some (.cells (ρ x).cells t))],new:=1 }
 | .build t ps=>match P.underlying t with
  |some (.struct fs)=>(fillD (fun i=>(fs[i]?).map fun f=>(f.offset,P.cellsOf f.type)) (zeroP P t) (ps.toList.map fun q=>(q.1,ρ q.2))).map fun cs=>{ pre:=tyOk P t=true/\fs.toList.all (fun f=>(P.info? f.type).isSome)=true,val:=.agg cs }
  |some (.array _ e)=>(fillD (fun i=>some (i*P.cellsOf e,P.cellsOf e)) (zeroP P t) (ps.toList.map fun q=>(q.1,ρ q.2))).map fun cs=>{ pre:=tyOk P t=true/\tyOk P e=true,val:=.agg cs }
  |_=>none
 | .buildSlice t n ps=>(fillD (fun i=>some (i*P.cellsOf (elemP P t),P.cellsOf (elemP P t))) (replD n (zeroP P (elemP P t))) (ps.toList.map fun q=>(q.1,ρ q.2))).map fun cs=>
   { pre:=cs.all D.one=true/\n*P.cellsOf (elemP P t)<=2 ^ 24/\slT P t=true/\n<=maxLen,val:=.rs nx 0 n,ups:=[(nx,some (.cells cs (elemP P t)))],new:=1 }
 | .load t a=>match ρ a with
  | .pt cs=>some { pre:=tyOk P t=true/\P.cellsOf t<=cs.length,val:=takeV P t cs }
  | .rp i off=>match m i with
   |some (.cells cs _)=>some { pre:=tyOk P t=true/\off+P.cellsOf t<=cs.length,val:=takeV P t (cs.drop off),rd:=[i] }
   |_=>none
  |_=>none
 | .store t a x=>match ρ a with
  | .rp i off=>match m i with
   |some (.cells cs e)=>some { pre:=tyOk P t=true/\(ρ x).cells.length=P.cellsOf t/\off+P.cellsOf t<=cs.length/\(ρ x).cells.all D.one=true,val:=.tup [],ups:=[(i,some (.cells (splice cs off (ρ x).cells) e))],rd:=[i] }
   |_=>none
  |_=>none
 | .nilCheck x=>match ρ x with
  | .pt cs=>some { pre:=True,val:=.pt cs }
  | .rp i off=>match m i with
   |some _=>some { pre:=True,val:=.rp i off,rd:=[i] }
   |none=>none
  |_=>none
 | .binOp op t x y _=>match Av P m op t (ρ x) y with
  |some e=>some e
  |none=>(DX P op t (ρ x) (ρ y)).map fun r=> @ea.mk r.p r.dec r.d [] [] 0
 | .unOp op _ x=>match ρ x with
  | .s v=>(unV op v).map fun r=>{ pre:=True,val:=.s r }
  |_=>none
 | .convert src dst x=>match P.underlying dst,ρ x with
  |some (.int k),.s (.int _ n)=>some { pre:=tyOk P src=true,val:=.s (.int k (k.wrap n)) }
  |some (.slice e),.s (.string b)=>match P.underlying e with
   |some (.int .u8)=>some { pre:=stT P src=true/\b.size<=maxLen,val:=.sl (b.data.toList.map fun c=>.s (.int .u8 c.toNat)) b.size }
   |_=>none
  |_,_=>none
 | .makeFunc f fs cs=>some { pre:=True,val:=.fn f (fs.toList.map ρ) (cs.toList.map ρ) }
 | .makeMap _ r=>match r with
  |none=>some { pre:=True,val:=.mp nx,ups:=[(nx,some (.map []))],new:=1 }
  |some _=>none
 | .makeSlice t l c=>match ρ l,ρ c with
  | .s (.int .i64 n),.s (.int .i64 k)=>some { pre:=0<=n/\n=k/\n<=9223372036854775807/\P.bytesOf (elemP P t)*n<=281474976710656/\slT P t=true,val:=.rs nx 0 n.toNat,ups:=[(nx,some (.cells (replD n.toNat (zeroP P (elemP P t))) (elemP P t)))],new:=1 }
  |_,_=>none
 | .lookup t x k ok=>Cx P m t (ρ x) (ρ k) ok
 | .mapUpdate t x k v=>zR P m t (ρ x) (ρ k) (ρ v)
 | .insert t x k v=>zR P m t (ρ x) (ρ k) (ρ v)
 | .slice t x lo hi C=>CX P m t (ρ x) (lo.map ρ) (hi.map ρ) (C.map ρ)
 | .fieldAddr t x k=>match fieldP P t k,ρ x with
  |some (off,ft),.pt cs=>some { pre:=0<P.cellsOf ft,val:=.pt (cs.drop off) }
  |some (off,ft),.rp i o=>match m i with
   |some _=>some { pre:=0<P.cellsOf ft,val:=.rp i (o+off),rd:=[i] }
   |none=>none
  |_,_=>none
 | .field t x k=>match fieldP P t k,ρ x with
  |some (off,ft),.agg cs=>some { pre:=tyOk P ft=true/\off+P.cellsOf ft<=cs.length,val:=takeV P ft (cs.drop off) }
  |_,_=>none
 | .indexAddr t x i=>match ρ x,ρ i with
  | .sl es n,.s (.int _ k)=>some { pre:=slT P t=true/\0<=k/\k<n/\(k.toNat+1)*P.cellsOf (elemP P t)<=es.length,val:=.pt (es.drop (k.toNat*P.cellsOf (elemP P t))) }
  | .rs j off n,.s (.int _ k)=>match m j with
   |some _=>some { pre:=slT P t=true/\0<=k/\k<n,val:=.rp j (off+k.toNat*P.cellsOf (elemP P t)),rd:=[j] }
   |none=>none
  | .rp j off,.s (.int _ k)=>match m j with
   |some _=>some { pre:=arT P t=true/\0<=k/\k<lenP P t,val:=.rp j (off+k.toNat*P.cellsOf (elemP P t)),rd:=[j] }
   |none=>none
  |_,_=>none
 | .index t x i=>match ρ x,ρ i with
  | .s (.string b),.s (.int _ k)=>some { pre:=stT P t=true/\0<=k/\k<b.size,val:=.s (.int .u8 (b.data.toList.getD k.toNat 0).toNat) }
  | .agg cs,.s (.int _ k)=>some { pre:=arT P t=true/\0<=k/\k<lenP P t/\(k.toNat+1)*P.cellsOf (elemP P t)<=cs.length,val:=takeV P (elemP P t) (cs.drop (k.toNat*P.cellsOf (elemP P t))) }
  |_,_=>none
 | .extract x k=>match ρ x with
  | .tup cs=>some { pre:=k<cs.length,val:=cs.getD k .u }
  |_=>none
 | .call c=>match c.callee with
  | .builtin b=>if c.argTypes.size=c.args.size then zB P m nx b c.argTypes (c.args.toList.map ρ) else none
  |_=>none
 |_=>none
theorem Q9(op:BinOp)(x y:Value):binV op x y=(Au op x y).map fun r=>(r.p,r.d):=by
 cases op<;>cases x<;>first|rfl|(cases y<;>rfl)
theorem O7(P:Program)(op:BinOp)(t:TypeId)(xs ys:List D):aggEqD P op t xs ys=(CW P op t xs ys).map fun r=>(r.p,r.d):=by
 unfold aggEqD CW;cases op<;>first|rfl|skip
 all_goals cases flatT P t<;>first|rfl|skip
 all_goals cases zipV xs ys<;>rfl
theorem Ra(P:Program)(op:BinOp)(t:TypeId)(x y:D):binD P op t x y=(DX P op t x y).map fun r=>(r.p,r.d):=by
 have C:∀ a b,(binV op a b).map (fun r=>(r.1,D.s r.2))=((Au op a b).map fun r=> @PD.mk _ r.p r.dec (D.s r.d)).map fun r=>(r.p,r.d):=fun a b=>by
  rw[Q9];cases Au op a b<;>rfl
 cases x with
 |s a=>
  cases y with
  |s b=>
   cases a with
   |bool a=>
    cases b with
    |bool b=>cases op<;>rfl
    |_=>exact C _ _
   |_=>exact C _ _
  |_=>cases a<;>rfl
 |agg xs=>
  cases y with
  |agg ys=>exact O7 P op t xs ys
  |_=>rfl
 |_=>rfl
theorem Rb(P:Program)(m:Mem)(op:BinOp)(t:TypeId)(x:D)(y:Operand):nilD P m op t x y=(Av P m op t x y).map ea.fY:=by
 unfold nilD Av;split<;>split<;>simp_all[ea.fY]
 all_goals split<;>simp_all[ea.fY]
theorem Rc(P:Program)(m:Mem)(t:TypeId)(x:D):lenD P m t x=(DY P m t x).map ea.fY:=by
 unfold lenD DY;split<;>first|rfl|skip
 all_goals split<;>simp_all[ea.fY]
theorem OA(m:Mem)(sz:Nat)(x:D):sliceCells m sz x=(zu m sz x).map fun r=>(r.p,r.d):=by
 unfold sliceCells zu;split<;>first|rfl|skip
 all_goals split<;>simp_all
theorem OS(P:Program)(m:Mem)(nx:Nat)(t:TypeId)(s x:D):appendD P m nx t s x=(Cw P m nx t s x).map ea.fY:=by
 unfold appendD Cw;simp only[OA];cases zu m (P.cellsOf (elemP P t)) x with
 |none=>rfl
 |some r=>
  obtain⟨p,rd,k,news⟩:=r;simp only[Option.map_some];split<;>first|rfl|skip
  all_goals split<;>simp_all[ea.fY]
theorem OT(P:Program)(m:Mem)(t:TypeId)(x k:D)(ok:Bool):lookupD P m t x k ok=(Cx P m t x k ok).map ea.fY:=by
 unfold lookupD Cx;split<;>first|rfl|skip
 all_goals split<;>simp_all[ea.fY]
theorem Gr(P:Program)(m:Mem)(t:TypeId)(x k v:D):mapPutD P m t x k v=(zR P m t x k v).map ea.fY:=by
 unfold mapPutD zR;split<;>first|rfl|skip
 all_goals split<;>simp_all[ea.fY]
theorem OU(P:Program)(m:Mem)(t:TypeId)(x k:D):mapDelD P m t x k=(Cy P m t x k).map ea.fY:=by
 unfold mapDelD Cy;split<;>first|rfl|skip
 all_goals split<;>simp_all[ea.fY]
theorem OJ(P:Program)(m:Mem)(nx:Nat)(b:Builtin)(ts:Array TypeId)(args:List D):builtinD P m nx b ts args=(zB P m nx b ts args).map ea.fY:=by
 cases b with
 |len=>
  match args with
  |[]=>rfl
  |[x]=>exact Rc _ _ _ _
  |_::_::_=>rfl
 |append=>
  match args with
  |[]=>rfl
  |[x]=>rfl
  |[s,x]=>
   simp only[builtinD,zB];split
   .exact OS _ _ _ _ _ _
   .rfl
  |_::_::_::_=>rfl
 |min=>
  match args with
  |[]=>rfl
  |[x]=>
   cases x with
   |s a=>cases a<;>rfl
   |_=>rfl
  |[x,y]=>
   cases x with
   |s a=>
    cases a with
    |int k a=>
     cases y with
     |s b=>cases b<;>rfl
     |_=>rfl
    |_=>rfl
   |_=>rfl
  |x::y::_::_=>
   cases x with
   |s a=>
    cases a with
    |int k a=>
     cases y with
     |s b=>cases b<;>rfl
     |_=>rfl
    |_=>rfl
   |_=>rfl
 |clear=>
  match args with
  |[]=>rfl
  |[x]=>
   cases x with
   |rs i off n=>
    simp only[builtinD,zB];cases m i with
    |none=>rfl
    |some r=>cases r<;>rfl
   |_=>rfl
  |x::_::_=>cases x<;>rfl
 |delete=>
  match args with
  |[]=>rfl
  |[x]=>rfl
  |[x,k]=>exact OU _ _ _ _ _
  |_::_::_::_=>rfl
 |_=>rfl
theorem O8(P:Program)(m:Mem)(t:TypeId)(x:D)(lo hi C:Option D):sliceD P m t x lo hi C=(CX P m t x lo hi C).map ea.fY:=by
 unfold sliceD CX;cases x with
 |sl es n=>
  simp only;cases bndD lo 0<;>first|rfl|skip
  cases bndD hi n<;>first|rfl|skip
  cases C with
  |none=>rfl
  |some d=>
   simp only;cases d.int? <;>rfl
 |rs i off n=>
  simp only;cases m i with
  |none=>rfl
  |some r=>
   cases r<;>first|rfl|skip
   simp only;cases bndD lo 0<;>first|rfl|skip
   cases bndD hi n<;>first|rfl|skip
   cases C<;>rfl
 |s v=>
  cases v<;>first|rfl|skip
  simp only;cases bndD lo 0<;>first|rfl|skip
  rename_i b _;cases bndD hi b.size<;>first|rfl|skip
  cases C<;>rfl
 |_=>rfl
theorem Ie(P:Program)(o:Op)(ρ:Operand->D)(m:Mem)(nx:Nat):aop P o ρ m nx=(gN P o ρ m nx).map ea.fY:=by
 cases o with
 |call c=>
  simp only[aop,gN];cases c.callee with
  |builtin b=>
   simp only;split
   .exact OJ _ _ _ _ _ _
   .rfl
  |_=>rfl
 |binOp op t x y _=>
  simp only[aop,gN,Rb,Ra];cases Av P m op t (ρ x) y with
  |some e=>rfl
  |none=>
   cases DX P op t (ρ x) (ρ y) with
   |some r=>rfl
   |none=>rfl
 |lookup t x k ok=>exact OT _ _ _ _ _ _
 |mapUpdate t x k v=>exact Gr _ _ _ _ _ _
 |insert t x k v=>exact Gr _ _ _ _ _ _
 |slice t x lo hi J=>exact O8 _ _ _ _ _ _ _
 |build t ps=>
  simp only[aop,gN];cases P.underlying t with
  |none=>rfl
  |some u=>
   cases u with
   |struct fs=>simp only;cases fillD _ _ _<;>rfl
   |array n e=>simp only;cases fillD _ _ _<;>rfl
   |_=>rfl
 |buildSlice t n ps=>
  simp only[aop,gN];cases fillD _ _ _<;>rfl
 |unOp op t x=>
  simp only[aop,gN];cases ρ x with
  |s v=>simp only;cases unV op v<;>rfl
  |_=>rfl
 |load t a=>
  simp only[aop,gN];cases ρ a with
  |rp i off=>simp only;cases m i with
   |none=>rfl
   |some r=>cases r<;>rfl
  |_=>rfl
 |store t a x=>
  simp only[aop,gN];cases ρ a with
  |rp i off=>simp only;cases m i with
   |none=>rfl
   |some r=>cases r<;>rfl
  |_=>rfl
 |pick c a b=>
  simp only[aop,gN];cases (ρ c).core.bool? <;>rfl
 |nilCheck x=>
  simp only[aop,gN];cases ρ x with
  |rp i off=>simp only;cases m i<;>rfl
  |_=>rfl
 |makeMap t r=>cases r<;>rfl
 |makeSlice t l c=>
  simp only[aop,gN];cases ρ l with
  |s v=>
   cases v with
   |int k n=>
    cases k with
    |i64=>
     cases ρ c with
     |s v=>cases v with
      |int k n=>cases k<;>rfl
      |_=>rfl
     |_=>rfl
    |_=>rfl
   |_=>rfl
  |_=>rfl
 |convert src dst x=>
  simp only[aop,gN];cases P.underlying dst with
  |none=>rfl
  |some u=>
   cases u with
   |int k=>cases ρ x with
    |s v=>cases v<;>rfl
    |_=>rfl
   |slice e=>cases ρ x with
    |s v=>cases v with
     |string b=>
      simp only;cases P.underlying e with
      |none=>rfl
      |some u=>
       cases u with
       |int k=>cases k<;>rfl
       |_=>rfl
     |_=>rfl
    |_=>rfl
   |_=>rfl
 |fieldAddr t x k=>
  simp only[aop,gN];cases fieldP P t k with
  |none=>rfl
  |some q=>
   obtain⟨off,C⟩:=q;cases ρ x with
   |rp i o=>simp only;cases m i<;>rfl
   |_=>rfl
 |field t x k=>
  simp only[aop,gN];cases fieldP P t k with
  |none=>rfl
  |some q=>
   obtain⟨off,C⟩:=q;cases ρ x<;>rfl
 |indexAddr t x i=>
  simp only[aop,gN];cases ρ x with
  |sl es n=>cases ρ i with
   |s v=>cases v<;>rfl
   |_=>rfl
  |rs j off n=>cases ρ i with
   |s v=>cases v with
    |int k n=>simp only;cases m j<;>rfl
    |_=>rfl
   |_=>rfl
  |rp j off=>cases ρ i with
   |s v=>cases v with
    |int k n=>simp only;cases m j<;>rfl
    |_=>rfl
   |_=>rfl
  |_=>rfl
 |index t x i=>
  simp only[aop,gN];cases ρ x with
  |s v=>cases v with
   |string b=>cases ρ i with
    |s v=>cases v<;>rfl
    |_=>rfl
   |_=>rfl
  |agg cs=>cases ρ i with
   |s v=>cases v<;>rfl
   |_=>rfl
  |_=>rfl
 |extract x k=>
  simp only[aop,gN];cases ρ x<;>rfl
 |_=>rfl
inductive T(α:Type) where
 |leaf
 |node (v:Option α) (l r:T α)
def T.get{α:Type}:T α->Nat->Option α
 | .leaf,_=>none
 | .node v l r,i=>bif Nat.beq i 0 then v else bif Nat.beq (i % 2) 1 then l.get (i / 2) else r.get (i / 2 - 1)
def T.set{α:Type}:Nat->T α->Nat->Option α->T α
 |0,t,_,_=>t
 |f+1,.leaf,i,v=>bif Nat.beq i 0 then .node v .leaf .leaf else bif Nat.beq (i % 2) 1 then .node none (T.set f .leaf (i / 2) v) .leaf else .node none .leaf (T.set f .leaf (i / 2 - 1) v)
 |f+1,.node v0 l r,i,v=>bif Nat.beq i 0 then .node v l r else bif Nat.beq (i % 2) 1 then .node v0 (T.set f l (i / 2) v) r else .node v0 l (T.set f r (i / 2 - 1) v)
theorem T.qn{α:Type}(v:Option α)(l r:T α)(i:Nat):(T.node v l r).get i=if i=0 then v else if i % 2=1 then l.get (i / 2) else r.get (i / 2 - 1):=by
 simp only[T.get,Bool.cond_eq_ite,Nat.beq_eq]
theorem T.wR{α:Type}(v:Option α):∀ (f:Nat) (t:T α) (i j:Nat),i+1<2 ^ f->(T.set f t i v).get j=if j=i then v else t.get j
 |0,t,i,j,h=>by simp at h
 |f+1,t,i,j,h=>by
  have h2:2 ^ (f+1)=2*2 ^ f:=by rw[Nat.pow_succ];omega
  have U:i % 2=1->i / 2+1<2 ^ f:=fun _=>by omega
  have X:i≠0->i % 2≠1->i / 2 - 1+1<2 ^ f:=fun _ _=>by omega
  have M:∀ k,(T.leaf:T α).get k=none:=fun k=>rfl;cases t with
  |leaf=>
   simp only[T.set,Bool.cond_eq_ite,Nat.beq_eq];by_cases h0:i=0
   .subst h0;simp only[if_true,T.qn,M];by_cases hj:j=0<;>simp[hj]
   .rw[if_neg h0];by_cases h1:i % 2=1
    .rw[if_pos h1,T.qn,T.wR v f _ _ _ (U h1)];simp only[M];by_cases hj:j=i
     .subst hj;simp[h0,h1]
     .rw[if_neg hj];by_cases C:j=0
      .rw[if_pos C]
      .rw[if_neg C];by_cases J:j % 2=1
       .rw[if_pos J,if_neg oG]
       .rw[if_neg J]
    .rw[if_neg h1,T.qn,T.wR v f _ _ _ (X h0 h1)];simp only[M];by_cases hj:j=i
     .subst hj;simp[h0,h1]
     .rw[if_neg hj];by_cases C:j=0
      .rw[if_pos C]
      .rw[if_neg C];by_cases J:j % 2=1
       .rw[if_pos J]
       .rw[if_neg J,if_neg oG]
  |node v0 l r=>
   simp only[T.set,Bool.cond_eq_ite,Nat.beq_eq];by_cases h0:i=0
   .subst h0;simp only[if_true,T.qn];by_cases hj:j=0<;>simp[hj]
   .rw[if_neg h0];by_cases h1:i % 2=1
    .rw[if_pos h1,T.qn,T.qn,T.wR v f _ _ _ (U h1)];by_cases hj:j=i
     .subst hj;simp[h0,h1]
     .rw[if_neg hj];by_cases C:j=0
      .rw[if_pos C,if_pos C]
      .rw[if_neg C,if_neg C];by_cases J:j % 2=1
       .rw[if_pos J,if_pos J,if_neg oG]
       .rw[if_neg J,if_neg J]
    .rw[if_neg h1,T.qn,T.qn,T.wR v f _ _ _ (X h0 h1)];by_cases hj:j=i
     .subst hj;simp[h0,h1]
     .rw[if_neg hj];by_cases C:j=0
      .rw[if_pos C,if_pos C]
      .rw[if_neg C,if_neg C];by_cases J:j % 2=1
       .rw[if_pos J,if_pos J]
       .rw[if_neg J,if_neg J,if_neg oG]
def T.put{α:Type}(t:T α)(i:Nat)(v:Option α):Option (T α):=bif Nat.blt i 1000000 then some (T.set 20 t i v) else none
theorem T.Ig{α:Type}{t C:T α}{i:Nat}{v:Option α}(h:t.put i v=some C)(j:Nat):C.get j=if j=i then v else t.get j:=by
 unfold T.put at h;cases hb:Nat.blt i 1000000 with
 |false=>rw[hb] at h;cases h
 |true=>
  rw[hb] at h;simp only[cond_true,aF] at h;subst h;have:i<1000000:=by simpa using hb
  exact T.wR v 20 t i j oG
structure bK where
 env:T D
 mem:T Row
 nx:Nat
def cQ(t:T D):Env:=fun i=>(t.get i).getD .u
def dO(t:T Row):Mem:=fun i=>t.get i
def bK.st(c:bK):St:=⟨cQ c.env,dO c.mem,c.nx⟩
theorem Cz{t C:T D}{i:Nat}{d:D}(h:t.put i (some d)=some C):cQ C=up (cQ t) i d:=by
 funext j;simp only[cQ,T.Ig h,up_apply];split<;>rfl
theorem HF{t C:T Row}{i:Nat}{r:Option Row}(h:t.put i r=some C):dO C=up (dO t) i r:=by
 funext j;simp only[dO,T.Ig h,up_apply]
def vu(t:T D):Option Nat->D->Option (T D)
 |none,_=>some t
 |some i,d=>t.put i (some d)
def yg(m:T Row):List (Nat×Option Row)->Option (T Row)
 |[]=>some m
 |(i,r)::us=>match m.put i r with
  |some m'=>yg m' us
  |none=>none
theorem CY{t C:T D}{dst:Option Nat}{d:D}(h:vu t dst d=some C)(m:Mem)(nx:Nat):(⟨cQ C,m,nx⟩:St)=St.put ⟨cQ t,m,nx⟩ dst d:=by
 cases dst with
 |none=>simp only[vu,aF] at h;subst h;rfl
 |some i=>simp only[vu] at h;simp only[St.put,Cz h]
theorem HG:∀ {us:List (Nat×Option Row)} {m m':T Row},yg m us=some m'->dO m'=upds (dO m) us
 |[],m,m',h=>by simp only[yg,aF] at h;subst h;rfl
 |(i,r)::us,m,m',h=>by
  simp only[yg] at h;cases hp:m.put i r with
  |none=>rw[hp] at h;cases h
  |some C=>
   rw[hp] at h;simp only at h;rw[HG h,HF hp];rfl
def mz:Nat->D->Bool
 |0,_=>false
 |n+1,d=>match d with
  | .rs .. | .rp .. | .mp _=>false
  | .opt _ d=>mz n d
  | .agg cs | .tup cs | .pt cs | .sl cs _=>cs.all (mz n)
  | .fn _ fs cs=>fs.all (mz n)&&cs.all (mz n)
  | .im es=>es.all fun x=>mz n x.2
  |_=>true
section
variable{P:Program}{F:Nat->Prop}{β:Pla}{w:World}
theorem lU:∀ {n:Nat} {d:D},mz n d=true->Tr d
 |0,_,h=>by cases h
 |n+1,d,h=>by
  cases d with
  |rs=>cases h
  |rp=>cases h
  |mp=>cases h
  |opt c d=>exact .opt (lU h)
  |agg cs=>exact .agg fun d hd=>lU (br.1 h d hd)
  |tup cs=>exact .tup fun d hd=>lU (br.1 h d hd)
  |sl cs n=>exact .sl fun d hd=>lU (br.1 h d hd)
  |pt cs=>exact .pt fun d hd=>lU (br.1 h d hd)
  |fn f fs cs=>
   simp only[mz,aM] at h;exact .fn (fun d hd=>lU (br.1 h.1 d hd)) fun d hd=>lU (br.1 h.2 d hd)
  |im es=>exact .im fun x hx=>lU (br.1 h x hx)
  |s v=>exact .s v
  |ub=>exact .ub
  |u=>exact .u
  |z=>exact .z
def fV{α β:Type}(f:α->Option (β×List Nat)):List α->Option (List β×List Nat)
 |[]=>some ([],[])
 |x::xs=>match f x with
  |none=>none
  |some y=>match fV f xs with
   |none=>none
   |some ys=>some (y.1::ys.1,y.2++ys.2)
theorem zC{α β:Type}{f:α->Option (β×List Nat)}:∀ {xs:List α} {ys:List β} {r:List Nat},fV f xs=some (ys,r)->
 ys.length=xs.length/\(∀ (k:Nat) (y:β),ys[k]? =some y->∃ x r',xs[k]? =some x/\f x=some (y,r')/\∀ i∈r',i∈r)
 |[],ys,r,h=>by simp only[fV,aF,bx] at h;obtain⟨rfl,rfl⟩:=h;simp
 |x::xs,ys,r,h=>by
  simp only[fV] at h;cases hx:f x with
  |none=>rw[hx] at h;cases h
  |some y=>
   rw[hx] at h;simp only at h;cases J:fV f xs with
   |none=>rw[J] at h;cases h
   |some M=>
    rw[J] at h;simp only[aF,bx] at h;obtain⟨rfl,rfl⟩:=h;obtain⟨h1,h2⟩:=zC (ys:=M.1) (r:=M.2) J;refine⟨by simp[h1],fun k z C=>?_⟩;cases k with
    |zero=>
     simp only[List.getElem?_cons_zero,aF] at C;subst C;exact⟨x,y.2,rfl,hx,fun i hi=>by simp[hi]⟩
    |succ k=>
     obtain⟨x',r',U,X,g3⟩:=h2 k z (by simpa using C);exact⟨x',r',by simpa using U,X,fun i hi=>by simp[g3 i hi]⟩
def bX(P:Program)(m:Mem):Nat->D->Option (D×List Nat)
 |0,_=>none
 |n+1,d=>match d with
  | .mp i=>match m i with
   |some (.map es)=>(fV (fun x=>(bX P m n x.2).map fun y=>((x.1,y.1),y.2)) es).map fun x=>(.im x.1,i::x.2)
   |_=>none
  | .im es=>(fV (fun x=>(bX P m n x.2).map fun y=>((x.1,y.1),y.2)) es).map fun x=>(.im x.1,x.2)
  | .rs i off k=>match m i with
   |some (.cells cs e)=>(fV (bX P m n) ((cs.drop off).take (k*P.cellsOf e))).map fun x=>(.sl x.1 k,i::x.2)
   |_=>none
  | .rp i off=>match m i with
   |some (.cells cs _)=>(fV (bX P m n) (cs.drop off)).map fun x=>(.pt x.1,i::x.2)
   |_=>none
  | .opt true d=>(bX P m n d).map fun x=>(.opt true x.1,x.2)
  | .opt false _=>some (.opt false .u,[])
  | .agg cs=>(fV (bX P m n) cs).map fun x=>(.agg x.1,x.2)
  | .tup cs=>(fV (bX P m n) cs).map fun x=>(.tup x.1,x.2)
  | .sl cs k=>(fV (bX P m n) cs).map fun x=>(.sl x.1 k,x.2)
  | .pt cs=>(fV (bX P m n) cs).map fun x=>(.pt x.1,x.2)
  | .fn f fs cs=>match fV (bX P m n) fs with
   |none=>none
   |some x=>(fV (bX P m n) cs).map fun y=>(.fn f x.1 y.1,x.2++y.2)
  | .s v=>some (.s v,[])
  | .ub=>some (.ub,[])
  | .u=>some (.u,[])
  | .z=>some (.z,[])
theorem nQ{α β:Type}{f:α->Option (β×List Nat)}{xs:List α}{ys:List β}{r:List Nat}(h:fV f xs=some (ys,r)){p:β->Prop}(hp:∀ x y r',f x=some (y,r')->p y):∀ y∈ys,p y:=fun y hy=>by
 obtain⟨k,hk⟩:=dh hy;obtain⟨x,r',_,h2,_⟩:=(zC h).2 k y hk;exact hp x y r' h2
theorem z6{m:Mem}:∀ {n:Nat} {d d':D} {r:List Nat},bX P m n d=some (d',r)->Tr d'
 |0,_,_,_,h=>by cases h
 |n+1,d,d',r,h=>by
  have ih:∀ x y r',bX P m n x=some (y,r')->Tr y:=fun x y r' h=>z6 h
  have C:∀ (x:Value×D) (y:Value×D) r',(bX P m n x.2).map (fun y=>((x.1,y.1),y.2))=some (y,r')->Tr y.2:=fun x y r' h=>by
   simp only[cK,bx] at h;obtain⟨z,J,rfl,_⟩:=h;exact z6 (r:=z.2) J
  cases d with
  |mp i=>
   simp only[bX] at h;split at h
   .simp only[cK,bx] at h;obtain⟨x,hx,rfl,_⟩:=h;exact .im (nQ (ys:=x.1) (r:=x.2) hx C)
   .cases h
  |im es=>
   simp only[bX,cK,bx] at h;obtain⟨x,hx,rfl,_⟩:=h;exact .im (nQ (ys:=x.1) (r:=x.2) hx C)
  |rs i off k=>
   simp only[bX] at h;split at h
   .simp only[cK,bx] at h;obtain⟨x,hx,rfl,_⟩:=h;exact .sl (nQ (ys:=x.1) (r:=x.2) hx ih)
   .cases h
  |rp i off=>
   simp only[bX] at h;split at h
   .simp only[cK,bx] at h;obtain⟨x,hx,rfl,_⟩:=h;exact .pt (nQ (ys:=x.1) (r:=x.2) hx ih)
   .cases h
  |opt c d=>
   cases c with
   |true=>
    simp only[bX,cK,bx] at h;obtain⟨x,hx,rfl,_⟩:=h;exact .opt (z6 (r:=x.2) hx)
   |false=>simp only[bX,aF,bx] at h;obtain⟨rfl,_⟩:=h;exact .opt .u
  |agg cs=>
   simp only[bX,cK,bx] at h;obtain⟨x,hx,rfl,_⟩:=h;exact .agg (nQ (ys:=x.1) (r:=x.2) hx ih)
  |tup cs=>
   simp only[bX,cK,bx] at h;obtain⟨x,hx,rfl,_⟩:=h;exact .tup (nQ (ys:=x.1) (r:=x.2) hx ih)
  |sl cs k=>
   simp only[bX,cK,bx] at h;obtain⟨x,hx,rfl,_⟩:=h;exact .sl (nQ (ys:=x.1) (r:=x.2) hx ih)
  |pt cs=>
   simp only[bX,cK,bx] at h;obtain⟨x,hx,rfl,_⟩:=h;exact .pt (nQ (ys:=x.1) (r:=x.2) hx ih)
  |fn f fs cs=>
   simp only[bX] at h;cases hx:fV (bX P m n) fs with
   |none=>rw[hx] at h;cases h
   |some x=>
    rw[hx] at h;simp only[cK,bx] at h;obtain⟨y,hy,rfl,_⟩:=h;exact .fn (nQ (ys:=x.1) (r:=x.2) hx ih) (nQ (ys:=y.1) (r:=y.2) hy ih)
  |s v=>simp only[bX,aF,bx] at h;obtain⟨rfl,_⟩:=h;exact .s v
  |ub=>simp only[bX,aF,bx] at h;obtain⟨rfl,_⟩:=h;exact .ub
  |u=>simp only[bX,aF,bx] at h;obtain⟨rfl,_⟩:=h;exact .u
  |z=>simp only[bX,aF,bx] at h;obtain⟨rfl,_⟩:=h;exact .z
def Ue(P:Program)(F:Nat->Prop)(β:Pla)(w:World)(m:Mem)(rds:List Nat):Prop:=∀ i∈rds,∀ r,m i=some r->∃ p,β i=some p/\RowR P F β w r p/\∀ b,p.blk=some b->¬ F b
theorem uI(b:Nat):noRows.free b:=fun i p hp=>by cases hp
theorem xG{m:Mem}:∀ {n:Nat} {d d':D} {r:List Nat},bX P m n d=some (d',r)->Ue P F β w m r->∀ {v:Value},R F β w d v->R F noRows w d' v
 |0,_,_,_,h,_,_,_=>by cases h
 |n+1,d,d',r,h,hl,v,hv=>by
  have many:∀ {xs ys:List D} {r':List Nat},fV (bX P m n) xs=some (ys,r')->(∀ i∈r',i∈r)->ys.length=xs.length/\∀ (k:Nat) (d:D) (u:Value),ys[k]? =some d->(∀ d0,xs[k]? =some d0->R F β w d0 u)->R F noRows w d u:=fun h hr=>by
   obtain⟨h1,h2⟩:=zC h;refine⟨h1,fun k d u hd hu=>?_⟩;obtain⟨x,r2,C,J,X⟩:=h2 k d hd;exact xG J (fun i hi=>hl i (hr i (X i hi))) (hu x C)
  have look:∀ {i:Nat} {cs:List D} {e:TypeId},i∈r->m i=some (.cells cs e)->∃ p,β i=some p/\RowR P F β w (.cells cs e) p/\∀ b,p.blk=some b->¬ F b:=fun hi hm=>hl _ hi _ hm
  have Mc:∀ {es ys:List (Value×D)} {r':List Nat} {ms:Array MapEntry},fV (fun x=>(bX P m n x.2).map fun y=>((x.1,y.1),y.2)) es=some (ys,r')->(∀ i∈r',i∈r)->ms.size=es.length->(es.map (·.1)).Nodup->
   (∀ (k:Nat) (x:Value×D) (m:MapEntry),es[k]? =some x->ms[k]? =some m->m.key=x.1/\R F β w x.2 m.val)->
   ms.size=ys.length/\(ys.map (·.1)).Nodup/\(∀ (k:Nat) (x:Value×D) (m:MapEntry),ys[k]? =some x->ms[k]? =some m->m.key=x.1)/\∀ (k:Nat) (x:Value×D) (m:MapEntry),ys[k]? =some x->ms[k]? =some m->R F noRows w x.2 m.val:=fun {es ys r' ms} h hr bN de U=>by
   obtain⟨h1,h2⟩:=zC h
   have key:∀ (k:Nat) (y:Value×D),ys[k]? =some y->∃ x r2,es[k]? =some x/\y.1=x.1/\bX P m n x.2=some (y.2,r2)/\∀ i∈r2,i∈r':=fun k y hy=>by
    obtain⟨x,r2,C,J,X⟩:=h2 k y hy;simp only[cK,bx] at J;obtain⟨z,hz,rfl,rfl⟩:=J;exact⟨x,z.2,C,rfl,hz,X⟩
   have keys:ys.map (·.1)=es.map (·.1):=by
    refine List.ext_getElem? fun k=>?_;simp only[List.getElem?_map];cases hy:ys[k]? with
    |some y=>
     obtain⟨x,_,C,J,_⟩:=key k y hy;simp[C,J]
    |none=>
     have:es[k]? =none:=by
      rw[List.getElem?_eq_none_iff] at hy ⊢;omega
     simp[this]
   refine⟨by rw[h1];exact bN,by rw[keys];exact de,fun k y mm hy ef=>?_,fun k y mm hy ef=>?_⟩
   .obtain⟨x,r2,C,J,_⟩:=key k y hy;rw[J];exact(U k x mm C ef).1
   .obtain⟨x,r2,C,_,X,g4⟩:=key k y hy;exact xG X (fun i hi=>hl i (hr i (g4 i hi))) (U k x mm C ef).2
  cases d with
  |mp i=>
   simp only[bX] at h;split at h
   .rename_i es hm;simp only[cK,bx] at h;obtain⟨x,hx,rfl,rfl⟩:=h;obtain⟨p,hp,av,q8⟩:=hl i (List.mem_cons_self ..) _ hm;cases hv with
    |mpd _ _ h1 _=>rw[h1] at hp;cases hp;exact absurd rfl av.live
    |mp _ b h1=>
     rw[h1] at hp;cases hp;cases av with
     |map _ _ ms clock C J X g4=>
      obtain⟨k1,k2,k3,k4⟩:=Mc (ys:=x.1) (r':=x.2) hx (fun i hi=>List.mem_cons_of_mem _ hi) J X g4;exact .im x.1 b ms clock (q8 b rfl) (uI b) C k1 k2 k3 k4
   .cases h
  |im es=>
   simp only[bX,cK,bx] at h;obtain⟨x,hx,rfl,rfl⟩:=h;cases hv with
   |im _ b ms clock hf hb hc J X g4 g5=>
    obtain⟨k1,k2,k3,k4⟩:=Mc (ys:=x.1) (r':=x.2) hx (fun _ h=>h) J X (fun k x m hx hm=>⟨g4 k x m hx hm,g5 k x m hx hm⟩);exact .im x.1 b ms clock hf (uI b) hc k1 k2 k3 k4
  |rs i off k=>
   simp only[bX] at h;split at h
   .rename_i cs e hm;simp only[cK,bx] at h;obtain⟨x,hx,rfl,rfl⟩:=h;obtain⟨p,hp,av,q8⟩:=look (List.mem_cons_self ..) hm;obtain⟨C,J⟩:=many (ys:=x.1) (r':=x.2) hx (fun i hi=>List.mem_cons_of_mem _ hi)
    have nil:(cs.drop off).take (k*P.cellsOf e)=[]->x.1=[]:=fun e=>by
     rw[e] at C;exact List.eq_nil_of_length_eq_zero (by simpa using C)
    cases hv with
    |rsd _ _ _ _ h1 _=>
     rw[h1] at hp;cases hp;exact absurd rfl av.live
    |rsn _ a h1=>
     rw[h1] at hp;cases hp;cases av;rw[nil oS];exact .sln a 0
    |rsz _ _ a b o len room sz h1=>
     rw[nil oS];exact .sln a 0
    |rs _ _ _ cap b o len room sz h1 hn dZ h2 h3=>
     rw[h1] at hp;cases hp;obtain⟨cJ,hl,bN,_⟩:=av.rd;obtain⟨us,u1,u2⟩:=(cJ.drop off).take (k*P.cellsOf e)
     have al:b<w.heap.size:=by
      cases av with
      |cells _ _ _ _ _ _ c hb=>exact(Array.getElem?_eq_some_iff.1 hb).1
     exact .sl x.1 k b (o+off) cap us (q8 b rfl) (uI b) al hn dZ (fun j hj=>u1 j (by rw[<- C];exact hj)) fun j d hd=>J j d _ hd fun d0 M=>u2 j d0 M
   .cases h
  |rp i off=>
   simp only[bX] at h;split at h
   .rename_i cs e hm;simp only[cK,bx] at h;obtain⟨x,hx,rfl,rfl⟩:=h;obtain⟨p,hp,av,q8⟩:=look (List.mem_cons_self ..) hm;obtain⟨C,J⟩:=many (ys:=x.1) (r':=x.2) hx (fun i hi=>List.mem_cons_of_mem _ hi);cases hv with
    |rpd _ _ _ h1 _=>
     rw[h1] at hp;cases hp;exact absurd rfl av.live
    |rp _ _ b o len room sz h1=>
     rw[h1] at hp;cases hp;obtain⟨cJ,hl,bN,_⟩:=av.rd;obtain⟨us,u1,u2⟩:=cJ.drop off
     have al:b<w.heap.size:=by
      cases av with
      |cells _ _ _ _ _ _ c hb=>exact(Array.getElem?_eq_some_iff.1 hb).1
     exact .pt x.1 b (o+off) us (q8 b rfl) (uI b) al (fun j hj=>u1 j (by rw[<- C];exact hj)) fun j d hd=>J j d _ hd fun d0 M=>u2 j d0 M
   .cases h
  |opt c d=>
   cases hv with
   |opt _ _ _ h1 h2=>
   cases c with
   |true=>
    simp only[bX,cK,bx] at h;obtain⟨x,hx,rfl,rfl⟩:=h;exact .opt true _ v (fun _=>xG (r:=x.2) hx hl (h1 rfl)) oS
   |false=>simp only[bX,aF,bx] at h;obtain⟨rfl,_⟩:=h;exact .opt false _ v oS h2
  |agg cs=>
   simp only[bX,cK,bx] at h;obtain⟨x,hx,rfl,rfl⟩:=h;obtain⟨vs,rfl,qc,U⟩:=hv.agg_inv;obtain⟨C,J⟩:=many (ys:=x.1) (r':=x.2) hx (fun _ h=>h);exact .agg _ vs (by rw[C];exact qc) fun k d u hd hu=>J k d u hd fun d0 M=>U k d0 u M hu
  |tup cs=>
   simp only[bX,cK,bx] at h;obtain⟨x,hx,rfl,rfl⟩:=h;obtain⟨vs,rfl,qc,U⟩:=hv.tup_inv;obtain⟨C,J⟩:=many (ys:=x.1) (r':=x.2) hx (fun _ h=>h);exact .tup _ vs (by rw[C];exact qc) fun k d u hd hu=>J k d u hd fun d0 M=>U k d0 u M hu
  |sl cs k=>
   simp only[bX,cK,bx] at h;obtain⟨x,hx,rfl,rfl⟩:=h;obtain⟨C,J⟩:=many (ys:=x.1) (r':=x.2) hx (fun _ h=>h);cases hv with
   |sln a cap=>
    have:x.1=[]:=List.eq_nil_of_length_eq_zero (by simpa using C);rw[this];exact .sln a cap
   |sl _ _ b o cap us hf hb al nt dZ hc U=>
    exact .sl _ k b o cap us hf (uI b) al nt dZ (fun j hj=>hc j (by rw[<- C];exact hj)) fun j d hd=>J j d _ hd fun d0 M=>U j d0 M
  |pt cs=>
   simp only[bX,cK,bx] at h;obtain⟨x,hx,rfl,rfl⟩:=h;obtain⟨C,J⟩:=many (ys:=x.1) (r':=x.2) hx (fun _ h=>h);cases hv with
   |pt _ b o us hf hb al hc U=>
    exact .pt _ b o us hf (uI b) al (fun j hj=>hc j (by rw[<- C];exact hj)) fun j d hd=>J j d _ hd fun d0 M=>U j d0 M
  |fn f fs cs=>
   simp only[bX] at h;cases hx:fV (bX P m n) fs with
   |none=>rw[hx] at h;cases h
   |some x=>
    rw[hx] at h;simp only[cK,bx] at h;obtain⟨y,hy,rfl,rfl⟩:=h;obtain⟨C,J⟩:=many (ys:=x.1) (r':=x.2) hx (fun _ h=>List.mem_append_left _ h);obtain⟨k1,k2⟩:=many (ys:=y.1) (r':=y.2) hy (fun _ h=>List.mem_append_right _ h);cases hv with
    |fn _ _ _ us vs E5 qc h1 h2=>
     exact .fn f _ _ us vs (by rw[C];exact E5) (by rw[k1];exact qc) (fun k d u hd hu=>J k d u hd fun d0 M=>h1 k d0 u M hu) fun k d u hd hu=>k2 k d u hd fun d0 M=>h2 k d0 u M hu
  |s v=>simp only[bX,aF,bx] at h;obtain⟨rfl,_⟩:=h;obtain⟨rfl,h⟩:=hv.s_inv;exact .s _ h
  |ub=>simp only[bX,aF,bx] at h;obtain⟨rfl,_⟩:=h;obtain⟨b,rfl⟩:=hv.ub_inv;exact .ub b
  |u=>simp only[bX,aF,bx] at h;obtain⟨rfl,_⟩:=h;exact .u v
  |z=>simp only[bX,aF,bx] at h;obtain⟨rfl,_⟩:=h;obtain⟨a,rfl⟩:=hv.z_inv;exact .z a
end
section
variable(P:Program)
def r7(env:Env)(o:Op):Bool:=match o with
 | .pick c _ _=>decide (opd env c).ask
 |o=>o.operands.toList.all fun x=>decide (opd env x).ask
theorem B6{env:Env}{o:Op}(h:r7 env o=true):asks env o:=by
 unfold r7 at h;unfold asks;cases o<;>first|exact of_decide_eq_true h|exact fun x hx=>of_decide_eq_true (br.1 h x hx)
abbrev pP:=FuncId->List D->Bool->T Row->Nat->Option (D×T Row×Nat×List Nat×List Nat)
def z7(call:pP)(f:FuncId)(args:List D)(dr:Bool)(o:Oper)(c:bK):Option (bK×List Nat×List Nat):=
 bif r7 (cQ c.env) o.op then match call f args dr c.mem c.nx with
  |some (r,m,nx,rd,wr)=>match vu c.env o.dst r with
   |some env=>some (⟨env,m,nx⟩,rd,wr)
   |none=>none
  |none=>none
 else none
def AQ(e:ea)(o:Oper)(c:bK):Option (bK×List Nat×List Nat):=
 bif r7 (cQ c.env) o.op then match e.dec with
  |isTrue _=>match yg c.mem e.ups with
   |some m=>match vu c.env o.dst e.val with
    |some env=>some (⟨env,m,c.nx+e.new⟩,e.rd,e.ups.map (·.1))
    |none=>none
   |none=>none
  |isFalse _=>none
 else none
def r8(o:Oper)(d:D)(rd:List Nat)(c:bK):Option (bK×List Nat×List Nat):=match vu c.env o.dst d with
 |some env=>some (⟨env,c.mem,c.nx⟩,rd,[])
 |none=>none
def Ff(call:pP)(ops:Array Oper)(dr:Bool)(o:Oper)(c:bK):Option (bK×List Nat×List Nat):=
 match o.guard with
 |none=>match callD (rho (cQ c.env) o.op) o.op with
  |some (f,args)=>z7 call f args dr o c
  |none=>match yieldD (rho (cQ c.env) o.op) o.op with
   |some _=>none
   |none=>match gN P o.op (rho (cQ c.env) o.op) (dO c.mem) c.nx with
    |some e=>AQ e o c
    |none=>none
 |some (j,b)=>match ((ops[j]?).bind (·.dst)).bind fun t=>guardC (cQ c.env t) b with
  |none=>none
  |some g=>match callD (rho (cQ c.env) o.op) o.op with
   |some (f,args)=>bif g then z7 call f args dr o c else r8 o skipD [] c
   |none=>match yieldD (rho (cQ c.env) o.op) o.op with
    |some _=>bif g then none else r8 o skipD [] c
    |none=>match gN P o.op (rho (cQ c.env) o.op) (dO c.mem) c.nx with
     |some e=>bif e.ups.isEmpty&&Nat.beq e.new 0 then
      bif g then bif r7 (cQ c.env) o.op then match e.dec with
       |isTrue _=>r8 o (.opt true e.val) e.rd c
       |isFalse _=>none
      else none
      else r8 o (.opt false e.val) e.rd c
      else bif g then AQ e o c else r8 o skipD [] c
     |none=>bif g then none else r8 o skipD [] c
def vw(call:pP)(ops:Array Oper)(dr:Bool):List Oper->bK->Tra->Option (bK×Tra)
 |[],c,tr=>some (c,tr)
 |o::os,c,tr=>match Ff P call ops dr o c with
  |some (c',rd,wr)=>vw call ops dr os c' (tr++[(rd,wr)])
  |none=>none
def Ai(tr:Tra)(i j:Nat):Bool:=
 let a:=tr.getD i ([],[])
 let b:=tr.getD j ([],[])
 (a.2.all fun x=> !(b.1.any (Nat.beq x))&& !(b.2.any (Nat.beq x)))&&b.2.all fun x=> !(a.1.any (Nat.beq x))
theorem Re{tr:Tra}{i j:Nat}(h:Ai tr i j=true):apartT tr i j:=by
 unfold Ai at h;simp only[aM,br,Bool.not_eq_true',List.any_eq_false,Nat.beq_eq] at h;obtain⟨h1,h2⟩:=h;exact⟨fun x hx=>⟨fun hb=>(h1 x hx).1 x hb rfl,fun hb=>(h1 x hx).2 x hb rfl⟩,fun x hx ha=>h2 x hx x ha rfl⟩
def CZ(call:pP)(ops:Array Oper)(dr:Bool)(c:bK):Option bK:=
 bif dr then match drawInfo ops with
  |some cf=>match vw P call ops true ops.toList c [] with
   |some (c',tr)=>bif cf.all fun q=>Ai tr q.1 q.2 then some c' else none
   |none=>none
  |none=>none
 else match vw P call ops false ops.toList c [] with
  |some (c',_)=>some c'
  |none=>none
def xH(call:pP):Prop:=∀ f args dr m nx r m' nx' rd wr,call f args dr m nx=some (r,m',nx',rd,wr)->∀ env (K:D->Mem->Nat->List Nat->List Nat->Prop),K r (dO m') nx' rd wr->CallOp P dr ⟨env,dO m,nx⟩ f args K
end
section
variable{P:Program}
theorem GD{call:pP}(hc:xH P call){f:FuncId}{args:List D}{dr:Bool}{o:Oper}{c:bK}{C:bK}{rd wr:List Nat}(h:z7 call f args dr o c=some (C,rd,wr)){K:St->List Nat->List Nat->Prop}(J:K C.st rd wr):
 asks c.st.env o.op/\CallOp P dr c.st f args fun r m nx rd wr=>K (St.put ⟨c.st.env,m,nx⟩ o.dst r) rd wr:=by
 unfold z7 at h;cases ha:r7 (cQ c.env) o.op with
 |false=>rw[ha] at h;cases h
 |true=>
  rw[ha] at h;simp only[cond_true] at h;refine⟨B6 ha,?_⟩;split at h
  .rename_i r m nx Fg X M;split at h
   .rename_i env U;simp only[aF,bx] at h;obtain⟨rfl,rfl,rfl⟩:=h;refine hc _ _ _ _ _ _ _ _ _ _ M _ _ ?_;have:=CY U (dO m) nx;simp only[bK.st] at J ⊢;rw[<- this];exact J
   .cases h
  .cases h
theorem uK{o:Oper}{d:D}{rd C wr:List Nat}{c J:bK}(h:r8 o d rd c=some (J,C,wr)):J.st=St.put c.st o.dst d/\C=rd/\wr=[]:=by
 unfold r8 at h;split at h
 .rename_i env M;simp only[aF,bx] at h;obtain⟨rfl,rfl,rfl⟩:=h;exact⟨CY M (dO c.mem) c.nx,rfl,rfl⟩
 .cases h
theorem HH{e:ea}{o:Oper}{c C:bK}{rd wr:List Nat}(h:AQ e o c=some (C,rd,wr)){K:St->List Nat->List Nat->Prop}(J:K C.st rd wr):
 asks c.st.env o.op/\e.pre/\K (St.put ⟨c.st.env,upds c.st.mem e.ups,c.st.nx+e.new⟩ o.dst e.val) e.rd (e.ups.map (·.1)):=by
 unfold AQ at h;cases ha:r7 (cQ c.env) o.op with
 |false=>rw[ha] at h;cases h
 |true=>
  rw[ha] at h;simp only[cond_true] at h;refine⟨B6 ha,?_⟩;split at h
  .rename_i hp _;refine⟨hp,?_⟩;split at h
   .rename_i m hm;split at h
    .rename_i env M;simp only[aF,bx] at h;obtain⟨rfl,rfl,rfl⟩:=h;have:=CY M (dO m) (c.nx+e.new);simp only[bK.st] at J ⊢;rw[<- HG hm, <- this];exact J
    .cases h
   .cases h
  .cases h
theorem GU{o:Op}{ρ:Operand->D}{m:Mem}{nx:Nat}{e:ea}(h:gN P o ρ m nx=some e):aop P o ρ m nx=some e.fY:=by rw[Ie,h];rfl
theorem PV{o:Op}{ρ:Operand->D}{m:Mem}{nx:Nat}(h:gN P o ρ m nx=none):aop P o ρ m nx=none:=by rw[Ie,h];rfl
theorem Tn{call:pP}(lf:xH P call){ops:Array Oper}{dr:Bool}{o:Oper}{c c':bK}{rd wr:List Nat}(h:Ff P call ops dr o c=some (c',rd,wr)){K:St->List Nat->List Nat->Prop}(C:K c'.st rd wr):
 AOp P noY ops dr o c.st K:=by
 unfold Ff at h;unfold AOp;split at h
 .rename_i hg;simp only[hg];split at h
  .rename_i f args hc;obtain⟨h1,h2⟩:=GD lf h C;refine⟨h1,?_⟩;simp only[bK.st] at h2 ⊢;rw[hc];exact h2
  .rename_i hc;split at h
   .cases h
   .rename_i hy;split at h
    .rename_i e he;obtain⟨h1,h2,h3⟩:=HH h C;refine⟨h1,?_⟩;have:=GU he;simp only[bK.st] at h2 h3 ⊢;rw[hc];simp only;rw[hy];simp only;rw[this];exact⟨h2,h3⟩
    .cases h
 .rename_i j b hg;simp only[hg];split at h
  .cases h
  .rename_i g X;have Xx:(((ops[j]?).bind (·.dst)).bind fun t=>guardC (c.st.env t) b)=some g:=X;rw[Xx];simp only;split at h
   .rename_i f args hc;have vY:callD (rho c.st.env o.op) o.op=some (f,args):=hc;rw[vY];simp only;cases g with
    |true=>
     simp only[cond_true] at h;exact .inr ⟨fun _=>GD lf h C,oS⟩
    |false=>
     simp only[cond_false] at h;obtain⟨h1,rfl,rfl⟩:=uK h;exact .inr ⟨oS,fun _=>h1▸C⟩
   .rename_i hc;have vY:callD (rho c.st.env o.op) o.op=none:=hc;rw[vY];simp only;split at h
    .rename_i y hy;have M:yieldD (rho c.st.env o.op) o.op=some y:=hy;rw[M];obtain⟨l,args⟩:=y;cases g with
     |true=>simp at h
     |false=>
      simp only[cond_false] at h;obtain⟨h1,rfl,rfl⟩:=uK h;exact⟨oS,fun _=>h1▸C⟩
    .rename_i hy;have M:yieldD (rho c.st.env o.op) o.op=none:=hy;rw[M];simp only;split at h
     .rename_i e he;have U:aop P o.op (rho c.st.env o.op) c.st.mem c.st.nx=some e.fY:=GU he;rw[U];cases J:(e.ups.isEmpty&&Nat.beq e.new 0) with
      |true=>
       have hb:(e.fY.ups.isEmpty&&e.fY.new==0)=true:=by
        have:∀ a:Nat,(a==0)=Nat.beq a 0:=fun a=>by cases a<;>rfl
        simp only[ea.fY,this];exact J
       simp only[hb,if_true];rw[J] at h;simp only[cond_true] at h;cases g with
       |true=>
        simp only[cond_true] at h;cases ha:r7 (cQ c.env) o.op with
        |false=>rw[ha] at h;cases h
        |true=>
         rw[ha] at h;simp only[cond_true] at h;split at h
         .rename_i hp _;obtain⟨h1,rfl,rfl⟩:=uK h;exact⟨fun _=>⟨B6 ha,hp⟩,h1▸C⟩
         .cases h
       |false=>
        simp only[cond_false] at h;obtain⟨h1,rfl,rfl⟩:=uK h;exact⟨oS,h1▸C⟩
      |false=>
       have hb:(e.fY.ups.isEmpty&&e.fY.new==0)=false:=by
        have:∀ a:Nat,(a==0)=Nat.beq a 0:=fun a=>by cases a<;>rfl
        simp only[ea.fY,this];exact J
       simp only[hb,Bool.false_eq_true,if_false];rw[J] at h;simp only[cond_false] at h;cases g with
       |true=>
        simp only[cond_true] at h;exact⟨fun _=>HH h C,oS⟩
       |false=>
        simp only[cond_false] at h;obtain⟨h1,rfl,rfl⟩:=uK h;exact⟨oS,fun _=>h1▸C⟩
     .rename_i he;have U:aop P o.op (rho c.st.env o.op) c.st.mem c.st.nx=none:=PV he;rw[U];simp only;cases g with
      |true=>simp at h
      |false=>
       simp only[cond_false] at h;obtain⟨h1,rfl,rfl⟩:=uK h;exact⟨rfl,h1▸C⟩
theorem CA{call:pP}(U:xH P call){ops:Array Oper}{dr:Bool}{cf:List (Nat×Nat)}{Q:Exit->St->Prop}:∀ (M:List Oper) (c C:bK) (tr J:Tra),vw P call ops dr M c tr=some (C,J)->(∀ q∈cf,apartT J q.1 q.2)->Q .normal C.st->
 AOps P noY ops dr cf Q M c.st tr
 |[],c,C,tr,J,h,oJ,hQ=>by
  simp only[vw,aF,bx] at h;obtain⟨rfl,rfl⟩:=h;exact⟨oJ,hQ⟩
 |o::M,c,C,tr,J,h,oJ,hQ=>by
  simp only[vw] at h;split at h
  .rename_i X rd wr h1;exact Tn U h1 (CA U M X C _ J h oJ hQ)
  .cases h
theorem O9{call:pP}(U:xH P call){ops:Array Oper}{dr:Bool}{c J:bK}(h:CZ P call ops dr c=some J){id:Nat}{rf:Bool}{Q:Exit->St->Prop}(M:Q .normal J.st):AW P noY rf (.region id ops dr) Q c.st:=by
 unfold CZ at h;cases dr with
 |true=>
  simp only[cond_true] at h;split at h
  .rename_i cf oJ;split at h
   .rename_i X tr h1;cases C:cf.all fun q=>Ai tr q.1 q.2 with
    |false=>rw[C] at h;cases h
    |true=>
     rw[C] at h;simp only[cond_true,aF] at h;subst h
     show match drawInfo ops with
      |some cf=>AOps P noY ops true cf Q ops.toList c.st []
      |none=>False
     rw[oJ];exact CA U _ _ _ _ _ h1 (fun q hq=>Re (br.1 C q hq)) M
   .cases h
  .cases h
 |false=>
  simp only[cond_false] at h;split at h
  .rename_i X tr h1;simp only[aF] at h;subst h;exact CA (cf:=[]) U _ _ _ _ _ h1 oS M
  .cases h
end
structure Ctx where
 Bp:FuncId->Option (Func×Code)
 iter:FuncId->List D->List D->Option (List (List D))
 known:FuncId->List D->Option D
structure Ctx.Ok(P:Program)(x:Ctx):Prop where
 mix:P.follows .mixedOrders=true
 Bp:∀ f fn c,x.Bp f=some (fn,c)->kF P f fn c
 iter:∀ f fs cs xs,x.iter f fs cs=some xs->SeqA P f fs cs xs/\∀ y∈xs,∀ d∈y,Tr d
 known:∀ f args r,x.known f args=some r->PCall P f args r
def rW:Nat->List D->T D->Option (T D)
 |_,[],t=>some t
 |k,d::ds,t=>match t.put k (some d) with
  |some C=>rW (k+1) ds C
  |none=>none
theorem GF:∀ {ds:List D} {k:Nat} {t C:T D},rW k ds t=some C->∀ j,cQ C j=if k<=j/\j<k+ds.length then ds.getD (j - k) .u else cQ t j
 |[],k,t,C,h,j=>by
  simp only[rW,aF] at h;subst h;rw[if_neg oS]
 |d::ds,k,t,C,h,j=>by
  simp only[rW] at h;split at h
  .rename_i J h1;rw[GF h j,Cz h1];by_cases hj:j=k
   .subst hj;rw[if_neg oG,up_same,if_pos oS];simp
   .rw[up_ne _ _ hj];by_cases al:k+1<=j/\j<k+1+ds.length
    .rw[if_pos al,if_pos oP];have:j - k=(j - (k+1))+1:=by omega
     rw[this];simp
    .rw[if_neg al,if_neg oP]
  .cases h
theorem GG{args:List D}{t:T D}(h:rW 0 args .leaf=some t):cQ t=envOf args:=by
 funext j;rw[GF h j];unfold envOf;split
 .simp
 .rename_i hj;have:args.length<=j:=by omega
  simp[cQ,T.get,this]
def uT:T D->List Tmp->List D->Option (T D)
 |t,p::ps,d::ds=>match t.put p (some d) with
  |some C=>uT C ps ds
  |none=>none
 |t,_,_=>some t
theorem Gs:∀ {ps:List Tmp} {ds:List D} {t C:T D},uT t ps ds=some C->cQ C=setAll (cQ t) ps ds
 |[],ds,t,C,h=>by simp only[uT,aF] at h;subst h;rfl
 |_::_,[],t,C,h=>by simp only[uT,aF] at h;subst h;rfl
 |p::ps,d::ds,t,C,h=>by
  simp only[uT] at h;split at h
  .rename_i J h1;rw[Gs h,Cz h1];rfl
  .cases h
section
variable(P:Program)
def Et(c:bK):ResultVar->Option D
 | .tmp t=>some (cQ c.env t)
 | .cell a t=>match cQ c.env a with
  | .rp i off=>match c.mem.get i with
   |some (.cells cs _)=>bif tyOk P t&&Nat.ble (off+P.cellsOf t) cs.length then some (takeV P t (cs.drop off)) else none
   |_=>none
  | .pt cs=>bif tyOk P t&&Nat.ble (P.cellsOf t) cs.length then some (takeV P t cs) else none
  |_=>none
def vy(c:bK):List ResultVar->Option (List D)
 |[]=>some []
 |r::rs=>match Et P c r with
  |some d=>match vy c rs with
   |some ds=>some (d::ds)
   |none=>none
  |none=>none
def yh(x:Ctx)(C:Bool->Code->bK->Option (Exit×bK))(f:FuncId)(args:List D)(m:T Row)(nx:Nat):Option (D×T Row×Nat):=
 match x.Bp f with
 |none=>none
 |some (fn,c)=>bif Nat.ble args.length fn.ntmps then
  match rW 0 args .leaf with
  |none=>none
  |some t=>match C true c ⟨t,m,nx⟩ with
   |some (.normal,s)=>match vy P s fn.results.toList with
    |some ds=>some (one1 ds,s.mem,s.nx)
    |none=>none
   |some (.ret,s)=>match vy P s fn.results.toList with
    |some ds=>some (one1 ds,s.mem,s.nx)
    |none=>none
   |_=>none
  else none
def depth:Nat:=12
def vj(x:Ctx)(C:Bool->Code->bK->Option (Exit×bK))(f:FuncId)(args:List D):Option (D ⊕ (List D×Nat×TypeId)):=
 match yh P x C f args .leaf 0 with
 |none=>none
 |some (d,m,_)=>match d with
  | .rs i 0 k=>match m.get i with
   |some (.cells es t)=>bif es.all (mz depth) then some (.inr (es,k,t)) else match bX P (dO m) depth (.rs i 0 k) with
    |some (r,_)=>some (.inl r)
    |none=>none
   |_=>none
  |d=>match bX P (dO m) depth d with
   |some (r,_)=>some (.inl r)
   |none=>none
def DZ(x:Ctx)(C:Bool->Code->bK->Option (Exit×bK)):pP:=fun f args dr m nx=>
 match x.known f args with
 |some r=>some (r,m,nx,[],[])
 |none=>bif args.all (mz depth) then match vj P x C f args with
  |some (.inl r)=>some (r,m,nx,[],[])
  |some (.inr (es,k,t))=>match m.put nx (some (.cells es t)) with
   |some m'=>some (.rs nx 0 k,m',nx+1,[],[nx])
   |none=>none
  |none=>none
  else bif dr then match fV (bX P (dO m) depth) args with
   |none=>none
   |some (args',rds)=>match x.known f args' with
    |some r=>bif r.scal then some (r,m,nx,rds,[]) else none
    |none=>match vj P x C f args' with
     |some (.inl r)=>bif r.scal then some (r,m,nx,rds,[]) else none
     |_=>none
  else match yh P x C f args m nx with
   |some (d,m',nx')=>some (d,m',nx',[],[])
   |none=>none
def wS(C:Bool->Code->bK->Option (Exit×bK))(env:T D)(ps:List Tmp)(assign body:Code):List (List D)->T Row->Nat->Option (Exit×T Row×Nat)
 |[],m,nx=>some (.normal,m,nx)
 |y::ys,m,nx=>match uT env ps y with
  |none=>none
  |some t=>match C false assign ⟨t,m,nx⟩ with
   |some (.normal,s)=>match C false body s with
    |some (.normal,s')=>wS C env ps assign body ys s'.mem s'.nx
    |some (.ret,s')=>some (.ret,s'.mem,s'.nx)
    |some (.exit i,s')=>some (.exit i,s'.mem,s'.nx)
    |_=>none
   |_=>none
def ni(x:Ctx)(C:Bool->Code->bK->Option (Exit×bK))(rf:Bool)(c:Code)(s:bK):Option (Exit×bK):=match c with
 | .skip=>some (.normal,s)
 | .region _ ops dr=>match CZ P (DZ P x C) ops dr s with
  |some s'=>some (.normal,s')
  |none=>none
 | .seq a b=>match C rf a s with
  |some (.normal,s')=>C rf b s'
  |r=>r
 | .cond c a b=>bif decide (opd (cQ s.env) c).ask then match (opd (cQ s.env) c).core with
   | .s (.bool t)=>bif t then C rf a s else C rf b s
   |_=>none
  else none
 | .block id b=>match C rf b s with
  |some (.exit i,s')=>bif Nat.beq i id then some (.normal,s') else some (.exit i,s')
  |r=>r
 | .scope b=>match C rf b s with
  |some (.goto _,_)=>none
  |r=>r
 | .loop b=>match C rf b s with
  |some (.normal,s')=>C rf (.loop b) s'
  |r=>r
 | .rangeFunc g ps assign body=>bif rf&&decide (opd (cQ s.env) g).ask then match (opd (cQ s.env) g).core with
   | .fn (.func f) fs cs=>match x.iter f fs cs with
    |some ys=>bif ys.all fun y=>Nat.beq y.length ps.size then match wS C s.env ps.toList assign body ys s.mem s.nx with
     |some (e,m,nx)=>some (e,⟨s.env,m,nx⟩)
     |none=>none
     else none
    |none=>none
   |_=>none
  else none
 | .exit id=>some (.exit id,s)
 | .label _=>some (.normal,s)
 | .ret=>some (.ret,s)
 |_=>none
def ug(x:Ctx):Nat->Bool->Code->bK->Option (Exit×bK)
 |0=>fun _ _ _=>none
 |n+1=>ni P x (ug x n)
end
section
variable{P:Program}{x:Ctx}
theorem Dv{c:bK}{K:List D->Prop}:∀ {rs:List ResultVar} {ds C:List D},vy P c rs=some ds->K (C++ds)->retL P c.st rs C K
 |[],ds,C,h,hK=>by
  simp only[vy,aF] at h;subst h;simpa[retL] using hK
 |r::rs,ds,C,h,hK=>by
  simp only[vy] at h;split at h
  .rename_i d hd;split at h
   .rename_i X J;simp only[aF] at h;subst h
    have U:∃ p,resD P c.st r=some (p,d)/\p:=by
     cases r with
     |tmp t=>
      simp only[Et,aF] at hd;exact⟨True,by simp only[resD,bK.st,hd],trivial⟩
     |cell a t=>
      simp only[Et] at hd;simp only[resD,bK.st];split at hd
      .rename_i i off ha;rw[ha];simp only;split at hd
       .rename_i cs e hm;have M:dO c.mem i=some (.cells cs e):=hm;rw[M];simp only;cases hb:(tyOk P t&&Nat.ble (off+P.cellsOf t) cs.length) with
        |false=>rw[hb] at hd;cases hd
        |true=>
         rw[hb] at hd;simp only[cond_true,aF] at hd;simp only[aM,Nat.ble_eq] at hb;exact⟨_,by rw[hd],hb⟩
       .cases hd
      .rename_i cs ha;rw[ha];simp only;cases hb:(tyOk P t&&Nat.ble (P.cellsOf t) cs.length) with
       |false=>rw[hb] at hd;cases hd
       |true=>
        rw[hb] at hd;simp only[cond_true,aF] at hd;simp only[aM,Nat.ble_eq] at hb;exact⟨_,by rw[hd],hb⟩
      .cases hd
    obtain⟨p,h1,h2⟩:=U;simp only[retL,h1];exact⟨h2,Dv J (by simpa using hK)⟩
   .cases h
  .cases h
def vz(P:Program)(C:Bool->Code->bK->Option (Exit×bK)):Prop:=∀ rf c s e s',C rf c s=some (e,s')->∀ Q:Exit->St->Prop,Q e s'.st->AW P noY rf c Q s.st
theorem Ih(hx:x.Ok P){M:Bool->Code->bK->Option (Exit×bK)}(U:vz P M){f:FuncId}{args:List D}{m m':T Row}{nx nx':Nat}{d:D}(h:yh P x M f args m nx=some (d,m',nx')):
 ∃ fn c,kF P f fn c/\Nat.ble args.length fn.ntmps=true/\∀ K:D->St->Prop,(∀ env,K d ⟨env,dO m',nx'⟩)->AW P noY true c (retQ P fn.results.toList K) ⟨envOf args,dO m,nx⟩:=by
 unfold yh at h;split at h
 .cases h
 .rename_i fn c Xy;cases hb:Nat.ble args.length fn.ntmps with
  |false=>rw[hb] at h;cases h
  |true=>
   rw[hb] at h;simp only[cond_true] at h;split at h
   .cases h
   .rename_i t ht;refine⟨fn,c,hx.Bp f fn c Xy,hb,fun K X=>?_⟩;rw[<- GG ht];split at h
    .rename_i s J;split at h
     .rename_i ds C;simp only[aF,bx] at h;obtain⟨rfl,rfl,rfl⟩:=h;exact U _ _ _ _ _ J _ (Dv (K:=fun ds=>K (one1 ds) s.st) C (X _))
     .cases h
    .rename_i s J;split at h
     .rename_i ds C;simp only[aF,bx] at h;obtain⟨rfl,rfl,rfl⟩:=h;exact U _ _ _ _ _ J _ (Dv (K:=fun ds=>K (one1 ds) s.st) C (X _))
     .cases h
    .cases h
theorem PW:dO .leaf=fun _=>none:=rfl
theorem O'(M:P.follows .mixedOrders=true){fn:Func}{f:FuncId}{c:Code}(hf:kF P f fn c){args:List D}(hn:Nat.ble args.length fn.ntmps=true)(ht:∀ a∈args,Tr a){d r:D}{m:Mem}{n:Nat}{rds:List Nat}(hd:bX P m n d=some (r,rds))
 (h:AW P noY true c (retQ P fn.results.toList fun d' st=>d'=d/\st.mem=m) ⟨envOf args,fun _=>none,0⟩):PCall P f args r:=
 ⟨hf.he,ht,fun F w vs J hR=>(wM M hf.hf hf.hb hf.al hn h (fun _ _ _ _ _ h=>h.elim) (Cg J) (fun _ _=>rfl) hR).mono fun e w' hp=>by
  obtain⟨v,d',st',β',h1,⟨rfl,rfl⟩,h3,h4,h5,C,U,X⟩:=hp
  exact⟨v,h1,xG hd (fun i _ r hr=>by
   obtain⟨p,hp,av⟩:=h4.row i r hr
   exact⟨p,hp,av,fun b hb=>h4.nf i p b hp hb⟩) h3,BU C⟩⟩
theorem B7(hx:x.Ok P){J:Bool->Code->bK->Option (Exit×bK)}(X:vz P J){f:FuncId}{args:List D}(ht:∀ a∈args,Tr a):
 (∀ r,vj P x J f args=some (.inl r)->PCall P f args r)/\∀ es k t,vj P x J f args=some (.inr (es,k,t))->OCall P f args es k t:=by
 unfold vj;cases U:yh P x J f args .leaf 0 with
 |none=>exact⟨fun r h=>oH,fun es k t h=>oH⟩
 |some q=>
  obtain⟨d,m,nx⟩:=q;obtain⟨fn,c,hf,hn,C⟩:=Ih hx X U
  have deep:∀ d r rds,d=d->bX P (dO m) depth d=some (r,rds)->(∀ K:D->St->Prop,(∀ env,K d ⟨env,dO m,nx⟩)->AW P noY true c (retQ P fn.results.toList K) ⟨envOf args,dO .leaf,0⟩)->PCall P f args r:=fun d r rds _ hd C=>
   O' hx.mix hf hn ht hd (C _ fun env=>⟨rfl,rfl⟩)
  simp only;split
  .rename_i i k;split
   .rename_i es t hm;cases M:es.all (mz depth) with
    |true=>
     simp only[cond_true];refine⟨fun r h=>(by simp at h),fun es' k' t' h=>?_⟩;simp only[aF,Sum.inr.injEq,bx] at h;obtain⟨rfl,rfl,rfl⟩:=h;exact HE hx.mix hf hn ht (fun a ha=>lU (br.1 M a ha)) (C _ fun env=>⟨i,rfl,hm⟩)
    |false=>
     simp only[cond_false];split
     .rename_i r rds hd;exact⟨fun r' h=>(by simp only[aF,Sum.inl.injEq] at h;subst h;exact deep _ _ _ rfl hd C),fun es k t h=>(by simp at h)⟩
     .exact⟨fun r h=>oH,fun es k t h=>oH⟩
   .exact⟨fun r h=>oH,fun es k t h=>oH⟩
  .split
   .rename_i r rds hd;exact⟨fun r' h=>(by simp only[aF,Sum.inl.injEq] at h;subst h;exact deep _ _ _ rfl hd C),fun es k t h=>(by simp at h)⟩
   .exact⟨fun r h=>oH,fun es k t h=>oH⟩
theorem Gt{m:Mem}{n:Nat}{rds:List Nat}:∀ {aS bs:List D} {r:List Nat},fV (bX P m n) aS=some (bs,r)->(∀ i∈r,i∈rds)->Sns P rds m aS bs
 |[],bs,r,h,_=>by
  simp only[fV,aF,bx] at h;obtain⟨rfl,_⟩:=h;trivial
 |a::aS,bs,r,h,hr=>by
  simp only[fV] at h;split at h
  .cases h
  .rename_i y hy;split at h
   .cases h
   .rename_i ys C;simp only[aF,bx] at h;obtain⟨rfl,rfl⟩:=h;exact⟨fun F β w v hl hv=>xG (r:=y.2) hy (fun i hi=>hl i (hr i (List.mem_append_left _ hi))) hv,Gt (r:=ys.2) C fun i hi=>hr i (List.mem_append_right _ hi)⟩
theorem Rf(hx:x.Ok P){ev:Bool->Code->bK->Option (Exit×bK)}(U:vz P ev):xH P (DZ P x ev):=by
 intro f args dr m nx r m' nx' rd wr h env K C;unfold DZ at h;split at h
 .rename_i r' hk;simp only[aF,bx] at h;obtain⟨rfl,rfl,rfl,rfl,rfl⟩:=h;exact .inl ⟨_,hx.known _ _ _ hk,C⟩
 .cases M:args.all (mz depth) with
  |true=>
   rw[M] at h;simp only[cond_true] at h;obtain⟨h1,h2⟩:=B7 hx U (f:=f) (args:=args) fun a ha=>lU (br.1 M a ha);split at h
   .rename_i r' hp;simp only[aF,bx] at h;obtain⟨rfl,rfl,rfl,rfl,rfl⟩:=h;exact .inl ⟨_,h1 _ hp,C⟩
   .rename_i es k t hp;split at h
    .rename_i m1 hm;simp only[aF,bx] at h;obtain⟨rfl,rfl,rfl,rfl,rfl⟩:=h;rw[HF hm] at C;exact .inr (.inr (.inl ⟨es,k,t,h2 _ _ _ hp,C⟩))
    .cases h
   .cases h
  |false=>
   rw[M] at h;simp only[cond_false] at h;cases dr with
   |true=>
    simp only[cond_true] at h;split at h
    .cases h
    .rename_i args' rds X;have aT:∀ a∈args',Tr a:=nQ X fun x y r' h=>z6 h;have fN:Sns P rds (dO m) args args':=Gt X fun _ h=>h;split at h
     .rename_i r' hk;cases J:r'.scal with
      |false=>rw[J] at h;cases h
      |true=>
       rw[J] at h;simp only[cond_true,aF,bx] at h;obtain⟨rfl,rfl,rfl,rfl,rfl⟩:=h;exact .inr (.inl ⟨args',_,_,fN,hx.known _ _ _ hk,J,C⟩)
     .split at h
      .rename_i r' hp;cases J:r'.scal with
       |false=>rw[J] at h;cases h
       |true=>
        rw[J] at h;simp only[cond_true,aF,bx] at h;obtain⟨rfl,rfl,rfl,rfl,rfl⟩:=h;exact .inr (.inl ⟨args',_,_,fN,(B7 hx U aT).1 _ hp,J,C⟩)
      .cases h
   |false=>
    simp only[cond_false] at h;split at h
    .rename_i d m1 q9 eJ;simp only[aF,bx] at h;obtain⟨rfl,rfl,rfl,rfl,rfl⟩:=h;obtain⟨fn,c,hf,hn,uh⟩:=Ih hx U eJ;exact .inr (.inr (.inr (.inl ⟨rfl,HD hx.mix hf hn (uh (fun d st=>K d st.mem st.nx [] []) fun env=>C)⟩)))
    .cases h
theorem GH{X:Bool->Code->bK->Option (Exit×bK)}(J:vz P X){env:T D}{ps:List Tmp}{assign body:Code}{Q:Exit->St->Prop}:∀ {ys:List (List D)} {m m':T Row} {nx nx':Nat} {e:Exit},wS X env ps assign body ys m nx=some (e,m',nx')->
 Q e ⟨cQ env,dO m',nx'⟩->∃ I:Nat->Mem->Nat->Prop,I 0 (dO m) nx/\
  (∀ k m nx y,ys[k]? =some y->I k m nx->AW P noY false assign (assignQ fun s=>AW P noY false body (roundQ (cQ env) (I (k+1)) Q) s) ⟨setAll (cQ env) ps y,m,nx⟩)/\
  ∀ m nx,I ys.length m nx->Q .normal ⟨cQ env,m,nx⟩
 |[],m,m',nx,nx',e,h,hQ=>by
  simp only[wS,aF,bx] at h;obtain⟨rfl,rfl,rfl⟩:=h;exact⟨fun _ a b=>a=dO m/\b=nx,⟨rfl,rfl⟩,fun k _ _ y hy=>by simp at hy,fun a b h=>by obtain⟨rfl,rfl⟩:=h;exact hQ⟩
 |y::ys,m,m',nx,nx',e,h,hQ=>by
  simp only[wS] at h;split at h
  .cases h
  .rename_i t ht;have qK:=Gs ht;split at h
   .rename_i s hs
    have done:∀ (I:Nat->Mem->Nat->Prop),AW P noY false body (roundQ (cQ env) (I 0) Q) s.st->
     (∀ k m nx y,ys[k]? =some y->I k m nx->AW P noY false assign (assignQ fun s=>AW P noY false body (roundQ (cQ env) (I (k+1)) Q) s) ⟨setAll (cQ env) ps y,m,nx⟩)->
     (∀ m nx,I ys.length m nx->Q .normal ⟨cQ env,m,nx⟩)->
     ∃ I:Nat->Mem->Nat->Prop,I 0 (dO m) nx/\
      (∀ k m nx z,(y::ys)[k]? =some z->I k m nx->AW P noY false assign (assignQ fun s=>AW P noY false body (roundQ (cQ env) (I (k+1)) Q) s) ⟨setAll (cQ env) ps z,m,nx⟩)/\
      ∀ m nx,I (y::ys).length m nx->Q .normal ⟨cQ env,m,nx⟩:=fun I h1 h2 h3=>by
     refine⟨fun k a b=>match k with|0=>a=dO m/\b=nx|k+1=>I k a b,⟨rfl,rfl⟩,fun k a b z U M=>?_,fun a b M=>h3 a b M⟩;cases k with
     |zero=>
      obtain⟨rfl,rfl⟩:=M;simp only[List.getElem?_cons_zero,aF] at U;subst U;rw[<- qK];exact J _ _ _ _ _ hs _ h1
     |succ k=>exact h2 k a b z (by simpa using U) M
    split at h
    .rename_i s' C;obtain⟨I,g1,g2,g3⟩:=GH J h hQ;exact done I (J _ _ _ _ _ C _ g1) g2 g3
    .rename_i s' C;simp only[aF,bx] at h;obtain⟨rfl,rfl,rfl⟩:=h;exact done (fun _ _ _=>False) (J _ _ _ _ _ C _ hQ) (fun _ _ _ _ _ h=>h.elim) fun _ _ h=>h.elim
    .rename_i i s' C;simp only[aF,bx] at h;obtain⟨rfl,rfl,rfl⟩:=h;exact done (fun _ _ _=>False) (J _ _ _ _ _ C _ hQ) (fun _ _ _ _ _ h=>h.elim) fun _ _ h=>h.elim
    .cases h
   .cases h
theorem JD(hx:x.Ok P):∀ n,vz P (ug P x n):=by
 intro n
 induction n using Nat.strongRecOn with
 |_ n ih=>
  cases n with
  |zero=>intro rf c s e s' h;cases h
  |succ n=>
   have J:=ih n (Nat.lt_succ_self n);intro rf c s e s' h Q C;simp only[ug] at h;cases c with
   |skip=>
    simp only[ni,aF,bx] at h;obtain⟨rfl,rfl⟩:=h;exact C
   |ret=>
    simp only[ni,aF,bx] at h;obtain⟨rfl,rfl⟩:=h;exact C
   |label l=>
    simp only[ni,aF,bx] at h;obtain⟨rfl,rfl⟩:=h;exact C
   |exit id=>
    simp only[ni,aF,bx] at h;obtain⟨rfl,rfl⟩:=h;exact C
   |region id ops dr=>
    simp only[ni] at h;split at h
    .rename_i s1 h1;simp only[aF,bx] at h;obtain⟨rfl,rfl⟩:=h;exact O9 (Rf hx J) h1 C
    .cases h
   |seq a b=>
    simp only[ni] at h;split at h
    .rename_i s1 h1;exact J _ _ _ _ _ h1 _ ⟨_,.refl _,J _ _ _ _ _ h _ C⟩
    .rename_i U;refine J _ _ _ _ _ h _ ?_;cases e with
     |normal=>exact absurd h (U s')
     |_=>exact C
   |cond c a b=>
    simp only[ni] at h;cases M:decide (opd (cQ s.env) c).ask with
    |false=>rw[M] at h;cases h
    |true=>
     rw[M] at h;simp only[cond_true] at h;refine⟨of_decide_eq_true M,?_⟩;split at h
     .rename_i t ht;have ht':(opd s.st.env c).core=.s (.bool t):=ht;rw[ht'];cases t with
      |true=>exact⟨fun _=>J _ _ _ _ _ h _ C,fun h=>by cases h⟩
      |false=>exact⟨fun h=>oH,fun _=>J _ _ _ _ _ h _ C⟩
     .cases h
   |block id b=>
    simp only[ni] at h;split at h
    .rename_i i s1 h1;refine J _ _ _ _ _ h1 (blockQ id Q) ?_;simp only[blockQ];cases hb:Nat.beq i id with
     |true=>
      rw[hb] at h;simp only[cond_true,aF,bx] at h;obtain⟨rfl,rfl⟩:=h;rw[if_pos (Nat.eq_of_beq_eq_true hb)];exact C
     |false=>
      rw[hb] at h;simp only[cond_false,aF,bx] at h;obtain⟨rfl,rfl⟩:=h;rw[if_neg (Nat.ne_of_beq_eq_false hb)];exact C
    .rename_i U;refine J _ _ _ _ _ h (blockQ id Q) ?_;cases e with
     |exit i=>exact absurd h (U i s')
     |_=>exact C
   |scope b=>
    simp only[ni] at h;split at h
    .cases h
    .rename_i U;refine J _ _ _ _ _ h (scopeQ Q) ?_;cases e with
     |goto l=>exact absurd h (U l s')
     |_=>exact C
   |loop b=>
    refine HI (fun j st=>j<=n+1/\∃ s,st=s.st/\ug P x j rf (.loop b) s=some (e,s')) (j₀:=n+1) ⟨bE _,s,rfl,h⟩ ?_;rintro j st ⟨hj,s,rfl,X⟩;cases j with
    |zero=>cases X
    |succ j=>
     have Nq:=ih j oG;simp only[ug,ni] at X;split at X
     .rename_i s1 h1;exact Nq _ _ _ _ _ h1 _ ⟨_,.refl _,j,Nat.lt_succ_self j,oG,s1,rfl,X⟩
     .rename_i U;refine Nq _ _ _ _ _ X _ ?_;cases e with
      |normal=>exact absurd X (U s')
      |_=>exact C
   |rangeFunc g ps assign body=>
    simp only[ni] at h;cases M:(rf&&decide (opd (cQ s.env) g).ask) with
    |false=>rw[M] at h;cases h
    |true=>
     rw[M] at h;simp only[cond_true] at h;simp only[aM] at M;split at h
     .rename_i f fs cs vg;split at h
      .rename_i ys Fi;cases bt:ys.all fun y=>Nat.beq y.length ps.size with
       |false=>rw[bt] at h;cases h
       |true=>
        rw[bt] at h;simp only[cond_true] at h;split at h
        .rename_i e1 m nx hr;simp only[aF,bx] at h;obtain⟨rfl,rfl⟩:=h;obtain⟨I,g1,g2,g3⟩:=GH J hr C;obtain⟨k1,k2⟩:=hx.iter _ _ _ _ Fi;exact⟨M.1,of_decide_eq_true M.2,f,fs,cs,ys,I,vg,k1,fun y hy=>⟨Nat.eq_of_beq_eq_true (br.1 bt y hy),k2 y hy⟩,g1,g2,g3⟩
        .cases h
      .cases h
     .cases h
   |_=>cases h
theorem iP(hx:x.Ok P)(n:Nat){f:FuncId}{args:List D}{r:D}(ht:args.all (mz depth)=true)(h:vj P x (ug P x n) f args=some (.inl r)):PCall P f args r:=
 (B7 hx (JD hx n) fun a ha=>lU (br.1 ht a ha)).1 r h
end
def ax:List (Nat×D)->Env
 |[],_=>.u
 |(t,d)::l,j=>if j=t then d else ax l j
def jM:List (Nat×D)->Env->Prop
 |[],_=>True
 |(t,d)::l,env=>env t=d/\jM l env
theorem lO:∀ {l:List (Nat×D)} {env:Env},jM l env->∀ t,ax l t=env t\/ax l t=.u
 |[],_,_,_=>.inr rfl
 |(k,d)::l,env,h,t=>by
  simp only[ax];by_cases ht:t=k
  .subst ht;rw[if_pos rfl];exact .inl h.1.symm
  .rw[if_neg ht];exact lO h.2 t
def fL(env:Env):List Operand->Prop
 |[]=>True
 |x::xs=>(opd env x).ask/\fL env xs
theorem HM{env:Env}:∀ {l:List Operand},fL env l->∀ x∈l,(opd env x).ask
 |[],_,x,h=>by cases h
 |y::l,h,x,hx=>by
  cases hx with
  |head=>exact h.1
  |tail _ hx=>exact HM h.2 x hx
theorem mT{env:Env}{o:Op}(h:fL env o.operands.toList):asks env o:=by
 have:=HM h;unfold asks;cases o<;>first|exact this|exact this _ ei
section
variable{P:Program}{Y:YSpec}{rf:Bool}
structure Ef(P:Program)(op:Op)(env:Env)(m:Mem)(nx:Nat)(e:Eff):Prop where
 ok:aop P op (rho env op) m nx=some e
 nc:callD (rho env op) op=none
 ny:yieldD (rho env op) op=none
variable{ops:Array Oper}{dr:Bool}{cf:List (Nat×Nat)}{Q:Exit->St->Prop}{rest:List Oper}{env:Env}{m:Mem}{nx:Nat}{tr:Tra}{t:Nat}{op:Op}{ty:TypeId}{pos:String}{after:Array Edge}
 {pre:Prop} {v:D} {rd:List Nat}
theorem tv{d:Option Nat}{e:Eff}(he:Ef P op env m nx e)(ha:asks env op)(hp:e.pre)(K:AOps P Y ops dr cf Q rest (St.put ⟨env,upds m e.ups,nx+e.new⟩ d e.val) (tr++[(e.rd,e.ups.map (·.1))])):
 AOps P Y ops dr cf Q (⟨d,op,ty,pos,after,none⟩::rest) ⟨env,m,nx⟩ tr:=by
 simp only[AOps,AOp];rw[he.nc,he.ny,he.ok];exact⟨ha,hp,K⟩
theorem aD(he:Ef P op env m nx ⟨pre,v,[],rd,0⟩)(ha:fL env op.operands.toList)(hp:pre)(K:AOps P Y ops dr cf Q rest ⟨up env t v,m,nx⟩ (tr++[(rd,[])])):
 AOps P Y ops dr cf Q (⟨some t,op,ty,pos,after,none⟩::rest) ⟨env,m,nx⟩ tr:=tv he (mT ha) hp K
theorem uU{c a b:Operand}{g:Bool}(hc:(opd env c).core=.s (.bool g)):Ef P (.pick c a b) env m nx ⟨(g=true->(opd env a).ask/\(opd env a).core.bool?.isSome=true)/\(g=false->(opd env b).ask/\(opd env b).core.bool?.isSome=true),
 .s (.bool (if g then(opd env a).core.bool?.getD false else(opd env b).core.bool?.getD false)),[],[],0⟩:=⟨by simp only[aop,rho,hc,D.bool?],rfl,rfl⟩
theorem Sy{c a b:Operand}{g x y:Bool}(hc:opd env c=.s (.bool g))(ha:(opd env a).core=.s (.bool x))(hb:(opd env b).core=.s (.bool y))(h1:g=true->(opd env a).ask)(h2:g=false->(opd env b).ask)
 (K:AOps P Y ops dr cf Q rest ⟨up env t (.s (.bool (if g then x else y))),m,nx⟩ (tr++[([],[])])):
 AOps P Y ops dr cf Q (⟨some t,.pick c a b,ty,pos,after,none⟩::rest) ⟨env,m,nx⟩ tr:=by
 refine tv (uU (g:=g) (by rw[hc];rfl)) (by simp only[asks,hc,D.ask]) ⟨fun h=>⟨h1 h,by rw[ha];rfl⟩,fun h=>⟨h2 h,by rw[hb];rfl⟩⟩ ?_;simp only[ha,hb,D.bool?,Option.getD_some];exact K
theorem Rm{c a b:Operand}{x:Bool}(hc:opd env c=.s (.bool true))(ha:(opd env a).core=.s (.bool x))(h1:(opd env a).ask)
 (K:AOps P Y ops dr cf Q rest ⟨up env t (.s (.bool x)),m,nx⟩ (tr++[([],[])])):
 AOps P Y ops dr cf Q (⟨some t,.pick c a b,ty,pos,after,none⟩::rest) ⟨env,m,nx⟩ tr:=by
 refine tv (uU (g:=true) (by rw[hc];rfl)) (by simp only[asks,hc,D.ask]) ⟨fun _=>⟨h1,by rw[ha];rfl⟩,fun h=>by cases h⟩ ?_;simp only[ha,D.bool?,Option.getD_some,if_true];exact K
theorem Rn{c a b:Operand}{y:Bool}(hc:opd env c=.s (.bool false))(hb:(opd env b).core=.s (.bool y))(h2:(opd env b).ask)
 (K:AOps P Y ops dr cf Q rest ⟨up env t (.s (.bool y)),m,nx⟩ (tr++[([],[])])):
 AOps P Y ops dr cf Q (⟨some t,.pick c a b,ty,pos,after,none⟩::rest) ⟨env,m,nx⟩ tr:=by
 refine tv (uU (g:=false) (by rw[hc];rfl)) (by simp only[asks,hc,D.ask]) ⟨fun h=>oH,fun _=>⟨h2,by rw[hb];rfl⟩⟩ ?_;simp only[hb,D.bool?,Option.getD_some,Bool.false_eq_true,if_false];exact K
theorem cE{i:Nat}{row:Option Row}(he:Ef P op env m nx ⟨pre,v,[(i,row)],rd,0⟩)(ha:fL env op.operands.toList)(hp:pre)(K:AOps P Y ops dr cf Q rest ⟨env,up m i row,nx⟩ (tr++[(rd,[i])])):
 AOps P Y ops dr cf Q (⟨none,op,ty,pos,after,none⟩::rest) ⟨env,m,nx⟩ tr:=tv he (mT ha) hp K
theorem fW{row:Row}(he:Ef P op env m nx ⟨pre,v,[(nx,some row)],rd,1⟩)(ha:fL env op.operands.toList)(hp:pre)(K:AOps P Y ops dr cf Q rest ⟨up env t v,up m nx (some row),nx+1⟩ (tr++[(rd,[nx])])):
 AOps P Y ops dr cf Q (⟨some t,op,ty,pos,after,none⟩::rest) ⟨env,m,nx⟩ tr:=tv he (mT ha) hp K
theorem tN{i:Nat}{row:Row}(he:Ef P op env m nx ⟨pre,v,[(i,none),(nx,some row)],rd,1⟩)(ha:fL env op.operands.toList)(hp:pre)(K:AOps P Y ops dr cf Q rest ⟨up env t v,up (up m i none) nx (some row),nx+1⟩ (tr++[(rd,[i,nx])])):
 AOps P Y ops dr cf Q (⟨some t,op,ty,pos,after,none⟩::rest) ⟨env,m,nx⟩ tr:=tv he (mT ha) hp K
theorem bl{j:Nat}{b c:Bool}{u:Nat}(hj:(ops[j]?).bind (·.dst)=some u)(hg:guardC (env u) b=some c)(he:Ef P op env m nx ⟨pre,v,[],rd,0⟩)(ha:c=true->fL env op.operands.toList/\pre)
 (K:AOps P Y ops dr cf Q rest ⟨up env t (.opt c v),m,nx⟩ (tr++[(rd,[])])):AOps P Y ops dr cf Q (⟨some t,op,ty,pos,after,some (j,b)⟩::rest) ⟨env,m,nx⟩ tr:=by
 simp only[AOps,AOp];rw[hj];simp only[Option.bind_some];rw[hg,he.nc,he.ny,he.ok];exact⟨fun hc=>⟨mT (ha hc).1,(ha hc).2⟩,K⟩
theorem Rp{j:Nat}{b0 C:Bool}{u:Nat}(hj:(ops[j]?).bind (·.dst)=some u)(hg:guardC (env u) b0=some C){c a b:Operand}{g x y:Bool}(hc:(opd env c).core=.s (.bool g))(ha:(opd env a).core=.s (.bool x))(hb:(opd env b).core=.s (.bool y))
 (h0:C=true->(opd env c).ask) (h1:C=true->g=true->(opd env a).ask) (h2:C=true->g=false->(opd env b).ask)
 (K:AOps P Y ops dr cf Q rest ⟨up env t (.opt C (.s (.bool (if g then x else y)))),m,nx⟩ (tr++[([],[])])):
 AOps P Y ops dr cf Q (⟨some t,.pick c a b,ty,pos,after,some (j,b0)⟩::rest) ⟨env,m,nx⟩ tr:=by
 have he:=uU (P:=P) (env:=env) (m:=m) (nx:=nx) (a:=a) (b:=b) hc;simp only[ha,hb,D.bool?,Option.getD_some,Option.isSome_some,and_true] at he;simp only[AOps,AOp];rw[hj];simp only[Option.bind_some];rw[hg,he.nc,he.ny,he.ok];exact⟨fun hc=>⟨by simp only[asks];exact h0 hc,h1 hc,h2 hc⟩,K⟩
theorem Ul{j:Nat}{b:Bool}{u:Nat}{d:Option Nat}{e:Eff}(hj:(ops[j]?).bind (·.dst)=some u)(hg:guardC (env u) b=some true)(he:Ef P op env m nx e)(ha:fL env op.operands.toList)(hp:e.pre)
 (K:e.ups=[]->e.new=0->AOps P Y ops dr cf Q rest (St.put ⟨env,m,nx⟩ d (.opt true e.val)) (tr++[(e.rd,[])]))
 (K':AOps P Y ops dr cf Q rest (St.put ⟨env,upds m e.ups,nx+e.new⟩ d e.val) (tr++[(e.rd,e.ups.map (·.1))])):AOps P Y ops dr cf Q (⟨d,op,ty,pos,after,some (j,b)⟩::rest) ⟨env,m,nx⟩ tr:=by
 simp only[AOps,AOp];rw[hj];simp only[Option.bind_some];rw[hg,he.nc,he.ny,he.ok];simp only;split
 .rename_i h;simp only[aM,List.isEmpty_iff,beq_iff_eq] at h;exact⟨fun _=>⟨mT ha,hp⟩,K h.1 h.2⟩
 .exact⟨fun _=>⟨mT ha,hp,K'⟩,oS⟩
theorem KJ{j:Nat}{b:Bool}{u:Nat}{d:Option Nat}(hj:(ops[j]?).bind (·.dst)=some u)(hg:guardC (env u) b=some false)
 (K:∀ (x:D) rd,AOps P Y ops dr cf Q rest (St.put ⟨env,m,nx⟩ d (.opt false x)) (tr++[(rd,[])])):AOps P Y ops dr cf Q (⟨d,op,ty,pos,after,some (j,b)⟩::rest) ⟨env,m,nx⟩ tr:=by
 simp only[AOps,AOp];rw[hj];simp only[Option.bind_some];rw[hg];simp only;split
 .exact .inr ⟨oS,fun _=>K .u []⟩
 .split
  .exact⟨oS,fun _=>K .u []⟩
  .split
   .split
    .exact⟨oS,K _ _⟩
    .exact⟨oS,fun _=>K .u []⟩
   .exact⟨trivial,K .u []⟩
theorem abY{j:Nat}{b:Bool}{u t:Nat}(hj:(ops[j]?).bind (·.dst)=some u)(hg:guardC (env u) b=some false)
 (K:∀ (x:D) rd,AOps P Y ops dr cf Q rest ⟨up env t (.opt false x),m,nx⟩ (tr++[(rd,[])])):AOps P Y ops dr cf Q (⟨some t,op,ty,pos,after,some (j,b)⟩::rest) ⟨env,m,nx⟩ tr:=KJ hj hg K
theorem wT{f:FuncId}{args:List D}{d:Option Nat}(hc:callD (rho env op) op=some (f,args))(ha:fL env op.operands.toList)(h:CallOp P dr ⟨env,m,nx⟩ f args fun r m nx rd wr=>AOps P Y ops dr cf Q rest (St.put ⟨env,m,nx⟩ d r) (tr++[(rd,wr)])):
 AOps P Y ops dr cf Q (⟨d,op,ty,pos,after,none⟩::rest) ⟨env,m,nx⟩ tr:=by
 simp only[AOps,AOp];rw[hc];exact⟨mT ha,h⟩
theorem Um{f:FuncId}{args:List D}{r:D}(h:PCall P f args r)(hc:callD (rho env op) op=some (f,args))(ha:fL env op.operands.toList)(K:AOps P Y ops dr cf Q rest ⟨up env t r,m,nx⟩ (tr++[([],[])])):
 AOps P Y ops dr cf Q (⟨some t,op,ty,pos,after,none⟩::rest) ⟨env,m,nx⟩ tr:=wT hc ha (.inl ⟨r,h,K⟩)
theorem xV{f:FuncId}{args es:List D}{n:Nat}{C:TypeId}(h:OCall P f args es n C)(hc:callD (rho env op) op=some (f,args))(ha:fL env op.operands.toList)(K:AOps P Y ops dr cf Q rest ⟨up env t (.rs nx 0 n),up m nx (some (.cells es C)),nx+1⟩ (tr++[([],[nx])])):
 AOps P Y ops dr cf Q (⟨some t,op,ty,pos,after,none⟩::rest) ⟨env,m,nx⟩ tr:=wT hc ha (.inr (.inr (.inl ⟨es,n,C,h,K⟩)))
theorem lh{f:FuncId}{args:List D}{d:Option Nat}{dp:D->Mem->Nat->Prop}(h:ACalls P f args m nx dp)(hc:callD (rho env op) op=some (f,args))(ha:fL env op.operands.toList)
 (K:∀ r m' nx',dp r m' nx'->AOps P Y ops false cf Q rest (St.put ⟨env,m',nx'⟩ d r) (tr++[([],[])])):
 AOps P Y ops false cf Q (⟨d,op,ty,pos,after,none⟩::rest) ⟨env,m,nx⟩ tr:=wT hc ha (.inr (.inr (.inr (.inl ⟨rfl,h.mono K⟩))))
theorem Dx{j:Nat}{b c:Bool}{u:Nat}{f:FuncId}{args:List D}{r:D}(hj:(ops[j]?).bind (·.dst)=some u)(hg:guardC (env u) b=some c)(hc:callD (rho env op) op=some (f,args))(h:c=true->fL env op.operands.toList/\PCall P f args r)
 (K:AOps P Y ops dr cf Q rest ⟨up env t (.opt c r),m,nx⟩ (tr++[([],[])])):AOps P Y ops dr cf Q (⟨some t,op,ty,pos,after,some (j,b)⟩::rest) ⟨env,m,nx⟩ tr:=by
 simp only[AOps,AOp];rw[hj];simp only[Option.bind_some];rw[hg,hc];exact .inl ⟨r,fun C=>⟨mT (h C).1,(h C).2⟩,K⟩
theorem Rj{j:Nat}{b:Bool}{u:Nat}{d:Option Nat}{f:FuncId}{args:List D}(hj:(ops[j]?).bind (·.dst)=some u)(hg:guardC (env u) b=some true)(hc:callD (rho env op) op=some (f,args))(ha:fL env op.operands.toList)
 (h:CallOp P dr ⟨env,m,nx⟩ f args fun r m nx rd wr=>AOps P Y ops dr cf Q rest (St.put ⟨env,m,nx⟩ d r) (tr++[(rd,wr)])):AOps P Y ops dr cf Q (⟨d,op,ty,pos,after,some (j,b)⟩::rest) ⟨env,m,nx⟩ tr:=by
 simp only[AOps,AOp];rw[hj];simp only[Option.bind_some];rw[hg,hc];exact .inr ⟨fun _=>⟨mT ha,h⟩,oS⟩
theorem Ew{l:Nat}{args:List D}{d:Option Nat}(hc:callD (rho env op) op=none)(hy:yieldD (rho env op) op=some (l,args))(ha:fL env op.operands.toList)(h:Y l args m nx fun r m' nx'=>AOps P Y ops false cf Q rest (St.put ⟨env,m',nx'⟩ d r) (tr++[([],[])])):
 AOps P Y ops false cf Q (⟨d,op,ty,pos,after,none⟩::rest) ⟨env,m,nx⟩ tr:=by
 simp only[AOps,AOp];rw[hc,hy];exact⟨mT ha,trivial,h⟩
theorem Az{j:Nat}{b:Bool}{u:Nat}{l:Nat}{args:List D}{d:Option Nat}(hj:(ops[j]?).bind (·.dst)=some u)(hg:guardC (env u) b=some true)(hc:callD (rho env op) op=none)(hy:yieldD (rho env op) op=some (l,args))(ha:fL env op.operands.toList)
 (h:Y l args m nx fun r m' nx'=>AOps P Y ops false cf Q rest (St.put ⟨env,m',nx'⟩ d r) (tr++[([],[])])):AOps P Y ops false cf Q (⟨d,op,ty,pos,after,some (j,b)⟩::rest) ⟨env,m,nx⟩ tr:=by
 simp only[AOps,AOp];rw[hj];simp only[Option.bind_some];rw[hg,hc,hy];exact⟨fun _=>⟨mT ha,trivial,h⟩,oS⟩
def eX(K:St->Prop):Exit->St->Prop
 | .normal,st=>K st
 |_,_=>True
theorem ab{K:St->Prop}{st:St}(h:K st):AOps P Y ops dr [] (eX K) [] st tr:=⟨oS,h⟩
theorem bf{K:St->Prop}{st:St}(hc:∀ q∈cf,apartT tr q.1 q.2)(h:K st):AOps P Y ops dr cf (eX K) [] st tr:=⟨hc,h⟩
variable{st:St}{a b c:Code}
theorem AOps.ju{cf:List (Nat×Nat)}{K:St->Prop}{Q:Exit->St->Prop}[dC Y]{l:List Oper}(h:AOps P Y ops dr cf (eX K) l st tr)(hk:∀ st,K st->Q .normal st):AOps P Y ops dr cf Q l st tr:=
 AOps.mono (Q:=eX K) (fun st h=>hk st h) l st tr h
theorem pu[dC Y]{id:Nat}(h:AOps P Y ops false [] (eX fun st=>Q .normal st) ops.toList st []):AW P Y rf (.region id ops false) Q st:=AOps.ju h fun _ h=>h
theorem xI[dC Y]{id:Nat}(hi:drawInfo ops=some cf)(h:AOps P Y ops true cf (eX fun st=>Q .normal st) ops.toList st []):AW P Y rf (.region id ops true) Q st:=by
 show match drawInfo ops with
  |some cf=>AOps P Y ops true cf Q ops.toList st []
  |none=>False
 rw[hi];exact AOps.ju h fun _ h=>h
theorem aj[dC Y]{id:Nat}(h:AOps P Y ops false [] (eX fun st=>AW P Y rf b Q st) ops.toList st []):AW P Y rf (.seq (.region id ops false) b) Q st:=
 pu (rf:=rf) (id:=id) (AOps.ju h fun st h=>⟨st,.refl st,h⟩)
theorem dz[dC Y]{id:Nat}(hi:drawInfo ops=some cf)(h:AOps P Y ops true cf (eX fun st=>AW P Y rf b Q st) ops.toList st []):AW P Y rf (.seq (.region id ops true) b) Q st:=
 xI (rf:=rf) (id:=id) hi (AOps.ju h fun st h=>⟨st,.refl st,h⟩)
theorem aJ{st':St}(hg:Ghost P st st')(h:AW P Y rf b Q st'):∃ C,Ghost P st C/\AW P Y rf b Q C:=⟨st',hg,h⟩
theorem au[dC Y]{id:Nat}(h:AOps P Y ops false [] (eX fun st=>∃ st',Ghost P st st'/\AW P Y rf b Q st') ops.toList st []):AW P Y rf (.seq (.region id ops false) b) Q st:=
 pu (rf:=rf) (id:=id) (AOps.ju h fun _ h=>h)
theorem mR[dC Y]{id:Nat}(hi:drawInfo ops=some cf)(h:AOps P Y ops true cf (eX fun st=>∃ st',Ghost P st st'/\AW P Y rf b Q st') ops.toList st []):AW P Y rf (.seq (.region id ops true) b) Q st:=
 xI (rf:=rf) (id:=id) hi (AOps.ju h fun _ h=>h)
theorem KF[dC Y](J:St->Prop)(h:AW P Y rf a (seqQ J Q) st)(k:∀ st,J st->AW P Y rf b Q st):AW P Y rf (.seq a b) Q st:=
 qt a (fun e st h=>by
  cases e with
  |normal=>exact⟨st,.refl st,k st h⟩
  |_=>exact h) h
theorem dA[dC Y](J:St->Prop)(h:AW P Y rf a (seqQ J Q) st)(k:∀ st,J st->∃ st',Ghost P st st'/\AW P Y rf b Q st'):AW P Y rf (.seq a b) Q st:=
 qt a (fun e st h=>by
  cases e with
  |normal=>exact k st h
  |_=>exact h) h
theorem cu[dC Y](h:AW P Y rf b Q st):AW P Y rf (.seq .skip b) Q st:=⟨st,.refl st,h⟩
theorem di(h:Q .ret st):AW P Y rf (.seq .ret b) Q st:=h
theorem nO{id:Nat}(h:Q (.exit id) st):AW P Y rf (.seq (.exit id) b) Q st:=h
theorem OW{l:Nat}(h:AW P Y rf b Q st):AW P Y rf (.seq (.label l) b) Q st:=⟨st,.refl st,h⟩
theorem aB[dC Y](h:AW P Y rf (.seq a (.seq b c)) Q st):AW P Y rf (.seq (.seq a b) c) Q st:=by
 refine qt a (fun e st h=>?_) h;cases e with
 |normal=>
  obtain⟨st',hg,h⟩:=h;refine⟨st',hg,qt b (fun e st h=>?_) h⟩;cases e<;>exact h
 |_=>exact h
theorem an{c:Operand}{x y:Code}{g:Bool}(hc:opd st.env c=.s (.bool g))(ht:g=true->AW P Y rf x Q st)(hf:g=false->AW P Y rf y Q st):AW P Y rf (.cond c x y) Q st:=by
 rw[Ii];rw[hc];exact⟨trivial,ht,hf⟩
theorem cy{c:Operand}{x y:Code}{g:Bool}(hc:opd st.env c=.s (.bool g))(ht:g=true->AW P Y rf (.seq x b) Q st)(hf:g=false->AW P Y rf (.seq y b) Q st):AW P Y rf (.seq (.cond c x y) b) Q st:=an hc ht hf
theorem Sz{c:Operand}{x y:Code}(hc:opd st.env c=.ub)(ht:AW P Y rf x Q st)(hf:AW P Y rf y Q st):AW P Y rf (.cond c x y) Q st:=by
 rw[Ii];rw[hc];exact⟨trivial,ht,hf⟩
theorem nT{id:Nat}(h:AW P Y rf b (blockQ id Q) st):AW P Y rf (.block id b) Q st:=h
theorem Sr[dC Y]{α:Type}(S:α->St)(J:α->Prop)(μ:α->Nat)(U:α)(h0:st=S U)(X:J U)(h:∀ x,J x->AW P Y rf b (seqQ (fun st'=>∃ M C,Ghost P st' M/\M=S C/\J C/\μ C<μ x) Q) (S x)):AW P Y rf (.loop b) Q st:=by
 refine HI (fun j st=>∃ x,st=S x/\J x/\μ x=j) (j₀:=μ U) ⟨U,h0,X,rfl⟩ ?_;rintro j st ⟨x,rfl,hx,rfl⟩;refine qt b (fun e st' hq=>?_) (h x hx);cases e with
 |normal=>
  obtain⟨M,C,h1,h2,h3,h4⟩:=hq;exact⟨M,h1,μ C,h4,C,h2,h3,rfl⟩
 |_=>exact hq
end
theorem KK{P:Program}{Y:YSpec}{rf:Bool}{Q:Exit->St->Prop}{st:St}{c:Operand}{x y:Code}(K:AW P Y rf y Q st)(h:opd st.env c=.s (.bool false):=by exact rfl):AW P Y rf (.cond c x y) Q st:=an h (fun h=>by cases h) fun _=>K
theorem Un{P:Program}{Y:YSpec}{rf:Bool}{Q:Exit->St->Prop}{st:St}{c:Operand}{x y:Code}(K:AW P Y rf x Q st)(h:opd st.env c=.s (.bool true):=by exact rfl):AW P Y rf (.cond c x y) Q st:=an h (fun _=>K) fun h=>by cases h
theorem oc{P:Program}{Y:YSpec}{rf:Bool}{Q:Exit->St->Prop}{st:St}{c:Operand}{x y b:Code}(K:AW P Y rf (.seq y b) Q st)(h:opd st.env c=.s (.bool false):=by exact rfl):AW P Y rf (.seq (.cond c x y) b) Q st:=an h (fun h=>by cases h) fun _=>K
theorem np{P:Program}{Y:YSpec}{rf:Bool}{Q:Exit->St->Prop}{st:St}{c:Operand}{x y b:Code}(K:AW P Y rf (.seq x b) Q st)(h:opd st.env c=.s (.bool true):=by exact rfl):AW P Y rf (.seq (.cond c x y) b) Q st:=an h (fun _=>K) fun h=>by cases h
section
variable{P:Program}{env:Env}{m:Mem}{nx:Nat}{t:TypeId}{x y a:Operand}{d v:D}{k:IntKind}{n n':Int}{p q:TypeId}
theorem gZ(hx:(opd env x).core=v):Ef P (.move x) env m nx ⟨True,v,[],[],0⟩:=⟨by simp only[aop,rho,hx],rfl,rfl⟩
theorem kn(hx:(opd env x).core=v):Ef P (.assign x) env m nx ⟨True,v,[],[],0⟩:=⟨by simp only[aop,rho,hx],rfl,rfl⟩
theorem Dp(op:BinOp)(v:Value)(y:Operand):nilD P m op t (.s v) y=none:=by
 unfold nilD;split<;>first|rfl|(rename_i h;cases h)
theorem Te{op:BinOp}{v w:Value}(h:∀ a b,v=.bool a->w=.bool b->False):binD P op t (.s v) (.s w)=(binV op v w).map fun r=>(r.1,.s r.2):=by
 cases v<;>cases w<;>first|rfl|exact(h _ _ rfl rfl).elim
theorem jS{op:BinOp}{v w u:Value}{pre:Prop}(hx:(opd env x).core=.s v)(hy:(opd env y).core=.s w)(hn:∀ a b,v=.bool a->w=.bool b->False)(hb:binV op v w=some (pre,u)):Ef P (.binOp op t x y p) env m nx ⟨pre,.s u,[],[],0⟩:=
 ⟨by simp only[aop,rho,hx,hy,Dp,Te hn,hb,Option.map_some],rfl,rfl⟩
section ints
variable(hx:(opd env x).core=.s (.int k n))(hy:(opd env y).core=.s (.int k n'))
include hx hy
theorem DM:Ef P (.binOp .lss t x y p) env m nx ⟨k=k,.s (.bool (decide (n<n'))),[],[],0⟩:=jS hx hy oS rfl
theorem DN:Ef P (.binOp .leq t x y p) env m nx ⟨k=k,.s (.bool (decide (n<=n'))),[],[],0⟩:=jS hx hy oS rfl
theorem DO:Ef P (.binOp .gtr t x y p) env m nx ⟨k=k,.s (.bool (decide (n'<n))),[],[],0⟩:=jS hx hy oS rfl
theorem DP:Ef P (.binOp .geq t x y p) env m nx ⟨k=k,.s (.bool (decide (n'<=n))),[],[],0⟩:=jS hx hy oS rfl
theorem DQ:Ef P (.binOp .eql t x y p) env m nx ⟨k=k,.s (.bool (n==n')),[],[],0⟩:=jS hx hy oS rfl
theorem DR:Ef P (.binOp .neq t x y p) env m nx ⟨k=k,.s (.bool (n !=n')),[],[],0⟩:=jS hx hy oS rfl
theorem Tf:Ef P (.binOp .add t x y p) env m nx ⟨k=k,.s (.int k (k.wrap (n+n'))),[],[],0⟩:=jS hx hy oS rfl
theorem Tg:Ef P (.binOp .sub t x y p) env m nx ⟨k=k,.s (.int k (k.wrap (n - n'))),[],[],0⟩:=jS hx hy oS rfl
theorem Th:Ef P (.binOp .quo t x y p) env m nx ⟨k=k/\n'≠0,.s (.int k (k.wrap (n.tdiv n'))),[],[],0⟩:=jS hx hy oS rfl
theorem T7:Ef P (.binOp .rem t x y p) env m nx ⟨k=k/\n'≠0,.s (.int k (n.tmod n')),[],[],0⟩:=jS hx hy oS rfl
theorem T8:Ef P (.binOp .and t x y p) env m nx ⟨k=k,.s (.int k (intBitsV .and k n n')),[],[],0⟩:=jS hx hy oS rfl
theorem Xw:Ef P (.binOp .or t x y p) env m nx ⟨k=k,.s (.int k (intBitsV .or k n n')),[],[],0⟩:=jS hx hy oS rfl
end ints
theorem T9{C:IntKind}(hx:(opd env x).core=.s (.int k n))(hy:(opd env y).core=.s (.int C n')):Ef P (.binOp .shl t x y p) env m nx ⟨0<=n',.s (.int k (k.wrap (n*2 ^ (min n'.toNat k.bits)))),[],[],0⟩:=jS hx hy oS rfl
theorem T'{C:IntKind}(hx:(opd env x).core=.s (.int k n))(hy:(opd env y).core=.s (.int C n')):Ef P (.binOp .shr t x y p) env m nx ⟨0<=n',.s (.int k (n.fdiv (2 ^ (min n'.toNat k.bits)))),[],[],0⟩:=jS hx hy oS rfl
theorem i64_in(n:Int)(h: -9223372036854775808<=n/\n<=9223372036854775807):IntKind.i64.wrap n=n:=Go.IntWalk.i64_in n h
theorem Kx(hx:(opd env x).core=.s (.int .i64 n))(hy:(opd env y).core=.s (.int .i64 n'))(hb: -9223372036854775808<=n+n'/\n+n'<=9223372036854775807):Ef P (.binOp .add t x y p) env m nx ⟨IntKind.i64=IntKind.i64,.s (.int .i64 (n+n')),[],[],0⟩:=by
 have:=Tf (P:=P) (m:=m) (nx:=nx) (t:=t) (p:=p) hx hy
 rwa[i64_in _ hb] at this
theorem DT(hx:(opd env x).core=.s (.int .i64 n))(hy:(opd env y).core=.s (.int .i64 n'))(hb: -9223372036854775808<=n - n'/\n - n'<=9223372036854775807):Ef P (.binOp .sub t x y p) env m nx ⟨IntKind.i64=IntKind.i64,.s (.int .i64 (n - n')),[],[],0⟩:=by
 have:=Tg (P:=P) (m:=m) (nx:=nx) (t:=t) (p:=p) hx hy
 rwa[i64_in _ hb] at this
section strings
variable{s s':ByteArray}(hx:(opd env x).core=.s (.string s))(hy:(opd env y).core=.s (.string s'))
include hx hy
theorem Dq:Ef P (.binOp .eql t x y p) env m nx ⟨True,.s (.bool (s.toList==s'.toList)),[],[],0⟩:=jS hx hy oS rfl
theorem Js:Ef P (.binOp .geq t x y p) env m nx ⟨True,.s (.bool !(Op.bytesLess s.toList s'.toList)),[],[],0⟩:=jS hx hy oS rfl
end strings
theorem Jt{b C:Bool}(hx:(opd env x).core=.s (.bool b))(hy:(opd env y).core=.s (.bool C)):Ef P (.binOp .eql t x y p) env m nx ⟨boT P t=true,.s (.bool (b==C)),[],[],0⟩:=
 ⟨by simp only[aop,rho,hx,hy,Dp,binD,Option.map_some],rfl,rfl⟩
theorem Ti{b C:Bool}(hx:(opd env x).core=.s (.bool b))(hy:(opd env y).core=.s (.bool C)):Ef P (.binOp .neq t x y p) env m nx ⟨boT P t=true,.s (.bool !(b==C)),[],[],0⟩:=
 ⟨by simp only[aop,rho,hx,hy,Dp,binD,Option.map_some],rfl,rfl⟩
theorem Ky{b:Bool}(hx:(opd env x).core=.s (.bool b)):Ef P (.unOp .not t x) env m nx ⟨True,.s (.bool !b),[],[],0⟩:=⟨by simp only[aop,rho,hx,unV,Option.map_some],rfl,rfl⟩
theorem Sm{z:List D}(C:zeroP P t=z):Ef P (.alloc t) env m nx ⟨tyOk P t=true,.rp nx 0,[(nx,some (.cells z t))],[],1⟩:=⟨by simp only[aop,C],rfl,rfl⟩
theorem Kz{cs:List D}(hx:(opd env x).core=d)(hc:d.cells=cs):Ef P (.box t x) env m nx ⟨cs.all D.one=true,.rp nx 0,[(nx,some (.cells cs t))],[],1⟩:=⟨by simp only[aop,rho,hx,hc],rfl,rfl⟩
theorem Ah(hx:(opd env x).core=d)(hc:d.cells=[d]):Ef P (.box t x) env m nx ⟨[d].all D.one=true,.rp nx 0,[(nx,some (.cells [d] t))],[],1⟩:=Kz hx hc
theorem pF{cs:List D}(hx:(opd env x).core=.agg cs):Ef P (.box t x) env m nx ⟨cs.all D.one=true,.rp nx 0,[(nx,some (.cells cs t))],[],1⟩:=Kz hx rfl
theorem Ju{cs:List D}(hx:(opd env x).core=.pt (v::cs))(ha:aggP P t=false):Ef P (.load t x) env m nx ⟨tyOk P t=true/\P.cellsOf t<=(v::cs).length,v,[],[],0⟩:=⟨by simp[aop,rho,hx,takeV,ha],rfl,rfl⟩
theorem jI{cs vs:List D}{n:Nat}(hx:(opd env x).core=.pt cs)(ha:aggP P t=true)(hc:P.cellsOf t=n)(hv:cs.take n=vs):Ef P (.load t x) env m nx ⟨tyOk P t=true/\P.cellsOf t<=cs.length,.agg vs,[],[],0⟩:=⟨by simp[aop,rho,hx,takeV,ha,hc,hv],rfl,rfl⟩
theorem gd{i off:Nat}{cs cs':List D}{e:TypeId}(hx:(opd env x).core=.rp i off)(hm:m i=some (.cells cs e))(hd:cs.drop off=v::cs')(ha:aggP P t=false):Ef P (.load t x) env m nx ⟨tyOk P t=true/\off+P.cellsOf t<=cs.length,v,[],[i],0⟩:=⟨by simp[aop,rho,hx,hm,takeV,ha,hd],rfl,rfl⟩
theorem dQ{i off:Nat}{cs vs:List D}{e:TypeId}{n:Nat}(hx:(opd env x).core=.rp i off)(hm:m i=some (.cells cs e))(ha:aggP P t=true)(hc:P.cellsOf t=n)(hv:(cs.drop off).take n=vs):Ef P (.load t x) env m nx ⟨tyOk P t=true/\off+P.cellsOf t<=cs.length,.agg vs,[],[i],0⟩:=⟨by simp[aop,rho,hx,hm,takeV,ha,hc,hv],rfl,rfl⟩
theorem Ib{i off:Nat}{cs cs' vs:List D}{e:TypeId}(hx:(opd env x).core=.rp i off)(hy:(opd env y).core=d)(hm:m i=some (.cells cs e))(hv:d.cells=vs)(C:splice cs off vs=cs'):
 Ef P (.store t x y) env m nx ⟨tyOk P t=true/\vs.length=P.cellsOf t/\off+P.cellsOf t<=cs.length/\vs.all D.one=true,.tup [],[(i,some (.cells cs' e))],[i],0⟩:=⟨by simp only[aop,rho,hx,hy,hm,hv,C],rfl,rfl⟩
theorem gl{i off:Nat}{cs cs':List D}{e:TypeId}(hx:(opd env x).core=.rp i off)(hy:(opd env y).core=d)(hm:m i=some (.cells cs e))(hv:d.cells=[d])(C:cs.set off d=cs'):
 Ef P (.store t x y) env m nx ⟨tyOk P t=true/\[d].length=P.cellsOf t/\off+P.cellsOf t<=cs.length/\[d].all D.one=true,.tup [],[(i,some (.cells cs' e))],[i],0⟩:=Ib hx hy hm hv C
theorem fR{i off:Nat}{cs cs' vs:List D}{e:TypeId}(hx:(opd env x).core=.rp i off)(hy:(opd env y).core=.agg vs)(hm:m i=some (.cells cs e))(C:splice cs off vs=cs'):
 Ef P (.store t x y) env m nx ⟨tyOk P t=true/\vs.length=P.cellsOf t/\off+P.cellsOf t<=cs.length/\vs.all D.one=true,.tup [],[(i,some (.cells cs' e))],[i],0⟩:=Ib hx hy hm rfl C
theorem Ic{cs:List D}{j off:Nat}{C:TypeId}(hx:(opd env x).core=.pt cs)(hf:fieldP P t j=some (off,C)):Ef P (.fieldAddr t x j) env m nx ⟨0<P.cellsOf C,.pt (cs.drop off),[],[],0⟩:=⟨by simp only[aop,rho,hx,hf],rfl,rfl⟩
theorem rO{i o:Nat}{j off:Nat}{C:TypeId}{r:Row}(hx:(opd env x).core=.rp i o)(hm:m i=some r)(hf:fieldP P t j=some (off,C)):Ef P (.fieldAddr t x j) env m nx ⟨0<P.cellsOf C,.rp i (o+off),[],[i],0⟩:=⟨by simp only[aop,rho,hx,hf,hm],rfl,rfl⟩
theorem Jv{cs:List D}(hx:(opd env x).core=.pt cs):Ef P (.nilCheck x) env m nx ⟨True,.pt cs,[],[],0⟩:=⟨by simp only[aop,rho,hx],rfl,rfl⟩
theorem Jw{i o:Nat}{r:Row}(hx:(opd env x).core=.rp i o)(hm:m i=some r):Ef P (.nilCheck x) env m nx ⟨True,.rp i o,[],[i],0⟩:=⟨by simp only[aop,rho,hx,hm],rfl,rfl⟩
theorem DU{es cs:List D}{l sz:Nat}{e:TypeId}(hx:(opd env x).core=.sl es l)(hy:(opd env y).core=.s (.int k n))(he:elemP P t=e)(C:P.cellsOf e=sz)(hd:es.drop (n.toNat*sz)=cs):
 Ef P (.indexAddr t x y) env m nx ⟨slT P t=true/\0<=n/\n<l/\(n.toNat+1)*sz<=es.length,.pt cs,[],[],0⟩:=⟨by simp only[aop,rho,hx,hy,he,C,hd],rfl,rfl⟩
theorem Dr{j off l sz:Nat}{e:TypeId}{r:Row}(hx:(opd env x).core=.rs j off l)(hy:(opd env y).core=.s (.int k n))(hm:m j=some r)(he:elemP P t=e)(C:P.cellsOf e=sz):
 Ef P (.indexAddr t x y) env m nx ⟨slT P t=true/\0<=n/\n<l,.rp j (off+n.toNat*sz),[],[j],0⟩:=⟨by simp only[aop,rho,hx,hy,hm,he,C],rfl,rfl⟩
theorem Tj{j off sz l:Nat}{e:TypeId}{r:Row}(hx:(opd env x).core=.rp j off)(hy:(opd env y).core=.s (.int k n))(hm:m j=some r)(he:elemP P t=e)(C:P.cellsOf e=sz)(hl:lenP P t=l):
 Ef P (.indexAddr t x y) env m nx ⟨arT P t=true/\0<=n/\n<l,.rp j (off+n.toNat*sz),[],[j],0⟩:=⟨by simp only[aop,rho,hx,hy,hm,he,C,hl],rfl,rfl⟩
section builtins
theorem r6{b:Builtin}{ts:Array TypeId}{args:Array Operand}{aS:List D}{e:Eff}(C:ts.size=args.size)(ha:args.toList.map (fun x=>(opd env x).core)=aS)(hb:builtinD P m nx b ts aS=some e):Ef P (.call { callee:=.builtin b,args:=args,argTypes:=ts }) env m nx e:=
 ⟨by simp only[aop];rw[if_pos C];simp only[rho];rw[ha,hb],rfl,rfl⟩
theorem KA{es:List D}{l:Nat}(hx:(opd env x).core=.sl es l):Ef P (.call { callee:=.builtin .len,args:= #[x],argTypes:= #[t] }) env m nx ⟨slT P t=true,.s (.int .i64 l),[],[],0⟩:=r6 (aS:=[.sl es l]) rfl (by simp[hx]) rfl
theorem Ds{i off l:Nat}{r:Row}(hx:(opd env x).core=.rs i off l)(hm:m i=some r):Ef P (.call { callee:=.builtin .len,args:= #[x],argTypes:= #[t] }) env m nx ⟨slT P t=true,.s (.int .i64 l),[],[i],0⟩:=r6 (aS:=[.rs i off l]) rfl (by simp[hx]) (by simp[builtinD,lenD,hm])
theorem Jx(hx:(opd env x).core=.z):Ef P (.call { callee:=.builtin .len,args:= #[x],argTypes:= #[t] }) env m nx ⟨slT P t=true,.s (.int .i64 0),[],[],0⟩:=r6 (aS:=[.z]) rfl (by simp[hx]) rfl
theorem Dt{b:ByteArray}(hx:(opd env x).core=.s (.string b)):Ef P (.call { callee:=.builtin .len,args:= #[x],argTypes:= #[t] }) env m nx ⟨stT P t=true,.s (.int .i64 b.size),[],[],0⟩:=r6 (aS:=[.s (.string b)]) rfl (by simp[hx]) rfl
theorem KB{k:IntKind}(hx:(opd env x).core=.s (.int k n))(hy:(opd env y).core=.s (.int k n')):Ef P (.call { callee:=.builtin .min,args:= #[x,y],argTypes:= #[t,t] }) env m nx ⟨k=k,.s (.int k (if n'<n then n' else n)),[],[],0⟩:=r6 (aS:=[.s (.int k n),.s (.int k n')]) rfl (by simp[hx,hy]) rfl
structure Cells(m:Mem)(sz:Nat)(d:D)(p:Prop)(rd:List Nat)(k:Nat)(news:List D):Prop where
 ok:sliceCells m sz d=some (p,rd,k,news)
theorem Hy{es news:List D}{k sz:Nat}(h:es.take (k*sz)=news):Cells m sz (.sl es k) (k*sz<=es.length) [] k news:=⟨by simp[sliceCells,h]⟩
theorem uO{i off k sz:Nat}{cs news:List D}{e:TypeId}(hm:m i=some (.cells cs e))(h:(cs.drop off).take (k*sz)=news):Cells m sz (.rs i off k) (off+k*sz<=cs.length) [i] k news:=⟨by simp[sliceCells,hm,h]⟩
theorem Tk{p:Prop}{rd:List Nat}{c sz:Nat}{news:List D}{e:TypeId}(hx:(opd env x).core=.z)(hy:(opd env y).core=d)(he:elemP P t=e)(C:P.cellsOf e=sz)(hc:Cells m sz d p rd c news):
 Ef P (.call { callee:=.builtin .append,args:= #[x,y],argTypes:= #[t,t] }) env m nx ⟨slT P t=true/\p/\0<sz/\c<=maxLen/\c*P.bytesOf e<=140737488355328,.rs nx 0 c,[(nx,some (.cells news e))],rd,1⟩:=by
 refine r6 (aS:=[.z,d]) rfl (by simp[hx,hy]) ?_;simp only[builtinD];rw[if_pos oS];simp only[appendD,Array.getD_eq_getD_getElem?,List.getElem?_toArray,List.getElem?_cons_zero,Option.getD_some,he,C,hc.ok]
theorem tt{p:Prop}{rd:List Nat}{c sz i off l:Nat}{cs cs' news:List D}{e:TypeId}(hx:(opd env x).core=.rs i off l)(hm:m i=some (.cells cs e))(hy:(opd env y).core=d)(he:elemP P t=e)(C:P.cellsOf e=sz)(hc:Cells m sz d p rd c news)(hn:cs.drop off++news=cs'):
 Ef P (.call { callee:=.builtin .append,args:= #[x,y],argTypes:= #[t,t] }) env m nx ⟨slT P t=true/\e=e/\p/\0<sz/\off+l*sz=cs.length/\l+c<=maxLen/\(l+c)*P.bytesOf e<=140737488355328/\i∉rd,.rs nx 0 (l+c),[(i,none),(nx,some (.cells cs' e))],i::rd,1⟩:=by
 refine r6 (aS:=[.rs i off l,d]) rfl (by simp[hx,hy]) ?_;simp only[builtinD];rw[if_pos oS];simp only[appendD,Array.getD_eq_getD_getElem?,List.getElem?_toArray,List.getElem?_cons_zero,Option.getD_some,he,C,hc.ok,hm,hn]
end builtins
theorem Jy{b:ByteArray}(hx:(opd env x).core=.s (.string b))(hy:(opd env y).core=.s (.int k n)):Ef P (.index t x y) env m nx ⟨stT P t=true/\0<=n/\n<b.size,.s (.int .u8 (b.data.toList.getD n.toNat 0).toNat),[],[],0⟩:=⟨by simp only[aop,rho,hx,hy],rfl,rfl⟩
theorem nP{cs cs':List D}{j:Nat}(hx:(opd env x).core=.tup cs)(hd:cs.drop j=v::cs'):Ef P (.extract x j) env m nx ⟨j<cs.length,v,[],[],0⟩:=by
 have h:cs[j]? =some v:=by
  have:(cs.drop j)[0]? =some v:=by rw[hd];rfl
  simpa using this
 exact⟨by simp[aop,rho,hx,h],rfl,rfl⟩
theorem So{ps:Array (Nat×Operand)}{fs:Array Field}{cs z:List D}{C:List (Nat×D)}(J:P.underlying t=some (.struct fs))(M:zeroP P t=z)(hq:(ps.toList.map fun q=>(q.1,(opd env q.2).core))=C)
 (hf:fillD (fun i=>(fs[i]?).map fun f=>(f.offset,P.cellsOf f.type)) z C=some cs):Ef P (.build t ps) env m nx ⟨tyOk P t=true/\fs.toList.all (fun f=>(P.info? f.type).isSome)=true,.agg cs,[],[],0⟩:=
 ⟨by simp only[aop,rho,J,M,hq,hf,Option.map_some],rfl,rfl⟩
theorem Cv{ps:Array (Nat×Operand)}{fs:Array Field}{C:List (Nat×Nat)}{cs z:List D}{J:List (Nat×D)}(M:P.underlying t=some (.struct fs))(hp:(fs.toList.map fun(f:Field)=>(f.offset,P.cellsOf f.type))=C)(U:zeroP P t=z)(hq:(ps.toList.map fun q=>(q.1,(opd env q.2).core))=J)
 (hf:fillD (fun i=>C[i]?) z J=some cs):Ef P (.build t ps) env m nx ⟨tyOk P t=true/\fs.toList.all (fun f=>(P.info? f.type).isSome)=true,.agg cs,[],[],0⟩:=by
 refine So M U hq ?_
 have:(fun(i:Nat)=>(fs[i]?).map fun(f:Field)=>(f.offset,P.cellsOf f.type))=fun(i:Nat)=>C[i]? :=by
  funext i;rw[<- hp];simp
 rw[this];exact hf
theorem zA{ps:Array (Nat×Operand)}{l sz:Nat}{e:TypeId}{cs z:List D}{C:List (Nat×D)}(he:elemP P t=e)(J:P.cellsOf e=sz)(M:zeroP P e=z)(hq:(ps.toList.map fun q=>(q.1,(opd env q.2).core))=C)
 (hf:fillD (fun i=>some (i*sz,sz)) (replD l z) C=some cs):Ef P (.buildSlice t l ps) env m nx ⟨cs.all D.one=true/\l*sz<=2 ^ 24/\slT P t=true/\l<=maxLen,.rs nx 0 l,[(nx,some (.cells cs e))],[],1⟩:=
 ⟨by simp only[aop,rho,he,J,M,hq,hf,Option.map_some],rfl,rfl⟩
theorem Jz{f:Fn}{fs cs:Array Operand}{J C:List D}(hf:fs.toList.map (fun x=>(opd env x).core)=J)(hc:cs.toList.map (fun x=>(opd env x).core)=C):Ef P (.makeFunc f fs cs) env m nx ⟨True,.fn f J C,[],[],0⟩:=⟨by simp only[aop,rho,hf,hc],rfl,rfl⟩
theorem Ua:Ef P (.makeMap t none) env m nx ⟨True,.mp nx,[(nx,some (.map []))],[],1⟩:=⟨by simp only[aop],rfl,rfl⟩
theorem zP{e:TypeId}{z:List D}(hx:(opd env x).core=.s (.int .i64 n))(hy:(opd env y).core=.s (.int .i64 n'))(he:elemP P t=e)(C:zeroP P e=z):
 Ef P (.makeSlice t x y) env m nx ⟨0<=n/\n=n'/\n<=9223372036854775807/\P.bytesOf e*n<=281474976710656/\slT P t=true,.rs nx 0 n.toNat,[(nx,some (.cells (replD n.toNat z) e))],[],1⟩:=⟨by simp only[aop,rho,hx,hy,he,C],rfl,rfl⟩
theorem Tl{src:TypeId}{C:IntKind}(hx:(opd env x).core=.s (.int k n))(J:P.underlying t=some (.int C)):Ef P (.convert src t x) env m nx ⟨tyOk P src=true,.s (.int C (C.wrap n)),[],[],0⟩:=⟨by simp only[aop,rho,hx,J],rfl,rfl⟩
theorem Sp{src e:TypeId}{b:ByteArray}(hx:(opd env x).core=.s (.string b))(C:P.underlying t=some (.slice e))(he:P.underlying e=some (.int .u8)):
 Ef P (.convert src t x) env m nx ⟨stT P src=true/\b.size<=maxLen,.sl (b.data.toList.map fun c=>.s (.int .u8 c.toNat)) b.size,[],[],0⟩:=⟨by simp only[aop,rho,hx,C,he],rfl,rfl⟩
def cn(b:ByteArray):List Int:=b.data.toList.map fun c=>(c.toNat:Int)
theorem Oz(b:ByteArray):(cn b).length=b.size:=by unfold cn;rw[List.length_map];rfl
theorem Hz{src e:TypeId}{b:ByteArray}(hx:(opd env x).core=.s (.string b))(C:P.underlying t=some (.slice e))(he:P.underlying e=some (.int .u8)):
 Ef P (.convert src t x) env m nx ⟨stT P src=true/\b.size<=maxLen,.sl ((cn b).map fun n=>.s (.int .u8 n)) (cn b).length,[],[],0⟩:=by
 have:=Sp (P:=P) (env:=env) (m:=m) (nx:=nx) (t:=t) (src:=src) hx C he;have h:(cn b).map (fun n=>D.s (.int .u8 n))=b.data.toList.map (fun c=>D.s (.int .u8 c.toNat)):=by rw[cn,List.map_map];rfl
 rw[Oz,h];exact this
theorem uS{es es':List D}{l:Nat}{lo hi:Option Operand}{a b:Int}{e:TypeId}{sz:Nat}(hx:(opd env x).core=.sl es l)(he:elemP P t=e)(C:P.cellsOf e=sz)
 (ha:bndD (lo.map fun x=>(opd env x).core) 0=some a) (hb:bndD (hi.map fun x=>(opd env x).core) l=some b) (hd:(es.drop (a.toNat*sz)).take ((b - a).toNat*sz)=es'):
 Ef P (.slice t x lo hi none) env m nx ⟨slT P t=true/\0<=a/\a<=b/\b<=l,.sl es' (b - a).toNat,[],[],0⟩:=by
 refine⟨?_,rfl,rfl⟩;show sliceD P m t (opd env x).core (lo.map fun x=>(opd env x).core) (hi.map fun x=>(opd env x).core) (Option.map (fun x=>(opd env x).core) none)=_;rw[hx];simp only[sliceD,Option.map_none,ha,hb,he,C,hd]
theorem HA{i off l:Nat}{cs:List D}{lo hi:Option Operand}{a b:Int}{e:TypeId}{sz:Nat}(hx:(opd env x).core=.rs i off l)(hm:m i=some (.cells cs e))(he:elemP P t=e)(C:P.cellsOf e=sz)
 (ha:bndD (lo.map fun x=>(opd env x).core) 0=some a) (hb:bndD (hi.map fun x=>(opd env x).core) l=some b):
 Ef P (.slice t x lo hi none) env m nx ⟨(slT P t=true/\sz=sz)/\0<=a/\a<=b/\b<=l,.rs i (off+a.toNat*sz) (b - a).toNat,[],[i],0⟩:=by
 refine⟨?_,rfl,rfl⟩;show sliceD P m t (opd env x).core (lo.map fun x=>(opd env x).core) (hi.map fun x=>(opd env x).core) (Option.map (fun x=>(opd env x).core) none)=_;rw[hx];simp only[sliceD,hm,Option.map_none,ha,hb,he,C]
theorem Q7{i:Nat}{es:List (Value×D)}{key:Value}{ok:Bool}{kt:TypeId}(hx:(opd env x).core=.mp i)(hm:m i=some (.map es))(hk:keyV (opd env y).core=some key)(ht:mkeyP P t=kt)(hg:gotD P t ok (lookD key es)=v):
 Ef P (.lookup t x y ok) env m nx ⟨mapT P t=true/\keyP P kt key=true/\es.all (fun e=>keyP P kt e.1)=true,v,[],[i],0⟩:=by
 refine⟨?_,rfl,rfl⟩;show lookupD P m t (opd env x).core (opd env y).core ok=_;simp only[lookupD,hk,hx,hm,ht,hg]
theorem GR{es:List (Value×D)}{key:Value}{ok:Bool}{kt:TypeId}(hx:(opd env x).core=.im es)(hk:keyV (opd env y).core=some key)(ht:mkeyP P t=kt)(hg:gotD P t ok (lookD key es)=v):
 Ef P (.lookup t x y ok) env m nx ⟨mapT P t=true/\keyP P kt key=true/\es.all (fun e=>keyP P kt e.1)=true,v,[],[],0⟩:=by
 refine⟨?_,rfl,rfl⟩;show lookupD P m t (opd env x).core (opd env y).core ok=_;simp only[lookupD,hk,hx,ht,hg]
theorem Tm{i:Nat}{es:List (Value×D)}{key:Value}{z:Operand}{kt:TypeId}(hx:(opd env x).core=.mp i)(hm:m i=some (.map es))(hk:keyV (opd env y).core=some key)(C:(opd env z).core=v)(ht:mkeyP P t=kt):
 Ef P (.mapUpdate t x y z) env m nx ⟨mapT P t=true/\keyP P kt key=true/\es.all (fun e=>keyP P kt e.1)=true,.tup [],[(i,some (.map (putD key v es)))],[i],0⟩:=by
 refine⟨?_,rfl,rfl⟩;show mapPutD P m t (opd env x).core (opd env y).core (opd env z).core=_;simp only[mapPutD,hk,hx,hm,ht,C]
end
theorem fZ{α:Type}{f:α->D}:∀ {l:List α} {k:Nat} {x:α},l[k]? =some x->(l.map f).drop k=f x::(l.drop (k+1)).map f
 |[],k,x,h=>by simp at h
 |a::l,0,x,h=>by simp at h;subst h;rfl
 |a::l,k+1,x,h=>by simpa using fZ (f:=f) (l:=l) (k:=k) (by simpa using h)
theorem GS{α:Type}{f:α->List D}{sz:Nat}(C:∀ x,(f x).length=sz):∀ {l:List α} {k:Nat} {x:α},l[k]? =some x->(l.flatMap f).drop (k*sz)=f x++(l.drop (k+1)).flatMap f
 |[],k,x,h=>by simp at h
 |a::l,0,x,h=>by simp at h;subst h;simp
 |a::l,k+1,x,h=>by
  have h1:(k+1)*sz=(f a).length+k*sz:=by rw[C];rw[Nat.add_mul];omega
  simp only[List.flatMap_cons,h1,List.drop_append,List.drop_succ_cons];rw[List.drop_of_length_le oG];have:(f a).length+k*sz - (f a).length=k*sz:=by omega
  rw[this];simpa using GS C (l:=l) (k:=k) (by simpa using h)
theorem Gq{α:Type}{f:α->List D}{sz:Nat}(C:∀ x,(f x).length=sz):∀ (l:List α),(l.flatMap f).length=l.length*sz
 |[]=>by simp
 |a::l=>by simp only[List.flatMap_cons,List.length_append,C,Gq C l,List.length_cons,Nat.add_mul];omega
section
variable{P:Program}{env:Env}{m:Mem}{nx:Nat}{t e:TypeId}{x y:Operand}{k:IntKind}
theorem JA{α:Type}{f:α->D}{l:List α}{i n:Nat}{z:α}(hx:(opd env x).core=.sl (l.map f) n)(hy:(opd env y).core=.s (.int k i))(he:elemP P t=e)(C:P.cellsOf e=1)(J:l[i]? =some z):
 Ef P (.indexAddr t x y) env m nx ⟨slT P t=true/\0<=(i:Int)/\(i:Int)<n/\((i:Int).toNat+1)*1<=(l.map f).length,.pt (f z::(l.drop (i+1)).map f),[],[],0⟩:=
 DU hx hy he C (by rw[dg,Nat.mul_one];exact fZ J)
theorem JB{α:Type}{f:α->D}{l:List α}{i:Nat}{z:α}(ht:slT P t=true)(C:l[i]? =some z):slT P t=true/\0<=(i:Int)/\(i:Int)<l.length/\((i:Int).toNat+1)*1<=(l.map f).length:=by
 have:=(bA.1 C).1;exact⟨ht,oG,oG,by simp;omega⟩
theorem rU{α:Type}{f:α->List D}{sz:Nat}{l:List α}{i n:Nat}{z:α}(hx:(opd env x).core=.sl (l.flatMap f) n)(hy:(opd env y).core=.s (.int k i))(he:elemP P t=e)(C:P.cellsOf e=sz)(hl:∀ x,(f x).length=sz)(J:l[i]? =some z):
 Ef P (.indexAddr t x y) env m nx ⟨slT P t=true/\0<=(i:Int)/\(i:Int)<n/\((i:Int).toNat+1)*sz<=(l.flatMap f).length,.pt (f z++(l.drop (i+1)).flatMap f),[],[],0⟩:=
 DU hx hy he C (by rw[dg];exact GS hl J)
theorem rV{α:Type}{f:α->List D}{sz:Nat}{l:List α}{i:Nat}{z:α}(ht:slT P t=true)(hl:∀ x,(f x).length=sz)(C:l[i]? =some z):slT P t=true/\0<=(i:Int)/\(i:Int)<l.length/\((i:Int).toNat+1)*sz<=(l.flatMap f).length:=by
 have:=(bA.1 C).1;refine⟨ht,oG,oG,?_⟩;rw[Gq hl,dg];exact Nat.mul_le_mul_right _ this
theorem JC{v:D}{cs:List D}(ht:tyOk P t=true)(hc:P.cellsOf t=1):tyOk P t=true/\P.cellsOf t<=(v::cs).length:=⟨ht,by rw[hc];simp⟩
theorem gf{v:D}{cs cs':List D}{off:Nat}(ht:tyOk P t=true)(hc:P.cellsOf t=1)(hd:cs.drop off=v::cs'):tyOk P t=true/\off+P.cellsOf t<=cs.length:=by
 refine⟨ht,?_⟩;have:(cs.drop off).length=cs'.length+1:=by rw[hd];rfl
 rw[List.length_drop] at this;omega
theorem jJ{n:Nat}{cs:List D}(ht:tyOk P t=true)(hc:P.cellsOf t=n)(hl:n<=cs.length):tyOk P t=true/\P.cellsOf t<=cs.length:=⟨ht,by rw[hc];exact hl⟩
theorem dR{n off:Nat}{cs:List D}(ht:tyOk P t=true)(hc:P.cellsOf t=n)(hl:off+n<=cs.length):tyOk P t=true/\off+P.cellsOf t<=cs.length:=⟨ht,by rw[hc];exact hl⟩
theorem pO{n:Nat}(hc:P.cellsOf t=n+1):0<P.cellsOf t:=by omega
theorem dx{n off:Nat}{cs vs:List D}(ht:tyOk P t=true)(hc:P.cellsOf t=n)(hv:vs.length=n/\off+n<=cs.length)(C:vs.all D.one=true):tyOk P t=true/\vs.length=P.cellsOf t/\off+P.cellsOf t<=cs.length/\vs.all D.one=true:=
 ⟨ht,by rw[hc];exact hv.1,by rw[hc];exact hv.2,C⟩
end
section
variable{P:Program}{K:D->St->Prop}{st:St}
theorem qA(h:K (.tup []) st):retQ P [] K .ret st:=h
theorem pG(h:K (.tup []) st):retQ P [] K .normal st:=h
theorem aq{t:Nat}{d:D}(hd:st.env t=d)(h:K d st):retQ P [.tmp t] K .ret st:=⟨trivial,by subst hd;exact h⟩
theorem lT{t u:Nat}{d e:D}(hd:st.env t=d)(he:st.env u=e)(h:K (.tup [d,e]) st):retQ P [.tmp t,.tmp u] K .ret st:=⟨trivial,trivial,by subst hd;subst he;exact h⟩
theorem ke{a i off n:Nat}{ty e:TypeId}{cs vs:List D}(ha:st.env a=.rp i off)(hm:st.mem i=some (.cells cs e))(hg:aggP P ty=true)(hc:P.cellsOf ty=n)(hv:(cs.drop off).take n=vs)(ht:tyOk P ty=true)(hl:off+n<=cs.length):
 ∃ p,resD P st (.cell a ty)=some (p,.agg vs)/\p:=⟨tyOk P ty=true/\off+n<=cs.length,by simp only[resD,ha,hm,takeV,hg,if_true,hc,hv],ht,hl⟩
theorem jL{a:Nat}{ty:TypeId}{d:D}(hr:∃ p,resD P st (.cell a ty)=some (p,d)/\p)(h:K d st):retQ P [.cell a ty] K .ret st:=by
 obtain⟨p,h1,h2⟩:=hr;simp only[retQ,retL,h1];exact⟨h2,h⟩
theorem O5{a t:Nat}{ty:TypeId}{d e:D}(hr:∃ p,resD P st (.cell a ty)=some (p,d)/\p)(he:st.env t=e)(h:K (.tup [d,e]) st):retQ P [.cell a ty,.tmp t] K .ret st:=by
 obtain⟨p,h1,h2⟩:=hr;simp only[retQ,retL,h1];exact⟨h2,trivial,by subst he;exact h⟩
end
section
variable{P:Program}{Y:YSpec}{rf:Bool}{Q:Exit->St->Prop}{st:St}
theorem ao{l:List (Nat×D)}{env:Env}{m:Mem}{nx:Nat}(h:jM l env):Ghost P ⟨env,m,nx⟩ ⟨ax l,m,nx⟩:=.forget env _ m nx (lO h)
def Eu(P:Program):List (Nat×List D×TypeId)->Mem->Prop
 |[],_=>True
 |(i,cs,e)::fs,m=>m i=some (.cells cs e)/\Eu P fs (fun j=>if j=i then none else(m j).map (Row.sub (fz0 i cs (P.cellsOf e))))
def oO(P:Program):List (Nat×List D×TypeId)->D->D
 |[],d=>d
 |(i,cs,e)::fs,d=>oO P fs (sub (fz0 i cs (P.cellsOf e)) d)
theorem GV:∀ {fs:List (Nat×List D×TypeId)} {env:Env} {m:Mem} {nx:Nat},Eu P fs m->∃ m',Ghost P ⟨env,m,nx⟩ ⟨fun t=>oO P fs (env t),m',nx⟩
 |[],env,m,nx,_=>⟨m,.refl _⟩
 |(i,cs,e)::fs,env,m,nx,⟨h1,h2⟩=>by
  obtain⟨m',h⟩:=GV (env:=fun t=>sub (fz0 i cs (P.cellsOf e)) (env t)) (nx:=nx) h2;exact⟨m',(Ghost.freeze env m nx i cs e h1).trans h⟩
theorem bj{env:Env}{m:Mem}{nx:Nat}(fs:List (Nat×List D×TypeId))(hf:Eu P fs m){l:List (Nat×D)}(hl:jM l fun t=>oO P fs (env t)):Ghost P ⟨env,m,nx⟩ ⟨ax l,fun _=>none,nx⟩:=by
 obtain⟨m',h⟩:=GV (env:=env) (nx:=nx) hf;exact h.trans ((Ghost.forget _ _ _ _ (lO hl)).trans (Ghost.drop _ _ _ _ fun _=>.inr rfl))
def kB(fQ id:Nat)(next:St->Prop)(Q:Exit->St->Prop):Exit->St->Prop
 | .normal,s=>next s
 | .exit i,s=>if i=fQ then next s else if i=id then Q .normal s else Q (.exit i) s
 |e,s=>Q e s
def vm(P:Program){α:Type}(S:α->St)(J:α->Prop)(μ:α->Nat)(x:α)(s:St):Prop:=∃ C,Ghost P s (S C)/\J C/\μ C<μ x
theorem aP{α:Type}{S:α->St}{J:α->Prop}{μ:α->Nat}{x:α}{s:St}(C:α)(hg:Ghost P s (S C))(M:J C)(U:μ C<μ x):vm P S J μ x s:=⟨C,hg,M,U⟩
theorem z8[dC Y]{b:Code}{α:Type}(S:α->St)(J:α->Prop)(μ:α->Nat)(C:α)(hg:Ghost P st (S C))(U:J C)(h:∀ x,J x->AW P Y rf b (seqQ (vm P S J μ x) Q) (S x)){a:Code}(ha:∀ st,Q .normal st->Q .normal st):
 ∃ st',Ghost P st st'/\AW P Y rf (.loop b) Q st':=
 ⟨S C,hg,Sr S J μ C rfl U fun x hx=>qt b (fun e st' hq=>by
  cases e with
  |normal=>
   obtain⟨M,h1,h2,h3⟩:=hq;exact⟨S M,M,h1,rfl,h2,h3⟩
  |_=>exact hq) (h x hx)⟩
variable{id fQ t i1 i2 i3 i4:Nat}{rc ri:Array Oper}{body rest:Code}{α:Type}
theorem C0[dC Y]{ri:Array Oper}{next:St->Prop}{s:St}(h:AW P Y rf body (kB fQ id (fun s=>AOps P Y ri false [] (eX next) ri.toList s []) Q) s):
 AW P Y rf (.seq (.block fQ body) (.region i3 ri false)) (seqQ next (blockQ id Q)) s:=by
 refine qt body (fun e s h=>?_) h;have hr:∀ s,AOps P Y ri false [] (eX next) ri.toList s []->∃ s',Ghost P s s'/\AW P Y rf (.region i3 ri false) (seqQ next (blockQ id Q)) s':=fun s h=>⟨s,.refl s,pu (rf:=rf) (id:=i3) (AOps.ju h fun _ h=>h)⟩
 cases e with
 |normal=>exact hr s h
 |exit i=>
  simp only[kB] at h;simp only[blockQ];split at h
  .rename_i hi;rw[if_pos hi];exact hr s h
  .rename_i hi;rw[if_neg hi];simp only[seqQ,blockQ];exact h
 |_=>exact h
theorem eN[dC Y](S:α->St)(J:α->Prop)(μ:α->Nat)(C:α)(hg:Ghost P st (S C))(M:J C)
 (h:∀ x,J x->AOps P Y rc false [] (eX fun s=>∃ g,opd s.env (.tmp t)=.s (.bool g)/\(g=true->AW P Y rf body (kB fQ id (fun s=>AOps P Y ri false [] (eX (vm P S J μ x)) ri.toList s []) Q) s)/\(g=false->Q .normal s)) rc.toList (S x) []):
 ∃ st',Ghost P st st'/\AW P Y rf (.block id (.loop (.seq (.region i1 rc false) (.seq (.cond (.tmp t) .skip (.exit id)) (.seq (.block fQ body) (.region i3 ri false)))))) Q st':=by
 refine z8 (Q:=blockQ id Q) S J μ C hg M (fun x hx=>?_) (a:=.skip) fun _ h=>h;refine pu (rf:=rf) (id:=i1) (AOps.ju (h x hx) fun s U=>?_);obtain⟨g,h1,h2,h3⟩:=U;refine⟨s,.refl s,cy h1 (fun X=>?_) fun uk=>?_⟩
 .exact cu (C0 (h2 X))
 .refine nO ?_;simp only[seqQ,blockQ,if_true];exact h3 uk
theorem cP[dC Y](S:α->St)(J:α->Prop)(μ:α->Nat)(C:α)(hg:Ghost P st (S C))(M:J C)
 (h:∀ x,J x->AOps P Y rc false [] (eX fun s=>∃ g,opd s.env (.tmp t)=.s (.bool g)/\(g=true->AW P Y rf body (kB fQ id (fun s=>AOps P Y ri false [] (eX (vm P S J μ x)) ri.toList s []) Q) s)/\(g=false->Q .normal s)) rc.toList (S x) []):
 ∃ st',Ghost P st st'/\AW P Y rf (.block id (.loop (.seq (.seq (.region i1 rc false) (.cond (.tmp t) .skip (.exit id))) (.seq (.block fQ body) (.region i3 ri false))))) Q st':=by
 refine z8 (Q:=blockQ id Q) S J μ C hg M (fun x hx=>?_) (a:=.skip) fun _ h=>h;refine aB (pu (rf:=rf) (id:=i1) (AOps.ju (h x hx) fun s U=>?_));obtain⟨g,h1,h2,h3⟩:=U;refine⟨s,.refl s,cy h1 (fun X=>?_) fun uk=>?_⟩
 .exact cu (C0 (h2 X))
 .refine nO ?_;simp only[seqQ,blockQ,if_true];exact h3 uk
theorem Rg[dC Y]{next:St->Prop}{s:St}(h:AW P Y rf body (kB fQ id next Q) s):AW P Y rf (.block fQ body) (seqQ next (blockQ id Q)) s:=by
 refine qt body (fun e s h=>?_) h;cases e with
 |exit i=>
  simp only[kB] at h;simp only[blockQ];split at h
  .rename_i hi;rw[if_pos hi];exact h
  .rename_i hi;rw[if_neg hi];simp only[seqQ,blockQ];exact h
 |_=>exact h
theorem z9[dC Y](S:α->St)(J:α->Prop)(μ:α->Nat)(C:α)(hg:Ghost P st (S C))(M:J C)
 (h:∀ x,J x->AOps P Y rc false [] (eX fun s=>∃ g,opd s.env (.tmp t)=.s (.bool g)/\(g=true->AW P Y rf body (kB fQ id (vm P S J μ x) Q) s)/\(g=false->Q .normal s)) rc.toList (S x) []):
 ∃ st',Ghost P st st'/\AW P Y rf (.block id (.loop (.seq (.seq (.region i1 rc false) (.cond (.tmp t) .skip (.exit id))) (.block fQ body)))) Q st':=by
 refine z8 (Q:=blockQ id Q) S J μ C hg M (fun x hx=>?_) (a:=.skip) fun _ h=>h;refine aB (pu (rf:=rf) (id:=i1) (AOps.ju (h x hx) fun s U=>?_));obtain⟨g,h1,h2,h3⟩:=U;refine⟨s,.refl s,cy h1 (fun X=>?_) fun uk=>?_⟩
 .exact cu (Rg (h2 X))
 .refine nO ?_;simp only[seqQ,blockQ,if_true];exact h3 uk
theorem cD{s:St}(h:Q .normal s):AW P Y rf .skip Q s:=h
theorem aU{s:St}(h:Q .ret s):AW P Y rf .ret Q s:=h
theorem cq{next:St->Prop}{s:St}(h:Q .ret s):kB fQ id next Q .ret s:=h
theorem aO{K:St->Prop}{s:St}(h:Q .ret s):seqQ K Q .ret s:=h
theorem bk{s:St}(h:Q .ret s):blockQ id Q .ret s:=h
theorem C'{s:St}(h:Q .ret s):scopeQ Q .ret s:=h
theorem tu{next:St->Prop}{s:St}(h:next s):kB fQ id next Q (.exit fQ) s:=by simp only[kB,if_true];exact h
theorem Uf{i:Nat}{next:St->Prop}{s:St}(h2:i≠fQ)(h1:i≠id)(h:Q (.exit i) s):kB fQ id next Q (.exit i) s:=by simp only[kB,if_neg h2,if_neg h1];exact h
theorem kf[dC Y]{a:Code}(h:AW P Y rf a (blockQ id (seqQ (fun st=>AW P Y rf rest Q st) Q)) st):AW P Y rf (.seq (.block id a) rest) Q st:=KF (fun st=>AW P Y rf rest Q st) (nT h) fun _ h=>h
theorem jN{s:St}(h:AW P Y rf rest Q s):AW P Y rf .skip (blockQ id (seqQ (fun st=>AW P Y rf rest Q st) Q)) s:=h
theorem JE[dC Y]{a:Code}(h:AW P Y rf a (seqQ (fun st=>AW P Y rf rest Q st) Q) st):AW P Y rf (.seq a rest) Q st:=KF _ h fun _ h=>h
theorem iW[dC Y]{r:Array Oper}{i:Nat}{J:St->Prop}(h:AOps P Y r false [] (eX J) r.toList st []):AW P Y rf (.region i r false) (seqQ J Q) st:=pu (rf:=rf) (id:=i) (AOps.ju h fun _ h=>h)
theorem kW[dC Y]{r:Array Oper}{i:Nat}{J:St->Prop}(h:AOps P Y r false [] (eX J) r.toList st []):AW P Y rf (.region i r false) (blockQ id (seqQ J Q)) st:=pu (rf:=rf) (id:=i) (AOps.ju h fun _ h=>h)
theorem aV{J:St->Prop}(h:J st):AW P Y rf .skip (seqQ J Q) st:=h
theorem CB{J:St->Prop}(h:J st):AW P Y rf .skip (blockQ id (seqQ J Q)) st:=h
theorem bZ[dC Y]{a:Code}(R:St->Prop)(h:∃ st',Ghost P st st'/\AW P Y rf a (seqQ R Q) st')(k:∀ s,R s->∃ s',Ghost P s s'/\AW P Y rf rest Q s'):∃ st',Ghost P st st'/\AW P Y rf (.seq a rest) Q st':=by
 obtain⟨st',hg,h⟩:=h;exact⟨st',hg,dA R h k⟩
end
def Real(d:D):Prop:=∃ F β w v,R F β w d v
theorem Real.sl{es:List D}{n:Nat}(h:Real (.sl es n)):n<=maxLen/\∀ d∈es,Real d:=by
 obtain⟨F,β,w,v,h⟩:=h;cases h with
 |sln=>simp[maxLen]
 |sl _ _ b o cap us hf hb al nt dZ hc C=>
  refine⟨Nat.le_trans nt dZ,fun d hd=>?_⟩;obtain⟨k,hk⟩:=dh hd;exact⟨F,β,w,_,C k d hk⟩
theorem Real.agg{cs:List D}(h:Real (.agg cs)):∀ d∈cs,Real d:=by
 obtain⟨F,β,w,v,h⟩:=h;obtain⟨vs,rfl,hl,C⟩:=h.agg_inv;intro d hd;obtain⟨k,hk⟩:=dh hd;have:k<vs.length:=by rw[hl];exact(bA.1 hk).1
 exact⟨F,β,w,_,C k d vs[k] hk (by simp[this])⟩
theorem Ss{F:Nat->Prop}{β:Pla}{w:World}{args:List D}{vs:Array Value}(h:Rs F β w args vs):∀ a∈args,Real a:=fun a ha=>by
 obtain⟨k,hk⟩:=dh ha;have:k<vs.size:=by rw[h.1];exact(bA.1 hk).1
 exact⟨F,β,w,vs[k],h.2 k a _ hk (by simp[this])⟩
theorem lK{P:Program}{f:FuncId}{args:List D}{r:D}(he:enterOk P f=true)(ht:∀ a∈args,Tr a)(h:(∀ a∈args,Real a)->PCall P f args r):PCall P f args r:=
 ⟨he,ht,fun F w vs C hR=>(h (Ss hR)).2.2 F w vs C hR⟩
section
variable{P:Program}{m:Mem}{rds:List Nat}
theorem cw{a:D}(h:Tr a):Sn P rds m a a:=fun _ _ _ _ _ hv=>h.xU hv
theorem D1{i off n:Nat}{cs es:List D}{e:TypeId}(hm:m i=some (.cells cs e))(hi:i∈rds)(J:(cs.drop off).take (n*P.cellsOf e)=es)(ht:∀ a∈es,Tr a):Sn P rds m (.rs i off n) (.sl es n):=fun F β w v hl hv=>by
 subst J;obtain⟨p,hp,hr,M⟩:=hl i hi _ hm;cases hv with
 |rsd _ _ _ _ h1 _=>rw[h1] at hp;cases hp;cases hr
 |rsn _ a h1=>
  rw[h1] at hp;cases hp;cases hr;simp only[List.drop_nil,List.take_nil];exact .sln a 0
 |rsz _ _ a b o len room sz h1=>
  simp only[Nat.zero_mul,List.take_zero];exact .sln a 0
 |rs _ _ _ cap b o len room sz h1 hn dZ h2 h3=>
  rw[h1] at hp;cases hp
  have al:b<w.heap.size:=by
   cases hr with
   |cells _ _ _ _ _ _ c hb _ _ _ _=>exact(Array.getElem?_eq_some_iff.1 hb).1
  obtain⟨C,hl,bN,_⟩:=hr.rd;obtain⟨us,U,u2⟩:=(C.drop off).take (n*P.cellsOf e);exact .sl _ n b (o+off) cap us (M b rfl) (fun k q hq=>by cases hq) al hn dZ U fun k d hk=>(ht d (cg hk)).xU (u2 k d hk)
theorem Uk{i off:Nat}{cs es:List D}{e:TypeId}(hm:m i=some (.cells cs e))(hi:i∈rds)(J:cs.drop off=es)(ht:∀ a∈es,Tr a):Sn P rds m (.rp i off) (.pt es):=fun F β w v hl hv=>by
 subst J;obtain⟨p,hp,hr,M⟩:=hl i hi _ hm;cases hv with
 |rpd _ _ _ h1 _=>rw[h1] at hp;cases hp;cases hr
 |rp _ _ b o len room sz h1=>
  rw[h1] at hp;cases hp
  have al:b<w.heap.size:=by
   cases hr with
   |cells _ _ _ _ _ _ c hb _ _ _ _=>exact(Array.getElem?_eq_some_iff.1 hb).1
  obtain⟨C,hl,bN,_⟩:=hr.rd;obtain⟨us,U,u2⟩:=C.drop off;exact .pt _ b (o+off) us (M b rfl) (fun k q hq=>by cases hq) al U fun k d hk=>(ht d (cg hk)).xU (u2 k d hk)
variable{Y:YSpec}{rf:Bool}{ops:Array Oper}{dr:Bool}{cf:List (Nat×Nat)}{Q:Exit->St->Prop}{rest:List Oper}{env:Env}{nx:Nat}{tr:Tra}{t:Nat}{op:Op}{ty:TypeId}{pos:String}{after:Array Edge}
 {pre:Prop} {v:D} {rd:List Nat}
theorem Tt{j:Nat}{b:Bool}{u:Nat}{row:Row}(hj:(ops[j]?).bind (·.dst)=some u)(hg:guardC (env u) b=some true)(he:Ef P op env m nx ⟨pre,v,[(nx,some row)],rd,1⟩)(ha:fL env op.operands.toList)(hp:pre)
 (K:AOps P Y ops dr cf Q rest ⟨up env t v,up m nx (some row),nx+1⟩ (tr++[(rd,[nx])])):AOps P Y ops dr cf Q (⟨some t,op,ty,pos,after,some (j,b)⟩::rest) ⟨env,m,nx⟩ tr:=
 Ul hj hg he ha hp (fun h=>by cases h) K
theorem Aj{j:Nat}{b:Bool}{u:Nat}{f:FuncId}{args args':List D}{r:D}{rds:List Nat}(h:PCall P f args' r)(J:r.scal=true)(hj:(ops[j]?).bind (·.dst)=some u)(hg:guardC (env u) b=some true)(hc:callD (rho env op) op=some (f,args))(C:Sns P rds m args args')(ha:fL env op.operands.toList)
 (K:AOps P Y ops dr cf Q rest ⟨up env t r,m,nx⟩ (tr++[(rds,[])])):AOps P Y ops dr cf Q (⟨some t,op,ty,pos,after,some (j,b)⟩::rest) ⟨env,m,nx⟩ tr:=
 Rj hj hg hc ha (.inr (.inl ⟨args',rds,r,C,h,J,K⟩))
end
section
variable{P:Program}{Y:YSpec}{rf:Bool}{ops:Array Oper}{dr:Bool}{cf:List (Nat×Nat)}{Q:Exit->St->Prop}{rest:List Oper}{env:Env}{m:Mem}{nx:Nat}{tr:Tra}{t:Nat}{ty:TypeId}{pos:String}{after:Array Edge}
theorem PY{j:Nat}{b0 C:Bool}{u:Nat}(hj:(ops[j]?).bind (·.dst)=some u)(hg:guardC (env u) b0=some C){c a b:Operand}{x:Bool}(hc:(opd env c).core=.s (.bool true))(ha:(opd env a).core=.s (.bool x))
 (h0:C=true->(opd env c).ask) (h1:C=true->(opd env a).ask) (K:AOps P Y ops dr cf Q rest ⟨up env t (.opt C (.s (.bool x))),m,nx⟩ (tr++[([],[])])):
 AOps P Y ops dr cf Q (⟨some t,.pick c a b,ty,pos,after,some (j,b0)⟩::rest) ⟨env,m,nx⟩ tr:=by
 have he:=uU (P:=P) (env:=env) (m:=m) (nx:=nx) (a:=a) (b:=b) hc;simp only[ha,D.bool?,Option.getD_some,if_true] at he;simp only[AOps,AOp];rw[hj];simp only[Option.bind_some];rw[hg,he.nc,he.ny,he.ok];exact⟨fun hc=>⟨by simp only[asks];exact h0 hc,fun _=>⟨h1 hc,rfl⟩,fun h=>by cases h⟩,K⟩
theorem PZ{j:Nat}{b0 C:Bool}{u:Nat}(hj:(ops[j]?).bind (·.dst)=some u)(hg:guardC (env u) b0=some C){c a b:Operand}{y:Bool}(hc:(opd env c).core=.s (.bool false))(hb:(opd env b).core=.s (.bool y))
 (h0:C=true->(opd env c).ask) (h1:C=true->(opd env b).ask) (K:AOps P Y ops dr cf Q rest ⟨up env t (.opt C (.s (.bool y))),m,nx⟩ (tr++[([],[])])):
 AOps P Y ops dr cf Q (⟨some t,.pick c a b,ty,pos,after,some (j,b0)⟩::rest) ⟨env,m,nx⟩ tr:=by
 have he:=uU (P:=P) (env:=env) (m:=m) (nx:=nx) (a:=a) (b:=b) hc;simp only[hb,D.bool?,Option.getD_some,Bool.false_eq_true,if_false] at he;simp only[AOps,AOp];rw[hj];simp only[Option.bind_some];rw[hg,he.nc,he.ny,he.ok];exact⟨fun hc=>⟨by simp only[asks];exact h0 hc,fun h=>oH,fun _=>⟨h1 hc,rfl⟩⟩,K⟩
variable{id:Nat}{st:St}
theorem HL[dC Y]{i:Nat}{J:St->Prop}(hi:drawInfo ops=some cf)(h:AOps P Y ops true cf (eX J) ops.toList st []):AW P Y rf (.region i ops true) (blockQ id (seqQ J Q)) st:=xI (rf:=rf) (id:=i) hi (AOps.ju h fun _ h=>h)
theorem Rk{r:Option Row}{i:Nat}(h:m i=r):∀ j,up (fun _=>none) i r j=m j\/up (fun _=>none) i r j=none:=fun j=>by
 by_cases hj:j=i
 .subst hj;left;rw[up_same,h]
 .right;rw[up_ne _ _ hj]
theorem kX[dC Y]{i fQ:Nat}{next:St->Prop}(hi:drawInfo ops=some cf)(h:AOps P Y ops true cf (eX next) ops.toList st []):AW P Y rf (.region i ops true) (kB fQ id next Q) st:=xI (rf:=rf) (id:=i) hi (AOps.ju h fun _ h=>h)
theorem fJ[dC Y]{i fQ:Nat}{next:St->Prop}(h:AOps P Y ops false [] (eX next) ops.toList st []):AW P Y rf (.region i ops false) (kB fQ id next Q) st:=pu (rf:=rf) (id:=i) (AOps.ju h fun _ h=>h)
def bc:List (Nat×Row)->Mem
 |[],_=>none
 |(i,r)::l,j=>if j=i then some r else bc l j
def xJ:List (Nat×Row)->Mem->Prop
 |[],_=>True
 |(i,r)::l,m=>m i=some r/\xJ l m
theorem Da:∀ {l:List (Nat×Row)} {m:Mem},xJ l m->∀ i,bc l i=m i\/bc l i=none
 |[],_,_,_=>.inr rfl
 |(k,r)::l,m,h,i=>by
  simp only[bc];by_cases hi:i=k
  .subst hi;rw[if_pos rfl];exact .inl h.1.symm
  .rw[if_neg hi];exact Da h.2 i
theorem aH{l:List (Nat×D)}{ml:List (Nat×Row)}{m:Mem}{nx:Nat}(h:jM l env)(hm:xJ ml m):Ghost P ⟨env,m,nx⟩ ⟨ax l,bc ml,nx⟩:=(Ghost.forget env _ m nx (lO h)).trans (.drop _ _ _ _ (Da hm))
end
section
variable{P:Program}
theorem OCall.Uj{f:FuncId}{args es:List D}{n:Nat}{t:TypeId}(h:OCall P f args es n t)(U:∀ d∈es,d.scal=true)(ht:Tr (.sl (es.take (n*P.cellsOf t)) n)):PCall P f args (.sl (es.take (n*P.cellsOf t)) n):=by
 refine⟨h.1,h.2.1,fun F w vs C hR=>(h.2.2 F w vs C hR).mono ?_⟩;rintro e w' ⟨v,p,h1,h2,h3,h4,h5,J⟩;refine⟨v,h1,?_,J⟩
 have b0:∀ {i q},up noRows 0 (some p) i=some q->i=0/\q=p:=fun {i q} hi=>by
  by_cases e:i=0
  .subst e;rw[up_same] at hi;cases hi;exact⟨rfl,rfl⟩
  .rw[up_ne _ _ e] at hi;cases hi
 have hm:MSim P F (up (fun _=>none) 0 (some (.cells es t))) (up noRows 0 (some p)) w':=by
  refine⟨fun i r hi=>?_,fun i j q X b hq M _ _=>(b0 hq).1.trans (b0 M).1.symm,fun i q b hq e=>?_,fun i q b hq e=>?_,fun b hb=>Nat.lt_of_lt_of_le (C b hb) J.1⟩
  .by_cases e:i=0
   .subst e;rw[up_same] at hi;cases hi;exact⟨p,up_same _ _ _,zS ⟨es,t,rfl,U⟩ h4⟩
   .rw[up_ne _ _ e] at hi;cases hi
  .rw[(b0 hq).2] at e;exact(h3 b e).2
  .rw[(b0 hq).2] at e;intro hb;have:=C b hb;have:=(h3 b e).1;omega
 have:=Ht hm (up_same _ _ _) rfl h5;have e:fz0 0 es (P.cellsOf t) (.rs 0 0 n)=.sl (es.take (n*P.cellsOf t)) n:=by simp[fz0]
 rw[e] at this;exact ht.xU this
end
theorem aw{α:Type}{f:Nat->α}{k j:Nat}{v r:α}(h:j≠k)(hf:f j=r):up f k v j=r:=(up_ne f v h).trans hf
theorem acf{β:Sort _}{M m:Mem}{i:Nat}{r:Option Row}(h:M=m)(x:β)(k:β->m i=r:=by intro x;repeat (first|exact x|exact rfl|exact up_same _ _ _|refine aw (by omega) ?_)):M i=r:=h ▸ k x
theorem acg{β:Sort _}{p:Prop}(x:β)(k:β->p:=by intro x;dsimp only;repeat (first|exact x|exact up_same _ _ _|refine aw (by omega) ?_)):p:=k x
theorem jl{i off sz:Nat}{cs:List D}:sub (fz0 i cs sz) (.rp i off)=.pt (cs.drop off):=by simp[sub,sub1,fz0]
theorem vp{i off n sz:Nat}{cs:List D}:sub (fz0 i cs sz) (.rs i off n)=.sl ((cs.drop off).take (n*sz)) n:=by simp[sub,sub1,fz0]
theorem zY{i j off sz:Nat}{cs:List D}(h:j≠i):sub (fz0 i cs sz) (.rp j off)=.rp j off:=by simp[sub,sub1,fz0,h]
theorem uR{i j off n sz:Nat}{cs:List D}(h:j≠i):sub (fz0 i cs sz) (.rs j off n)=.rs j off n:=by simp[sub,sub1,fz0,h]
theorem Hj{α:Type}{f:α->List D}{sz:Nat}(C:∀ x,(f x).length=sz):∀ (l:List α) (k:Nat),(l.flatMap f).take (k*sz)=(l.take k).flatMap f
 |[],k=>by simp
 |x::l,0=>by simp
 |x::l,k+1=>by
  rw[List.flatMap_cons,List.take_succ_cons,List.flatMap_cons, <- Hj C l k,show(k+1)*sz=(f x).length+k*sz by rw[C x,Nat.add_mul];omega,List.take_length_add_append]
theorem SK{α:Type}{f:α->List D}{sz k:Nat}{l:List α}(C:∀ x,(f x).length=sz)(hk:k<=l.length):
 D.sl (((l.flatMap f).drop ((0:Int).toNat*sz)).take (((k:Int) - 0).toNat*sz)) ((k:Int) - 0).toNat=D.sl ((l.take k).flatMap f) (l.take k).length:=by
 have h1:((k:Int) - 0).toNat=k:=by omega
 have h2:(0:Int).toNat*sz=0:=by simp
 rw[h1,h2,List.drop_zero,Hj C,List.length_take,Nat.min_eq_left hk]
section
variable{P:Program}{env:Env}{m:Mem}{nx:Nat}{x y z:Operand}{t:TypeId}{v:D}
theorem Rr{i:Nat}{es:List (Value×D)}{key:Value}{kt:TypeId}(hx:(opd env x).core=.mp i)(hm:m i=some (.map es))(hk:keyV (opd env y).core=some key)(C:(opd env z).core=v)(ht:mkeyP P t=kt):
 Ef P (.insert t x y z) env m nx ⟨mapT P t=true/\keyP P kt key=true/\es.all (fun e=>keyP P kt e.1)=true,.tup [],[(i,some (.map (putD key v es)))],[i],0⟩:=by
 refine⟨?_,rfl,rfl⟩;show mapPutD P m t (opd env x).core (opd env y).core (opd env z).core=_;simp only[mapPutD,hk,hx,hm,ht,C]
variable{n n':Int}{k:IntKind}{c:Bool}{p:TypeId}{n0:Nat}
theorem JJ(hx:(opd env x).core=.s (.int k n))(hy:(opd env y).core=.s (.int k n'))(hd:decide (n'<n)=c):Ef P (.binOp .gtr t x y p) env m nx ⟨k=k,.s (.bool c),[],[],0⟩:=by subst hd;exact DO hx hy
theorem JI(hx:(opd env x).core=.s (.int k n))(hy:(opd env y).core=.s (.int k n'))(hd:decide (n<n')=c):Ef P (.binOp .lss t x y p) env m nx ⟨k=k,.s (.bool c),[],[],0⟩:=by subst hd;exact DM hx hy
theorem Tv(hx:(opd env x).core=.s (.int k n))(hy:(opd env y).core=.s (.int k n'))(hd:decide (n<=n')=c):Ef P (.binOp .leq t x y p) env m nx ⟨k=k,.s (.bool c),[],[],0⟩:=by subst hd;exact DN hx hy
theorem Dy(hx:(opd env x).core=.s (.int k n))(hy:(opd env y).core=.s (.int k n'))(hd:(n==n')=c):Ef P (.binOp .eql t x y p) env m nx ⟨k=k,.s (.bool c),[],[],0⟩:=by subst hd;exact DQ hx hy
theorem JK(hx:(opd env x).core=.s (.int k n))(hy:(opd env y).core=.s (.int k n'))(hd:(n !=n')=c):Ef P (.binOp .neq t x y p) env m nx ⟨k=k,.s (.bool c),[],[],0⟩:=by subst hd;exact DR hx hy
theorem TT(hx:(opd env x).core=.s (.int k n))(hy:(opd env y).core=.s (.int k n')){r:Int}(hd:k.wrap (n.tdiv n')=r):Ef P (.binOp .quo t x y p) env m nx ⟨k=k/\n'≠0,.s (.int k r),[],[],0⟩:=by subst hd;exact Th hx hy
theorem TU(hx:(opd env x).core=.s (.int k n))(hy:(opd env y).core=.s (.int k n')){r:Int}(hd:n.tmod n'=r):Ef P (.binOp .rem t x y p) env m nx ⟨k=k/\n'≠0,.s (.int k r),[],[],0⟩:=by subst hd;exact T7 hx hy
theorem Tu(hx:(opd env x).core=.s (.int k n))(hy:(opd env y).core=.s (.int k n'))(hd:decide (n'<=n)=c):Ef P (.binOp .geq t x y p) env m nx ⟨k=k,.s (.bool c),[],[],0⟩:=by subst hd;exact DP hx hy
theorem SA{j i l:Nat}{e:TypeId}{r:Row}(hx:(opd env x).core=.rp j 0)(hy:(opd env y).core=.s (.int k (i:Int)))(hm:m j=some r)(he:elemP P t=e)(C:P.cellsOf e=1)(hl:lenP P t=l):
 Ef P (.indexAddr t x y) env m nx ⟨arT P t=true/\i<l,.rp j i,[],[j],0⟩:=by
 have h:=Tj (P:=P) (env:=env) (m:=m) (nx:=nx) (t:=t) hx hy hm he C hl;have h1:0+((i:Int)).toNat*1=i:=by simp
 have h2:(arT P t=true/\(0:Int)<=(i:Int)/\(i:Int)<l)=(arT P t=true/\i<l):=by
  apply propext;constructor
  .rintro⟨a,_,b⟩;exact⟨a,oG⟩
  .rintro⟨a,b⟩;exact⟨a,oG,oG⟩
 rw[h1,h2] at h;exact h
theorem jT{l:List D}{n:Nat}(h:l.length=n):(l.drop 0).take n=l:=by rw[List.drop_zero,cL oG]
theorem JQ{l:List D}{n:Nat}(h:l.length=n):l.take n=l:=cL oG
theorem Db{z l:List D}(C:z.length=20)(hl:l.length=20):splice z 0 l=l:=by
 unfold splice;split
 .simp at hl
 .rw[List.take_zero,List.nil_append,List.drop_eq_nil_of_le oG,List.append_nil]
theorem TR{es:List D}(hx:(opd env x).core=.sl es 0):Ef P (.binOp .eql t x (.const (.slice none 0 0)) p) env m nx ⟨slT P t=true,.ub,[],[],0⟩:=⟨by simp only[aop,rho,hx,nilD,if_true],rfl,rfl⟩
theorem TS{es:List D}{l:Nat}(hx:(opd env x).core=.sl es l)(hl:l≠0):Ef P (.binOp .eql t x (.const (.slice none 0 0)) p) env m nx ⟨slT P t=true,.s (.bool false),[],[],0⟩:=⟨by simp only[aop,rho,hx,nilD,if_neg hl],rfl,rfl⟩
theorem iA{i off n sz:Nat}{cs es:List D}{e:TypeId}(C:P.cellsOf e=sz)(h:(cs.drop off).take (n*sz)=es):oO P [(i,cs,e)] (.rs i off n)=.sl es n:=by subst C h;exact vp
theorem s7(h:env n0=.z):Ghost P ⟨env,m,nx⟩ ⟨ax [(n0,.sl [] 0)],fun _=>none,nx+1⟩:=by
 have h1:=Ghost.nilrow (P:=P) env m nx n0 0 h;have h2:=bj (P:=P) (env:=up env n0 (.rs nx 0 0)) (m:=up m nx (some (.cells [] 0))) (nx:=nx+1) [(nx,[],0)] ⟨up_same _ _ _,trivial⟩ (l:=[(n0,.sl [] 0)]) ⟨(congrArg _ (up_same _ _ _)).trans (iA (sz:=P.cellsOf 0) rfl oS),trivial⟩;exact h1.trans h2
theorem j0{rds:List Nat}:Sn P rds m .z (.sl [] 0):=fun F β w v _ hv=>by
 obtain⟨x,rfl⟩:=hv.z_inv;exact .sln x 0
theorem TP{rds:List Nat}{aS bs:List D}(h:Sns P rds m aS bs):Sn P rds m (.agg aS) (.agg bs):=fun F β w v hl hv=>by
 obtain⟨vs,rfl,hn,C⟩:=hv.agg_inv;obtain⟨h1,h2⟩:=sns_R hl h;refine .agg _ vs oG fun k d u hd J=>?_;have hk:k<aS.length:=by rw[h1];exact(bA.1 hd).1
 exact h2 k aS[k] d (by simp[hk]) hd u (C k aS[k] u (by simp[hk]) J)
theorem HQ{l:List (Nat×D)}{m':Mem}(h:jM l env)(hm:∀ i,m' i=m i\/m' i=none):Ghost P ⟨env,m,nx⟩ ⟨ax l,m',nx⟩:=(Ghost.forget env _ m nx (lO h)).trans (.drop _ _ _ _ hm)
def EY:List (Nat×List (Value×D))->Mem->Prop
 |[],_=>True
 |(i,es)::fs,m=>m i=some (.map es)/\EY fs (fun j=>if j=i then none else(m j).map (Row.sub (fm0 i es)))
def Ge:List (Nat×List (Value×D))->D->D
 |[],d=>d
 |(i,es)::fs,d=>Ge fs (sub (fm0 i es) d)
theorem Hk:∀ {fs:List (Nat×List (Value×D))} {env:Env} {m:Mem} {nx:Nat},EY fs m->∃ m',Ghost P ⟨env,m,nx⟩ ⟨fun t=>Ge fs (env t),m',nx⟩
 |[],env,m,nx,_=>⟨m,.refl _⟩
 |(i,es)::fs,env,m,nx,⟨h1,h2⟩=>by
  obtain⟨m',h⟩:=Hk (env:=fun t=>sub (fm0 i es) (env t)) (nx:=nx) h2;exact⟨m',(Ghost.freezeM env m nx i es h1).trans h⟩
theorem RO(fs:List (Nat×List (Value×D)))(hf:EY fs m){l:List (Nat×D)}(hl:jM l fun t=>Ge fs (env t)):Ghost P ⟨env,m,nx⟩ ⟨ax l,fun _=>none,nx⟩:=by
 obtain⟨m',h⟩:=Hk (P:=P) (env:=env) (nx:=nx) hf;exact h.trans ((Ghost.forget _ _ _ _ (lO hl)).trans (Ghost.drop _ _ _ _ fun _=>.inr rfl))
end
end Go.Abs
namespace Go.Proofs.Tryz.K
open Go.Abs
theorem a1:aggP prog 1=false:=kr
theorem b1:prog.bytesOf 1=8:=kr
theorem b2:prog.bytesOf 2=8:=kr
theorem a2:aggP prog 2=false:=kr
theorem c3:prog.cellsOf 3=1:=kr
theorem b3:prog.bytesOf 3=8:=kr
theorem a3:aggP prog 3=false:=kr
theorem c4:prog.cellsOf 4=1:=kr
theorem b4:prog.bytesOf 4=1:=kr
theorem a4:aggP prog 4=false:=kr
theorem c5:prog.cellsOf 5=1:=kr
theorem b5:prog.bytesOf 5=1:=kr
theorem a5:aggP prog 5=false:=kr
theorem b6:prog.bytesOf 6=1:=kr
theorem a6:aggP prog 6=false:=kr
theorem zk:elemP prog 15=275:=kr
theorem zl:elemP prog 16=278:=kr
theorem zj:elemP prog 17=287:=kr
theorem NM:elemP prog 22=5:=kr
theorem ME:slT prog 22=true:=kr
theorem wu:prog.cellsOf 27=1:=kr
theorem Ny:prog.bytesOf 27=24:=kr
theorem zi:elemP prog 27=3:=kr
theorem yA:slT prog 27=true:=kr
theorem MV:prog.cellsOf 133=10:=kr
theorem MU:aggP prog 133=true:=kr
theorem t133:tyOk prog 133=true:=kr
theorem jx:prog.cellsOf 158=2:=kr
theorem MZ:prog.bytesOf 158=32:=kr
theorem oD:aggP prog 158=true:=kr
theorem t158:tyOk prog 158=true:=kr
theorem ET:aggP prog 205=true:=kr
theorem EU:zeroP prog 205=[.s (.int .i64 0),.s (.int .i64 0),.s (.int .i64 0),.s (.int .i64 0),.s (.int .i64 0),.s (.int .i64 0)]:=kr
theorem oz:prog.cellsOf 231=20:=kr
theorem Mw:prog.bytesOf 231=160:=kr
theorem qO:aggP prog 231=true:=kr
theorem t231:tyOk prog 231=true:=kr
theorem Mv:zeroP prog 231=[.s (.int .u64 0),.s (.int .u64 0),.s (.int .u64 0),.s (.int .u64 0),.s (.int .u64 0),.s (.int .u64 0),.s (.int .u64 0),.s (.int .u64 0),.s (.int .u64 0),.s (.int .u64 0),.s (.int .u64 0),.s (.int .u64 0),.s (.int .u64 0),.s (.int .u64 0),.s (.int .u64 0),.s (.int .u64 0),.s (.int .u64 0),.s (.int .u64 0),.s (.int .u64 0),.s (.int .u64 0)]:=kr
theorem mixed:prog.follows .mixedOrders=true:=kr
noncomputable def bo(f:Func):Code:=(f.body).getD .skip
abbrev FO(n:FuncId)(f:Func)(c:Code):=kF prog n f c
theorem fo{n:FuncId}{f:Func}{c:Code}(h1:prog.funcs[n]? =some f:=by kernel_rfl)(h2:f.body=some c:=by kernel_rfl)(h3:iy f.ntmps c=true:=by kernel_rfl)(h4:enterOk prog n=true:=by kernel_rfl):FO n f c:=⟨h1,h2,h3,h4⟩
noncomputable def pT:=bo Tryz.f7
theorem ok7:FO 7 Tryz.f7 pT:=fo
noncomputable def gu:=bo Tryz.f15
theorem YV:FO 15 Tryz.f15 gu:=fo
noncomputable def J0:=bo Tryz.f17
theorem Zs:FO 17 Tryz.f17 J0:=fo
noncomputable def J1:=bo Tryz.f18
theorem Zt:FO 18 Tryz.f18 J1:=fo
noncomputable def J2:=bo Tryz.f20
theorem Zu:FO 20 Tryz.f20 J2:=fo
noncomputable def xQ:=bo Tryz.f22
theorem M8:FO 22 Tryz.f22 xQ:=fo
noncomputable def J3:=bo Tryz.f23
theorem Zv:FO 23 Tryz.f23 J3:=fo
noncomputable def J4:=bo Tryz.f26
theorem Zw:FO 26 Tryz.f26 J4:=fo
noncomputable def J5:=bo Tryz.f28
theorem Zx:FO 28 Tryz.f28 J5:=fo
noncomputable def tz:=bo Tryz.f31
theorem MX:FO 31 Tryz.f31 tz:=fo
noncomputable def tA:=bo Tryz.f32
theorem Zp:FO 32 Tryz.f32 tA:=fo
noncomputable def rY:=bo Tryz.f33
theorem ES:FO 33 Tryz.f33 rY:=fo
noncomputable def tB:=bo Tryz.f34
theorem Yj:FO 34 Tryz.f34 tB:=fo
noncomputable def nk:=bo Tryz.f35
theorem M9:FO 35 Tryz.f35 nk:=fo
noncomputable def J6:=bo Tryz.f36
theorem Zy:FO 36 Tryz.f36 J6:=fo
noncomputable def cT:=bo Tryz.f39
theorem MS:FO 39 Tryz.f39 cT:=fo
theorem YY: Tryz.f39.results.toList=[.tmp 2,.tmp 3]:=kr
noncomputable def J7:=bo Tryz.f41
theorem Zz:FO 41 Tryz.f41 J7:=fo
noncomputable def J8:=bo Tryz.f50
theorem ZA:FO 50 Tryz.f50 J8:=fo
noncomputable def fx:=bo Tryz.f51
theorem EO:FO 51 Tryz.f51 fx:=fo
noncomputable def J9:=bo Tryz.f52
theorem ZB:FO 52 Tryz.f52 J9:=fo
noncomputable def J':=bo Tryz.f53
theorem ZC:FO 53 Tryz.f53 J':=fo
noncomputable def Ka:=bo Tryz.f54
theorem ZD:FO 54 Tryz.f54 Ka:=fo
noncomputable def dy:=bo Tryz.f55
theorem Zb:FO 55 Tryz.f55 dy:=fo
noncomputable def ld:=bo Tryz.f56
theorem Y7:FO 56 Tryz.f56 ld:=fo
noncomputable def Kb:=bo Tryz.f60
theorem ZE:FO 60 Tryz.f60 Kb:=fo
noncomputable def rZ:=bo Tryz.f61
theorem MN:FO 61 Tryz.f61 rZ:=fo
noncomputable def Kc:=bo Tryz.f62
theorem ZF:FO 62 Tryz.f62 Kc:=fo
noncomputable def lW:=bo Tryz.f64
theorem EX:FO 64 Tryz.f64 lW:=fo
noncomputable def Kd:=bo Tryz.f65
theorem ZG:FO 65 Tryz.f65 Kd:=fo
noncomputable def Ke:=bo Tryz.f66
theorem ZH:FO 66 Tryz.f66 Ke:=fo
noncomputable def Kf:=bo Tryz.f69
theorem ZI:FO 69 Tryz.f69 Kf:=fo
noncomputable def Kg:=bo Tryz.f70
theorem ZJ:FO 70 Tryz.f70 Kg:=fo
noncomputable def Kh:=bo Tryz.f71
theorem ZK:FO 71 Tryz.f71 Kh:=fo
noncomputable def Ki:=bo Tryz.f72
theorem ZL:FO 72 Tryz.f72 Ki:=fo
noncomputable def Kj:=bo Tryz.f73
theorem ZM:FO 73 Tryz.f73 Kj:=fo
noncomputable def gv:=bo Tryz.f75
theorem Zi:FO 75 Tryz.f75 gv:=fo
noncomputable def pL:=bo Tryz.f76
theorem Y5:FO 76 Tryz.f76 pL:=fo
noncomputable def Kk:=bo Tryz.f82
theorem ZN:FO 82 Tryz.f82 Kk:=fo
noncomputable def Kl:=bo Tryz.f83
theorem ZO:FO 83 Tryz.f83 Kl:=fo
noncomputable def r5:=bo Tryz.f84
theorem MI:FO 84 Tryz.f84 r5:=fo
noncomputable def n8:=bo Tryz.f85
theorem MK:FO 85 Tryz.f85 n8:=fo
noncomputable def n9:=bo Tryz.f86
theorem Yh:FO 86 Tryz.f86 n9:=fo
noncomputable def Km:=bo Tryz.f87
theorem ZP:FO 87 Tryz.f87 Km:=fo
noncomputable def xR:=bo Tryz.f89
theorem Mt:FO 89 Tryz.f89 xR:=fo
noncomputable def gy:=bo Tryz.f90
theorem vD:FO 90 Tryz.f90 gy:=fo
noncomputable def pM:=bo Tryz.f92
theorem Y3:FO 92 Tryz.f92 pM:=fo
noncomputable def Kn:=bo Tryz.f93
theorem ZQ:FO 93 Tryz.f93 Kn:=fo
noncomputable def Ko:=bo Tryz.f94
theorem ZR:FO 94 Tryz.f94 Ko:=fo
noncomputable def qC:=bo Tryz.f95
theorem MF:FO 95 Tryz.f95 qC:=fo
noncomputable def xS:=bo Tryz.f96
theorem Mz:FO 96 Tryz.f96 xS:=fo
noncomputable def kz:=bo Tryz.f97
theorem My:FO 97 Tryz.f97 kz:=fo
noncomputable def ID:=bo Tryz.f100
theorem WC:FO 100 Tryz.f100 ID:=fo
noncomputable def rQ:=bo Tryz.f105
theorem LY:FO 105 Tryz.f105 rQ:=fo
noncomputable def IE:=bo Tryz.f110
theorem WD:FO 110 Tryz.f110 IE:=fo
noncomputable def ji:=bo Tryz.f115
theorem Ln:FO 115 Tryz.f115 ji:=fo
noncomputable def nV:=bo Tryz.f116
theorem Ls:FO 116 Tryz.f116 nV:=fo
noncomputable def IF:=bo Tryz.f117
theorem WE:FO 117 Tryz.f117 IF:=fo
noncomputable def IG:=bo Tryz.f118
theorem WG:FO 118 Tryz.f118 IG:=fo
noncomputable def wY:=bo Tryz.f119
theorem KP:FO 119 Tryz.f119 wY:=fo
noncomputable def dk:=bo Tryz.f120
theorem Wg:FO 120 Tryz.f120 dk:=fo
noncomputable def dm:=bo Tryz.f121
theorem Ws:FO 121 Tryz.f121 dm:=fo
noncomputable def pB:=bo Tryz.f122
theorem LM:FO 122 Tryz.f122 pB:=fo
noncomputable def dY:=bo Tryz.f123
theorem V0:FO 123 Tryz.f123 dY:=fo
noncomputable def qw:=bo Tryz.f124
theorem VU:FO 124 Tryz.f124 qw:=fo
noncomputable def eU:=bo Tryz.f125
theorem VW:FO 125 Tryz.f125 eU:=fo
noncomputable def k8:=bo Tryz.f126
theorem Wq:FO 126 Tryz.f126 k8:=fo
noncomputable def lR:=bo Tryz.f127
theorem Wo:FO 127 Tryz.f127 lR:=fo
noncomputable def iS:=bo Tryz.f128
theorem V2:FO 128 Tryz.f128 iS:=fo
noncomputable def II:=bo Tryz.f129
theorem WH:FO 129 Tryz.f129 II:=fo
noncomputable def nW:=bo Tryz.f130
theorem D5:FO 130 Tryz.f130 nW:=fo
noncomputable def IJ:=bo Tryz.f131
theorem WI:FO 131 Tryz.f131 IJ:=fo
noncomputable def IK:=bo Tryz.f132
theorem WJ:FO 132 Tryz.f132 IK:=fo
noncomputable def IL:=bo Tryz.f133
theorem WK:FO 133 Tryz.f133 IL:=fo
noncomputable def IM:=bo Tryz.f134
theorem WL:FO 134 Tryz.f134 IM:=fo
noncomputable def IN:=bo Tryz.f135
theorem WM:FO 135 Tryz.f135 IN:=fo
noncomputable def IP:=bo Tryz.f136
theorem WN:FO 136 Tryz.f136 IP:=fo
noncomputable def iT:=bo Tryz.f137
theorem L1:FO 137 Tryz.f137 iT:=fo
noncomputable def IQ:=bo Tryz.f138
theorem WO:FO 138 Tryz.f138 IQ:=fo
noncomputable def eE:=bo Tryz.f139
theorem LW:FO 139 Tryz.f139 eE:=fo
noncomputable def dT:=bo Tryz.f140
theorem LZ:FO 140 Tryz.f140 dT:=fo
noncomputable def IS:=bo Tryz.f141
theorem WQ:FO 141 Tryz.f141 IS:=fo
noncomputable def IT:=bo Tryz.f142
theorem WR:FO 142 Tryz.f142 IT:=fo
noncomputable def IU:=bo Tryz.f143
theorem WS:FO 143 Tryz.f143 IU:=fo
noncomputable def IV:=bo Tryz.f144
theorem WT:FO 144 Tryz.f144 IV:=fo
noncomputable def ku:=bo Tryz.f145
theorem VR:FO 145 Tryz.f145 ku:=fo
noncomputable def m8:=bo Tryz.f146
theorem VY:FO 146 Tryz.f146 m8:=fo
noncomputable def nX:=bo Tryz.f149
theorem Lt:FO 149 Tryz.f149 nX:=fo
noncomputable def m9:=bo Tryz.f150
theorem KX:FO 150 Tryz.f150 m9:=fo
noncomputable def dU:=bo Tryz.f151
theorem K7:FO 151 Tryz.f151 dU:=fo
noncomputable def IW:=bo Tryz.f152
theorem WU:FO 152 Tryz.f152 IW:=fo
noncomputable def c9:=bo Tryz.f153
theorem Ll:FO 153 Tryz.f153 c9:=fo
noncomputable def eF:=bo Tryz.f154
theorem Lk:FO 154 Tryz.f154 eF:=fo
noncomputable def wZ:=bo Tryz.f155
theorem K9:FO 155 Tryz.f155 wZ:=fo
noncomputable def w0:=bo Tryz.f156
theorem KY:FO 156 Tryz.f156 w0:=fo
noncomputable def IX:=bo Tryz.f158
theorem WV:FO 158 Tryz.f158 IX:=fo
noncomputable def tf:=bo Tryz.f166
theorem LD:FO 166 Tryz.f166 tf:=fo
noncomputable def pC:=bo Tryz.f168
theorem Lp:FO 168 Tryz.f168 pC:=fo
noncomputable def gp:=bo Tryz.f169
theorem V4:FO 169 Tryz.f169 gp:=fo
noncomputable def Ae:=bo Tryz.f170
theorem VB:FO 170 Tryz.f170 Ae:=fo
noncomputable def cH:=bo Tryz.f171
theorem LP:FO 171 Tryz.f171 cH:=fo
noncomputable def eV:=bo Tryz.f172
theorem We:FO 172 Tryz.f172 eV:=fo
noncomputable def k9:=bo Tryz.f173
theorem Wm:FO 173 Tryz.f173 k9:=fo
noncomputable def IY:=bo Tryz.f174
theorem WW:FO 174 Tryz.f174 IY:=fo
noncomputable def lS:=bo Tryz.f175
theorem LX:FO 175 Tryz.f175 lS:=fo
noncomputable def tg:=bo Tryz.f176
theorem Lo:FO 176 Tryz.f176 tg:=fo
noncomputable def IZ:=bo Tryz.f177
theorem WX:FO 177 Tryz.f177 IZ:=fo
noncomputable def ng:=bo Tryz.f178
theorem K6:FO 178 Tryz.f178 ng:=fo
noncomputable def I0:=bo Tryz.f179
theorem WY:FO 179 Tryz.f179 I0:=fo
noncomputable def I1:=bo Tryz.f180
theorem WZ:FO 180 Tryz.f180 I1:=fo
noncomputable def I2:=bo Tryz.f181
theorem W0:FO 181 Tryz.f181 I2:=fo
noncomputable def I3:=bo Tryz.f182
theorem W2:FO 182 Tryz.f182 I3:=fo
noncomputable def I4:=bo Tryz.f183
theorem W3:FO 183 Tryz.f183 I4:=fo
noncomputable def w7:=bo Tryz.f184
theorem K5:FO 184 Tryz.f184 w7:=fo
noncomputable def I5:=bo Tryz.f185
theorem W4:FO 185 Tryz.f185 I5:=fo
noncomputable def I6:=bo Tryz.f186
theorem W5:FO 186 Tryz.f186 I6:=fo
noncomputable def I7:=bo Tryz.f187
theorem W6:FO 187 Tryz.f187 I7:=fo
noncomputable def I8:=bo Tryz.f188
theorem W7:FO 188 Tryz.f188 I8:=fo
noncomputable def uX:=bo Tryz.f189
theorem LF:FO 189 Tryz.f189 uX:=fo
noncomputable def w8:=bo Tryz.f190
theorem Lf:FO 190 Tryz.f190 w8:=fo
noncomputable def w9:=bo Tryz.f191
theorem Lj:FO 191 Tryz.f191 w9:=fo
noncomputable def xc:=bo Tryz.f192
theorem KN:FO 192 Tryz.f192 xc:=fo
noncomputable def xd:=bo Tryz.f193
theorem Lh:FO 193 Tryz.f193 xd:=fo
noncomputable def xf:=bo Tryz.f194
theorem Lg:FO 194 Tryz.f194 xf:=fo
noncomputable def dL:=bo Tryz.f195
theorem LU:FO 195 Tryz.f195 dL:=fo
noncomputable def jj:=bo Tryz.f196
theorem LJ:FO 196 Tryz.f196 jj:=fo
noncomputable def dG:=bo Tryz.f197
theorem Lc:FO 197 Tryz.f197 dG:=fo
noncomputable def gg:=bo Tryz.f198
theorem Lb:FO 198 Tryz.f198 gg:=fo
noncomputable def rR:=bo Tryz.f199
theorem La:FO 199 Tryz.f199 rR:=fo
noncomputable def xg:=bo Tryz.f200
theorem KS:FO 200 Tryz.f200 xg:=fo
noncomputable def tl:=bo Tryz.f201
theorem K8:FO 201 Tryz.f201 tl:=fo
noncomputable def nh:=bo Tryz.f202
theorem KZ:FO 202 Tryz.f202 nh:=fo
noncomputable def qx:=bo Tryz.f211
theorem Vx:FO 211 Tryz.f211 qx:=fo
noncomputable def Af:=bo Tryz.f212
theorem Vv:FO 212 Tryz.f212 Af:=fo
noncomputable def qy:=bo Tryz.f213
theorem Vz:FO 213 Tryz.f213 qy:=fo
noncomputable def iU:=bo Tryz.f214
theorem VN:FO 214 Tryz.f214 iU:=fo
noncomputable def la:=bo Tryz.f215
theorem VD:FO 215 Tryz.f215 la:=fo
noncomputable def xh:=bo Tryz.f216
theorem VF:FO 216 Tryz.f216 xh:=fo
noncomputable def nY:=bo Tryz.f217
theorem LH:FO 217 Tryz.f217 nY:=fo
noncomputable def xj:=bo Tryz.f218
theorem VJ:FO 218 Tryz.f218 xj:=fo
noncomputable def fk:=bo Tryz.f219
theorem VP:FO 219 Tryz.f219 fk:=fo
noncomputable def ix:=bo Tryz.f220
theorem V8:FO 220 Tryz.f220 ix:=fo
noncomputable def iV:=bo Tryz.f221
theorem Wb:FO 221 Tryz.f221 iV:=fo
noncomputable def I9:=bo Tryz.f222
theorem W8:FO 222 Tryz.f222 I9:=fo
noncomputable def Ja:=bo Tryz.f223
theorem W9:FO 223 Tryz.f223 Ja:=fo
noncomputable def Jb:=bo Tryz.f224
theorem Xa:FO 224 Tryz.f224 Jb:=fo
noncomputable def Jc:=bo Tryz.f225
theorem Xb:FO 225 Tryz.f225 Jc:=fo
noncomputable def Jd:=bo Tryz.f226
theorem Xc:FO 226 Tryz.f226 Jd:=fo
noncomputable def xm:=bo Tryz.f227
theorem K4:FO 227 Tryz.f227 xm:=fo
noncomputable def xq:=bo Tryz.f228
theorem KM:FO 228 Tryz.f228 xq:=fo
noncomputable def xr:=bo Tryz.f229
theorem Ld:FO 229 Tryz.f229 xr:=fo
noncomputable def xu:=bo Tryz.f230
theorem Li:FO 230 Tryz.f230 xu:=fo
noncomputable def nZ:=bo Tryz.f231
theorem D3:FO 231 Tryz.f231 nZ:=fo
noncomputable def xv:=bo Tryz.f232
theorem Le:FO 232 Tryz.f232 xv:=fo
noncomputable def xx:=bo Tryz.f233
theorem Ea:FO 233 Tryz.f233 xx:=fo
noncomputable def tm:=bo Tryz.f234
theorem Eb:FO 234 Tryz.f234 tm:=fo
noncomputable def lb:=bo Tryz.f235
theorem Lv:FO 235 Tryz.f235 lb:=fo
noncomputable def n1:=bo Tryz.f236
theorem Ed:FO 236 Tryz.f236 n1:=fo
noncomputable def xy:=bo Tryz.f237
theorem Lr:FO 237 Tryz.f237 xy:=fo
noncomputable def xz:=bo Tryz.f238
theorem LB:FO 238 Tryz.f238 xz:=fo
noncomputable def uY:=bo Tryz.f239
theorem Ec:FO 239 Tryz.f239 uY:=fo
noncomputable def uZ:=bo Tryz.f240
theorem LI:FO 240 Tryz.f240 uZ:=fo
noncomputable def Je:=bo Tryz.f241
theorem Xd:FO 241 Tryz.f241 Je:=fo
noncomputable def rS:=bo Tryz.f242
theorem KT:FO 242 Tryz.f242 rS:=fo
noncomputable def n2:=bo Tryz.f243
theorem KU:FO 243 Tryz.f243 n2:=fo
noncomputable def xA:=bo Tryz.f244
theorem LV:FO 244 Tryz.f244 xA:=fo
noncomputable def qz:=bo Tryz.f245
theorem KV:FO 245 Tryz.f245 qz:=fo
noncomputable def pD:=bo Tryz.f246
theorem K0:FO 246 Tryz.f246 pD:=fo
noncomputable def xB:=bo Tryz.f247
theorem K3:FO 247 Tryz.f247 xB:=fo
noncomputable def Jf:=bo Tryz.f251
theorem Xe:FO 251 Tryz.f251 Jf:=fo
noncomputable def n3:=bo Tryz.f252
theorem D2:FO 252 Tryz.f252 n3:=fo
noncomputable def kx:=bo Tryz.f253
theorem Lu:FO 253 Tryz.f253 kx:=fo
noncomputable def xC:=bo Tryz.f254
theorem KO:FO 254 Tryz.f254 xC:=fo
noncomputable def xD:=bo Tryz.f255
theorem LC:FO 255 Tryz.f255 xD:=fo
noncomputable def xE:=bo Tryz.f256
theorem Lq:FO 256 Tryz.f256 xE:=fo
noncomputable def xF:=bo Tryz.f257
theorem LA:FO 257 Tryz.f257 xF:=fo
noncomputable def rT:=bo Tryz.f258
theorem K2:FO 258 Tryz.f258 rT:=fo
noncomputable def n4:=bo Tryz.f260
theorem D4:FO 260 Tryz.f260 n4:=fo
theorem a7{f:FuncId}{fn:Func}{c:Code}(hf:kF Tryz.prog f fn c){args:List D}(ht:∀ a∈args,Tr a){r:D}(hr:Tr r)(h:AW Tryz.prog noY true c (retQ Tryz.prog fn.results.toList fun d _=>d=r) ⟨envOf args,fun _=>none,0⟩)(hn:Nat.ble args.length fn.ntmps=true:=by kernel_rfl):PCall Tryz.prog f args r:=Q8 mixed hf hn ht hr h
theorem uy{f:FuncId}{fn:Func}{c:Code}(hf:kF Tryz.prog f fn c){args:List D}(ht:∀ a∈args,Tr a){es:List D}(C:∀ a∈es,Tr a){k:Nat}{t:TypeId}(h:AW Tryz.prog noY true c (retQ Tryz.prog fn.results.toList fun d st=>∃ i,d=.rs i 0 k∧st.mem i=some (.cells es t)) ⟨envOf args,fun _=>none,0⟩)(hn:Nat.ble args.length fn.ntmps=true:=by kernel_rfl):OCall Tryz.prog f args es k t:=HE mixed hf hn ht C h
theorem sO{f:FuncId}{fn:Func}{c:Code}(hf:kF Tryz.prog f fn c){args:List D}{m:Mem}{nx:Nat}{dp:D->Mem->Nat->Prop}(h:AW Tryz.prog noY true c (retQ Tryz.prog fn.results.toList fun d st=>dp d st.mem st.nx) ⟨envOf args,m,nx⟩)(hn:Nat.ble args.length fn.ntmps=true:=by kernel_rfl):ACalls Tryz.prog f args m nx dp:=HD mixed hf hn h
def g'(P:Program)(t:TypeId):Array Field:=match P.underlying t with|some (.struct fs)=>fs|_=> #[]
theorem u8:prog.underlying 8=some (.struct (g' prog 8)):=kr
theorem D7:mkeyP prog 127=3:=kr
theorem D8:mapT prog 127=true:=kr
theorem Eg:melP prog 131=205:=kr
theorem u2:prog.underlying 2=some (.int .i64):=kr
theorem u5:prog.underlying 5=some (.int .u8):=kr
end Go.Proofs.Tryz.K
namespace Go.Argus
open Go.Abs
abbrev I(n:Int):D:=.s (.int .i64 n)
abbrev U8(n:Int):D:=.s (.int .u8 n)
abbrev B(b:Bool):D:=.s (.bool b)
abbrev S(s:ByteArray):D:=.s (.string s)
abbrev aC(l:List Int):D:=.sl (l.map I) l.length
abbrev io(l:List Int):D:=.sl (l.map U8) l.length
abbrev mY(l:List ByteArray):D:=.sl (l.map S) l.length
structure bd where
 op:Int
 to:Int
 a:Int
 b:Int
 n:Int
 args:List Int
structure hP where
 name:ByteArray
 to:Int
structure End where
 kind:Int
 a:Int
 b:Int
 to:Int
 eD:Int
 name:ByteArray
 ins:bd
 args:List Int
 az:List hP
 b7:Int
structure bu where
 ins:List bd
 fin:End
structure aA where
 name:ByteArray
 iter:Bool
 args:Int
 result:Int
 ag:List Int
 aK:List Int
 signals:List ByteArray
 blocks:List bu
def a8(x:bd):List D:=[U8 x.op,I x.to,I x.a,I x.b,I x.n,aC x.args]
def jh(w:hP):List D:=[S w.name,I w.to]
def lN(l:List hP):D:=.sl (l.flatMap jh) l.length
def fu(l:List bd):D:=.sl (l.flatMap a8) l.length
def aW(x:End):List D:=[U8 x.kind,I x.a,I x.b,I x.to,I x.eD,S x.name,U8 x.ins.op,I x.ins.to,I x.ins.a,I x.ins.b,I x.ins.n,aC x.ins.args,aC x.args,lN x.az,I x.b7]
def dS(b:bu):List D:=fu b.ins::aW b.fin
def ew(l:List bu):D:=.sl (l.flatMap dS) l.length
def ay(f:aA):List D:=[S f.name,B f.iter,I f.args,U8 f.result,io f.ag,io f.aK,mY f.signals,ew f.blocks]
def aZ(p q:D)(f:aA):List D:=[S f.name,B f.iter,I f.args,U8 f.result,io f.ag,io f.aK,mY f.signals,ew f.blocks,p,q]
@[simp] theorem abH (p q : D) (x : aA) : (aZ p q x).length = 10 := rfl
@[simp] theorem abL (x : bd) : (a8 x).length = 6 := rfl
@[simp] theorem abI (x : hP) : (jh x).length = 2 := rfl
@[simp] theorem abM (x : End) : (aW x).length = 15 := rfl
@[simp] theorem abE (x : bu) : (dS x).length = 16 := rfl
@[simp] theorem abJ (x : aA) : (ay x).length = 8 := rfl
theorem zD(x:bd):(a8 x).length=6:=rfl
theorem wD(x:hP):(jh x).length=2:=rfl
theorem uM(x:bu):(dS x).length=16:=rfl
def nu{α:Type}(p:α->Bool)(l:List α):Int:=match l.findIdx? p with
 |some i=>i
 |none=> -1
theorem zE{α:Type}{p:α->Bool}{l:List α}{k:Nat}{x:α}(hx:l[k]? =some x)(hp:p x=true)(h:∀ j y,j<k->l[j]? =some y->p y=false):nu p l=k:=by
 have:l.findIdx? p=some k:=by
  rw[List.findIdx?_eq_some_iff_getElem];obtain⟨hk,he⟩:=bA.1 hx;refine⟨hk,by rw[he];exact hp,fun j hj=>?_⟩;have:=h j l[j] hj (by simp[show j<l.length by omega]);simp[this]
 simp[nu,this]
theorem zF{α:Type}{p:α->Bool}{l:List α}(h:∀ (j:Nat) y,l[j]? =some y->p y=false):nu p l= -1:=by
 have:l.findIdx? p=none:=by
  rw[List.findIdx?_eq_none_iff];intro x hx;obtain⟨j,hj⟩:=dh hx;exact h j x hj
 simp[nu,this]
theorem zT{α:Type}(p:α->Bool)(l:List α):decide (0<=nu p l)=l.any p:=by
 unfold nu;cases h:l.findIdx? p with
 |none=>
  rw[List.findIdx?_eq_none_iff] at h;have:l.any p=false:=List.any_eq_false.2 fun x hx=>by simp[h x hx]
  simp[this]
 |some i=>
  obtain⟨hi,hp,_⟩:=List.findIdx?_eq_some_iff_getElem.1 h;have:l.any p=true:=List.any_eq_true.2 ⟨l[i],oS,hp⟩;simp[this]
theorem cW(l:List Int):Tr (aC l):=.sl (.map fun _=>.s _)
theorem mV(l:List Int):Tr (io l):=.sl (.map fun _=>.s _)
theorem td(l:List ByteArray):Tr (mY l):=.sl (.map fun _=>.s _)
theorem mZ(x:bd):∀ a∈a8 x,Tr a:=.cons (.s _) (.cons (.s _) (.cons (.s _) (.cons (.s _) (.cons (.s _) (.cons (cW _) .nil)))))
theorem zZ(x:hP):∀ a∈jh x,Tr a:=.cons (.s _) (.cons (.s _) .nil)
theorem gW(l:List hP):Tr (lN l):=.sl (.flat zZ)
theorem SY(l:List bd):Tr (fu l):=.sl (.flat mZ)
theorem iQ(x:End):∀ a∈aW x,Tr a:=.cons (.s _) (.cons (.s _) (.cons (.s _) (.cons (.s _) (.cons (.s _) (.cons (.s _) (.cons (.s _) (.cons (.s _) (.cons (.s _) (.cons (.s _) (.cons (.s _) (.cons (cW _) (.cons (cW _) (.cons (gW _) (.cons (.s _) .nil))))))))))))))
theorem G0(x:bu):∀ a∈dS x,Tr a:=.cons (SY _) (iQ _)
theorem zJ(l:List bu):Tr (ew l):=.sl (.flat G0)
theorem fq(x:aA):∀ a∈ay x,Tr a:=.cons (.s _) (.cons (.s _) (.cons (.s _) (.cons (.s _) (.cons (mV _) (.cons (mV _) (.cons (td _) (.cons (zJ _) .nil)))))))
theorem wO{p q:D}(hp:Tr p)(hq:Tr q)(x:aA):∀ a∈aZ p q x,Tr a:=.cons (.s _) (.cons (.s _) (.cons (.s _) (.cons (.s _) (.cons (mV _) (.cons (mV _) (.cons (td _) (.cons (zJ _) (.cons hp (.cons hq .nil)))))))))
theorem jK{p q:D}(hp:Tr p)(hq:Tr q)(x:aA):Tr (.agg (aZ p q x)):=.agg (wO hp hq x)
theorem qo{p q:D}{f:aA}(h1:p.one=true)(h2:q.one=true):(aZ p q f).all D.one=true:=by
 simp only[aZ,List.all_cons,List.all_nil,h1,h2];rfl
abbrev cm(n:Int):D:=.s (.int .u64 n)
abbrev fm(w:List Int):D:=.agg (w.map cm)
theorem iZ(w:List Int):(w.map cm).all D.one=true:=br.2 fun x hx=>by obtain⟨y,_,rfl⟩:=List.mem_map.1 hx;rfl
theorem CD{w:List Int}{i:Nat}{x:Int}:((w.map cm).set i (cm x)).all D.one=true:=by rw[<- List.map_set];exact iZ _
theorem nv(w:List Int):Tr (fm w):=.agg (.map fun _=>.s _)
def mg(a b:Int):Int:=intBitsV .and .u64 a b
def uB(a b:Int):Int:=intBitsV .or .u64 a b
def tF(w:List Int)(m:Nat):List Int:=w.set (m / 64) (uB (w.getD (m / 64) 0) (IntKind.u64.wrap (1*2 ^ (min (m % 64) 64))))
def jw(w:List Int)(m:Nat):Bool:=mg ((w.getD (m / 64) 0).fdiv (2 ^ (min (m % 64) 64))) 1==1
def fA(w:List Int)(n:Int):List Int:=if 0<=n then tF w n.toNat else w
def dW(w v:List Int):Nat->List Int
 |0=>w
 |k+1=>(dW w v k).set k (mg ((dW w v k).getD k 0) (v.getD k 0))
def fB(w v:List Int):List Int:=dW w v 20
@[simp] theorem Hl (w v : List Int) : ∀ k, (dW w v k).length = w.length
 |0=>rfl
 |k+1=>by simp[dW,Hl w v k]
@[simp] theorem abR (w : List Int) (m : Nat) : (tF w m).length = w.length := by simp [tF]
@[simp] theorem abS (w : List Int) (n : Int) : (fA w n).length = w.length := by unfold fA; split <;> simp
@[simp] theorem G5 (w v : List Int) : (fB w v).length = w.length := Hl w v 20
theorem wrap_i64{n:Nat}(h:n<2 ^ 62):IntKind.i64.wrap (n:Int)=n:=by
 unfold IntKind.wrap;simp[IntKind.signed,IntKind.bits];omega
theorem KQ{m:Nat}(h:m<2 ^ 62):IntKind.i64.wrap ((m:Int).tdiv 64)=((m / 64:Nat):Int):=by
 rw[show(m:Int).tdiv 64=((m / 64:Nat):Int) from by rw[Int.tdiv_eq_ediv_of_nonneg oG];omega];exact wrap_i64 oG
theorem KR(m:Nat):(m:Int).tmod 64=((m % 64:Nat):Int):=by rw[Int.tmod_eq_emod_of_nonneg oG];omega
theorem ib(a b:Int):(a==b)=decide (a=b):=rfl
def ct(n a b:Int):Bool:=decide (a<=n)&&decide (n<=b)
def pv(b:Int):Bool:=decide (b<33)||decide (126<b)
def iX(s:ByteArray):Bool:=ct s.size 1 120&& !(cn s).any pv
def pw(b:Int):Bool:=(decide (b<97)||decide (122<b))&&(decide (b<48)||decide (57<b))
def isName(s:ByteArray):Bool:=ct s.size 1 12&& !(cn s).any pw
def jF(C k:Int):Bool:=decide (k<1)||decide (C<k)
def dK(l:List Int)(C:Int):Bool:= !l.any (jF C)
def bP(l:List Int)(r:Int):Int:=if 0<=r then l.getD r.toNat 0 else 0
theorem py{l:List Int}{i:Nat}{x:Int}(h:l[i]? =some x):bP l i=x:=by
 simp[bP,bD,h]
theorem Cl{l:List Int}{r:Int}(h:¬ (0<=r/\r<l.length)):bP l r=0:=by
 unfold bP;split
 .rename_i h0;have:l.length<=r.toNat:=by omega
  simp[bD,List.getElem?_eq_none this]
 .rfl
theorem ir{n a b:Int}:ct n a b=true↔a<=n/\n<=b:=by simp[ct]
theorem Qu{n a b:Int}:ct n a b=false↔¬ (a<=n/\n<=b):=by
 rw[<- Bool.not_eq_true,ir]
def dB(l:List Int)(r:Int):Bool:=bP l r==1||bP l r==2
def eT(l rs:List Int):Bool:=rs.all (dB l)
def jn(l aK:List Int)(r n:Int):Bool:=ct n 0 (aK.length - 1)&&(bP l r==bP aK n)
def jk(l:List Int)(r want C:Int):Bool:=
 if want=0 then r==0 else if want=1 then bP l r==1 else if want=2 then bP l r==2 else if want=3 then dB l r
 else bP l r !=0&&bP l r==C
structure Shape where
 to:Int
 a:Int
 b:Int
 args:Int
 low:Int
 high:Int
def gG(s:Shape):List D:=[I s.to,I s.a,I s.b,I s.args,I s.low,I s.high]
@[simp] theorem abF (x : Shape) : (gG x).length = 6 := rfl
theorem Hb(x:Shape):∀ a∈gG x,Tr a:=.cons (.s _) (.cons (.s _) (.cons (.s _) (.cons (.s _) (.cons (.s _) (.cons (.s _) .nil)))))
def mX(l:List Int)(x:bd)(s:Shape):Int:=if s.to=0\/s.to=1 then bP l x.a else bP l x.to
def mS(l:List Int)(x:bd)(s:Shape):Bool:=if s.args=5 then ct x.args.length 1 6&&eT l x.args else if s.args=6 then decide ((x.args.length:Int)=1)&&eT l x.args else decide ((x.args.length:Int)=0)
def lP(l:List Int)(x:bd)(s:Shape):Bool:=
 jk l x.to s.to 0&&(jk l x.a s.a (mX l x s)&&(jk l x.b s.b (mX l x s)&&(mS l x s&&ct x.n s.low s.high)))
def nA(l:List (Int×Shape)):List (Value×D):=l.map fun x=>(.int .u8 x.1,.agg (gG x.2))
def te:Shape:=⟨0,0,0,0,0,0⟩
def ez(l:List (Int×Shape))(op:Int):Option Shape:=(l.find? fun x=>x.1==op).map (·.2)
def lc:List (Int×Shape):=[(1,⟨1,0,0,0, -1000000000,1000000000⟩),(2,⟨3,4,0,0,0,0⟩),(3,⟨1,1,1,0,0,0⟩),(4,⟨1,1,1,0,0,0⟩),(5,⟨1,3,4,0,0,0⟩),(6,⟨1,1,1,0,0,0⟩),(7,⟨1,1,1,0,0,0⟩),(8,⟨1,1,0,0,0,0⟩),
 (9,⟨2,0,0,0,0,1⟩),(10,⟨2,0,0,5,0,5⟩),(11,⟨3,2,0,0,0,5⟩),(12,⟨0,2,3,0,0,5⟩),(13,⟨1,2,0,0,0,0⟩),(14,⟨1,2,0,0,0,0⟩),(15,⟨0,1,0,0,0,0⟩)]
def gJ:List (Int×Shape):=[(30,⟨1,1,1,0,0,0⟩),(31,⟨1,1,1,0,0,0⟩),(32,⟨1,1,1,0,0,0⟩),(33,⟨1,1,1,0,0,0⟩),(34,⟨1,1,1,0,0,0⟩),(35,⟨0,2,3,0,0,0⟩),(36,⟨3,2,0,0,0,0⟩),(37,⟨3,2,1,0,0,0⟩),(38,⟨0,2,1,6,0,0⟩)]
theorem vr(l:List (Int×Shape)):Tr (.im (nA l)):=.im fun x hx=>by
 obtain⟨y,_,rfl⟩:=List.mem_map.1 hx;exact .agg (Hb _)
theorem IC(op:Int):∀ l:List (Int×Shape),(lookD (.int .u8 op) (nA l)).map (·.2)=(ez l op).map fun s=>.agg (gG s)
 |[]=>rfl
 |(o,s)::l=>by
  have ih:=IC op l;unfold nA at ih ⊢;simp only[List.map_cons,lookD,veq,veq1,ez,List.find?_cons] at ih ⊢;by_cases h:o=op
  .subst h;simp
  .have hb:(o==op)=false:=by simpa using h
   simp only[hb,beq_self_eq_true,Bool.and_false,Bool.false_eq_true,if_false,Option.map_map] at ih ⊢;exact ih
theorem JX{P:Program}{t:TypeId}{C:D}(M:zeroD P (melP P t)=C)(op:Int)(l:List (Int×Shape))(J:C=.agg (gG te)):gotD P t true (lookD (.int .u8 op) (nA l))=.tup [.agg (gG ((ez l op).getD te)),.s (.bool (ez l op).isSome)]:=by
 have h:=IC op l;cases h1:lookD (.int .u8 op) (nA l) with
 |none=>
  rw[h1] at h;have:ez l op=none:=by simpa using h.symm
  simp only[gotD,this,M,J,Option.getD_none,Option.isSome_none,if_true]
 |some x=>
  rw[h1] at h;cases h2:ez l op with
  |none=>rw[h2] at h;simp at h
  |some s=>
   rw[h2] at h;obtain⟨i,d⟩:=x;simp only[Option.map_some,aF] at h;subst h;simp[gotD]
theorem Iv{P:Program}{kt:TypeId}(hk:P.underlying kt=some (.int .u8))(l:List (Int×Shape)):(nA l).all (fun e=>keyP P kt e.1)=true:=by
 refine br.2 fun x hx=>?_;obtain⟨y,_,rfl⟩:=List.mem_map.1 hx;simp[keyP,hk]
def aG(a b:Int):Bool:=decide (a=b)
def gK(x:bd):Bool:=decide ((x.args.length:Int)=0)
def gq(f:aA)(b:Int)(x:bd)(phis:Bool)(ahead:Int):Bool:=
 if x.op=16 then aG x.to 0&&(aG (bP f.ag x.a) 3&&(aG x.b 0&&(aG x.n 0&&gK x)))
 else if x.op=17 then aG x.a 0&&(aG x.b 0&&(gK x&&jn f.ag f.aK x.to x.n))
 else if x.op=18 then aG x.to 0&&(aG x.b 0&&(gK x&&jn f.ag f.aK x.a x.n))
 else if x.op=19 then phis&&(decide (0<b)&&(dB f.ag x.to&&(aG x.a 0&&(aG x.b 0&&(aG x.n 0&&(aG x.args.length ahead&& !x.args.any fun r=> !aG (bP f.ag r) (bP f.ag x.to)))))))
 else(ez lc x.op).isSome&&lP f.ag x ((ez lc x.op).getD te)
def xO(x:bd):Bool:=decide (x.op=0)&&(decide (x.to=0)&&(decide (x.a=0)&&(decide (x.b=0)&&(decide (x.n=0)&&decide ((x.args.length:Int)=0)))))
def tG(x:End):Bool:=decide (x.kind=0)&&(decide (x.a=0)&&(decide (x.b=0)&&(decide (x.to=0)&&(decide (x.eD=0)&&(x.name.toList==[]&&(decide (x.b7= -1)&&(decide ((x.args.length:Int)=0)&&(decide ((x.az.length:Int)=0)&&xO x.ins))))))))
def bI(f:aA)(n:Int):Bool:=ct n 0 (f.blocks.length - 1)
def ll(f:aA)(ws:List hP)(i:Nat)(w:hP):Bool:=isName w.name&&(bI f w.to&& !(ws.take i).any fun v=>v.name.toList==w.name.toList)
def An(f:aA)(ws:List hP):Bool:=ws.zipIdx.all fun x=>ll f ws x.2 x.1
theorem Gv{f:aA}{ws:List hP}(h:∀ (i:Nat) w,ws[i]? =some w->ll f ws i w=true):An f ws=true:=by
 refine br.2 fun x hx=>?_;obtain⟨h1,h2⟩:=List.mem_zipIdx' hx;exact h x.2 x.1 (by rw[h2];simp[h1])
theorem BX{f:aA}{ws:List hP}{i:Nat}{w:hP}(C:ws[i]? =some w)(h:ll f ws i w=false):An f ws=false:=by
 refine Bool.eq_false_iff.2 fun ht=>?_;have hx:(w,i)∈ws.zipIdx:=List.mem_zipIdx_iff_getElem?.2 C;have:=br.1 ht _ hx;rw[h] at this;cases this
def jH(f:aA)(x:End):Bool:=An f x.az&&(decide ((x.az.length:Int)<=7)&&(decide (x.b7= -1)||bI f x.b7))
def dc:bd:=⟨0,0,0,0,0,[]⟩
def eI(f:aA)(x:End):Bool×End:=
 let r:End:={ x with kind:=0 }
 if x.kind=1 then(bI f x.to,{ r with to:=0 })
 else if x.kind=2 then(aG (bP f.ag x.a) 1&&(bI f x.to&&bI f x.eD),{ r with a:=0,to:=0,eD:=0 })
 else if x.kind=3 then(if f.result≠0/\f.iter=false then aG (bP f.ag x.a) f.result else aG x.a (-1),{ r with a:=0 })
 else if x.kind=4 then(isName x.name,{ r with name:=.empty })
 else if x.kind=5 then((ez gJ x.ins.op).isSome&&(lP f.ag x.ins ((ez gJ x.ins.op).getD te)&&(bI f x.to&&jH f x)),{ r with ins:=dc,to:=0,az:=[],b7:= -1 })
 else if x.kind=6 then(iX x.name&&(decide ((x.args.length:Int)<=6)&&(eT f.ag x.args&&((aG x.a (-1)||dB f.ag x.a)&&(bI f x.to&&jH f x)))),{ r with name:=.empty,args:=[],a:=0,to:=0,az:=[],b7:= -1 })
 else if x.kind=7 then(iX x.name&&(decide ((x.args.length:Int)<=6)&&(eT f.ag x.args&&(aG (bP f.ag x.a) 3&&bI f x.to))),{ r with name:=.empty,args:=[],a:=0,to:=0 })
 else if x.kind=8 then(aG (bP f.ag x.a) 3&&(dB f.ag x.b&&(bI f x.to&&(bI f x.eD&&jH f x))),{ r with a:=0,b:=0,to:=0,eD:=0,az:=[],b7:= -1 })
 else if x.kind=9 then(f.iter&&(aG (bP f.ag x.a) f.result&&bI f x.to),{ r with a:=0,to:=0 })
 else(false,r)
def aE(l:List Int)(n:Int):Bool:=l.any fun c=>n==c
def ik(n:Int):Int:=1200+n
def jG:List Int:=[1,2,3,4,5,6,7,8,9,10,11,13,14,17,19]
def kV:List Int:=[30,31,32,33,34,36,37]
def cN(x:bd):Int:=if aE jG x.op then x.to else if aE kV x.op then x.to else -1
def dw(x:End):Int:=if x.kind=5 then cN x.ins else if aE [6,7] x.kind then x.a else if x.kind=8 then x.b else -1
def kZ:List Int:=[2,8,11,13,14,15,16,18,36]
def nU:List Int:=[3,4,5,6,7,12,30,31,32,33,34,35,37]
def bW(x:bd):List Int:=if aE kZ x.op then [x.a] else if aE nU x.op then [x.a,x.b] else if x.op=10 then x.args else if x.op=38 then x.a::x.b::x.args else []
def bU(x:End):List Int:=if aE [2,8,9] x.kind then [x.a] else if x.kind=3 then(if x.a≠ -1 then [x.a] else []) else if x.kind=5 then bW x.ins else if aE [6,7] x.kind then x.args else []
def gI(f:aA)(x:End):Bool:=(eI f x).1&&tG (eI f x).2
end Go.Argus
namespace Go.Proofs.Tryz.K
open Go.Abs
def zf(i:Nat):Code->Option (Array Oper)
 | .region j o _=>bif Nat.beq i j then some o else none
 | .seq a b=>match zf i a with
  |some x=>some x
  |none=>zf i b
 | .cond _ a b=>match zf i a with
  |some x=>some x
  |none=>zf i b
 | .block _ b=>zf i b
 | .loop b=>zf i b
 | .scope b=>zf i b
 | .rangeFunc _ _ a b=>match zf i a with
  |some x=>some x
  |none=>zf i b
 |_=>none
def Z(b:Code)(i:Nat):Array Oper:=(zf i b).getD #[]
abbrev G(i:Nat)(o:Array Oper):Code:=.region i o false
abbrev G1(b:Code)(i:Nat):Code:=.region i (Z b i) false
abbrev G2(b:Code)(i:Nat):Code:=.region i (Z b i) true
abbrev S1(a b:Code):Code:=.seq a b
abbrev C1(n:Nat)(a b:Code):Code:=.cond (.tmp n) a b
abbrev B1(n:Nat)(a:Code):Code:=.block n a
abbrev X1(n:Nat):Code:=.exit n
abbrev K1:Code:=.skip
theorem YB:xS=(S1 (G1 xS 0) (S1 (G1 xS 1) .ret)):=kr
theorem U2:xf=(S1 (G1 xf 0) (S1 (G1 xf 1) .ret)):=kr
theorem Uq:xq=(S1 (G1 xq 0) (S1 (G1 xq 1) .ret)):=kr
theorem U0:xv=(S1 (G1 xv 0) (S1 (G1 xv 1) .ret)):=kr
theorem Up:n3=(S1 (G1 n3 0) (S1 (S1 (G1 n3 1) (B1 0 (.loop (S1 (G1 n3 2) (S1 (C1 9 K1 (X1 0)) (S1 (B1 1 (S1 (G1 n3 3) (S1 (G1 n3 4) (C1 16 (S1 (G1 n3 5) .ret) K1)))) (G1 n3 6))))))) (S1 (G1 n3 7) .ret))):=kr
theorem UE:pD=(S1 (G1 pD 0) (S1 (G1 pD 1) (S1 (S1 (G1 pD 2) (B1 0 (.rangeFunc (.tmp 8) #[9] (G1 pD 3) (B1 1 (S1 (G1 pD 4) (C1 12 (G1 pD 5) K1)))))) (S1 (G1 pD 6) .ret)))):=kr
theorem UD:nh=(S1 (S1 (G1 nh 0) (C1 19 .ret K1)) (S1 (S1 (G1 nh 1) (C1 34 .ret K1)) (S1 (S1 (G1 nh 2) (B1 0 (.loop (S1 (G1 nh 3) (S1 (C1 39 K1 (X1 0)) (S1 (B1 1 (S1 (G1 nh 4) (S1 (G1 nh 5) (C1 46 .ret K1)))) (G1 nh 6))))))) (S1 (G1 nh 7) (C1 65 (G1 nh 8) K1))))):=kr
theorem UC:w0=(S1 (G1 w0 0) (S1 (G1 w0 1) .ret)):=kr
theorem Ur:nZ=(S1 (G1 nZ 0) (S1 (S1 (G1 nZ 1) (B1 0 (.loop (S1 (G1 nZ 2) (S1 (C1 9 K1 (X1 0)) (S1 (B1 1 (S1 (G1 nZ 3) (S1 (G1 nZ 4) (C1 16 (S1 (G1 nZ 5) .ret) K1)))) (G1 nZ 6))))))) (S1 (G1 nZ 7) .ret))):=kr
theorem Us:xc=(S1 (G1 xc 0) (S1 (G1 xc 1) .ret)):=kr
theorem Ut:n4=(S1 (G1 n4 0) (S1 (S1 (G1 n4 1) (B1 0 (.loop (S1 (G1 n4 2) (S1 (C1 9 K1 (X1 0)) (S1 (B1 1 (S1 (G1 n4 3) (S1 (G1 n4 4) (C1 16 (S1 (G1 n4 5) .ret) K1)))) (G1 n4 6))))))) (S1 (G1 n4 7) .ret))):=kr
theorem Uu:xC=(S1 (G1 xC 0) (S1 (G1 xC 1) .ret)):=kr
theorem Uv:nW=(S1 (G1 nW 0) (S1 (S1 (G1 nW 1) (B1 0 (.loop (S1 (G1 nW 2) (S1 (C1 9 K1 (X1 0)) (S1 (B1 1 (S1 (G1 nW 3) (S1 (G1 nW 4) (C1 16 (S1 (G1 nW 5) .ret) K1)))) (G1 nW 6))))))) (S1 (G1 nW 7) .ret))):=kr
theorem Uw:wY=(S1 (G1 wY 0) (S1 (G1 wY 1) .ret)):=kr
theorem UZ:xr=(S1 (G1 xr 0) (S1 (G1 xr 1) .ret)):=kr
theorem U1:w8=(S1 (G1 w8 0) (S1 (G1 w8 1) .ret)):=kr
theorem U3:xd=(S1 (G1 xd 0) (S1 (G1 xd 1) .ret)):=kr
theorem U4:xu=(S1 (G1 xu 0) (S1 (G1 xu 1) .ret)):=kr
theorem U5:w9=(S1 (G1 w9 0) (S1 (G1 w9 1) .ret)):=kr
theorem Vu:uX=(S1 (G1 uX 0) (S1 (G1 uX 1) (S1 (G1 uX 2) .ret))):=kr
theorem Vt:tf=(S1 (G1 tf 0) (S1 (G1 tf 1) (S1 (G1 tf 2) (S1 (G1 tf 3) .ret)))):=kr
theorem Vd:xx=(S1 (G1 xx 0) (S1 (G1 xx 1) .ret)):=kr
theorem Ve:tm=(S1 (G1 tm 0) (S1 (S1 (G1 tm 1) (C1 12 (S1 (G1 tm 2) .ret) K1)) (S1 (G1 tm 3) .ret))):=kr
theorem Vl:lb=(S1 (G1 lb 0) (S1 (G1 lb 1) (S1 (S1 (G1 lb 2) (C1 20 (G1 lb 3) K1)) (S1 (G1 lb 4) (S1 (S1 (G1 lb 5) (B1 0 (S1 (G1 lb 6) (C1 31 (G1 lb 7) (S1 (G1 lb 8) (C1 43 (G1 lb 9) K1)))))) (S1 (G1 lb 10) .ret)))))):=kr
theorem Vs:n1=(S1 (G1 n1 0) (S1 (S1 (G1 n1 1) (B1 0 (.loop (S1 (G1 n1 2) (S1 (C1 11 K1 (X1 0)) (S1 (B1 1 (S1 (G1 n1 3) (S1 (G1 n1 4) (C1 33 (S1 (G1 n1 5) .ret) K1)))) (G1 n1 6))))))) (S1 (G1 n1 7) .ret))):=kr
theorem Vg:xy=(S1 (G1 xy 0) (S1 (G1 xy 1) .ret)):=kr
theorem G':drawInfo (Z uY 1)=some [(10,11),(10,12),(10,13),(10,15),(10,16)]:=kr
theorem Vh:uY=(S1 (G1 uY 0) (S1 (G2 uY 1) .ret)):=kr
theorem QE:drawInfo (Z uZ 1)=some [(2,3)]:=kr
theorem VL:uZ=(S1 (G1 uZ 0) (S1 (G2 uZ 1) .ret)):=kr
theorem Vk:kx=(S1 (G1 kx 0) (S1 (G1 kx 1) (S1 (S1 (G1 kx 2) (B1 0 (S1 (G1 kx 3) (C1 14 (S1 (G1 kx 4) .ret) (S1 (G1 kx 5) (C1 18 (S1 (G1 kx 6) .ret) (S1 (G1 kx 7) (C1 22 (S1 (G1 kx 8) .ret) (S1 (G1 kx 9) (C1 26 (S1 (G1 kx 10) .ret) K1)))))))))) (S1 (G1 kx 11) .ret)))):=kr
theorem Vr:xD=(S1 (G1 xD 0) (S1 (G1 xD 1) .ret)):=kr
theorem Vf:xE=(S1 (G1 xE 0) (S1 (G1 xE 1) .ret)):=kr
theorem Vq:xz=(S1 (G1 xz 0) (S1 (G1 xz 1) .ret)):=kr
theorem Vp:xF=(S1 (G1 xF 0) (S1 (G1 xF 1) .ret)):=kr
theorem PA:drawInfo (Z dL 11)=some [(3,4),(3,5),(3,6)]:=kr
theorem PB:drawInfo (Z dL 28)=some [(7,8),(7,9),(7,10)]:=kr
theorem Wi:dL=(S1 (G1 dL 0) (S1 (G1 dL 1) (S1 (G1 dL 2) (S1 (S1 (G1 dL 3) (B1 0 (S1 (G1 dL 4) (C1 13 (G1 dL 5) (S1 (G1 dL 6) (C1 20 (G1 dL 7) (S1 (G1 dL 8) (C1 42 (S1 (G1 dL 9) (S1 (G1 dL 10) (C1 57 (G2 dL 11) K1))) (S1 (G1 dL 12) (C1 66 (G1 dL 13) (S1 (G1 dL 14) (C1 72 (S1 (G1 dL 15) (S1 (G1 dL 16) (G1 dL 17))) (S1 (G1 dL 18) (C1 107 (S1 (G1 dL 19) (G1 dL 20)) (S1 (G1 dL 21) (C1 153 (S1 (G1 dL 22) (G1 dL 23)) (S1 (G1 dL 24) (C1 187 (S1 (G1 dL 25) (G1 dL 26)) (S1 (G1 dL 27) (C1 224 (G2 dL 28) K1)))))))))))))))))))) (S1 (G1 dL 29) .ret))))):=kr
theorem VM:jj=(S1 (G1 jj 0) (S1 (S1 (G1 jj 1) (B1 0 (S1 (G1 jj 2) (C1 17 (S1 (G1 jj 3) .ret) (S1 (G1 jj 4) (C1 45 (S1 (G1 jj 5) .ret) (S1 (G1 jj 6) (C1 69 (S1 (G1 jj 7) .ret) (S1 (G1 jj 8) (C1 93 (S1 (G1 jj 9) (S1 (G1 jj 10) (S1 (G1 jj 11) .ret))) K1)))))))))) (S1 (G1 jj 12) (S1 (G1 jj 13) .ret)))):=kr
theorem Pp:drawInfo (Z c9 10)=some []:=kr
theorem Pq:drawInfo (Z c9 32)=some []:=kr
theorem U9:c9=(S1 (G1 c9 0) (S1 (G1 c9 1) (S1 (G1 c9 2) (S1 (S1 (G1 c9 3) (C1 71 (S1 (G1 c9 4) .ret) K1)) (S1 (S1 (G1 c9 5) (C1 101 (S1 (G1 c9 6) .ret) K1)) (S1 (S1 (G1 c9 7) (B1 0 (.loop (S1 (S1 (G1 c9 8) (C1 106 K1 (X1 0))) (S1 (B1 1 (S1 (G2 c9 10) (C1 120 (S1 (G1 c9 11) .ret) K1))) (G1 c9 9)))))) (S1 (G1 c9 12) (S1 (S1 (G1 c9 13) (B1 2 (.loop (S1 (G1 c9 14) (S1 (C1 126 K1 (X1 2)) (S1 (B1 3 (S1 (G1 c9 15) (S1 (S1 (G1 c9 16) (C1 139 (S1 (G1 c9 17) .ret) K1)) (S1 (G1 c9 18) (C1 143 (S1 (S1 (G1 c9 19) (C1 148 (S1 (G1 c9 20) .ret) K1)) (G1 c9 21)) K1))))) (G1 c9 22))))))) (S1 (G1 c9 23) (S1 (S1 (G1 c9 24) (B1 4 (.loop (S1 (G1 c9 25) (S1 (C1 160 K1 (X1 4)) (S1 (B1 5 (S1 (G1 c9 26) (S1 (G1 c9 27) (S1 (G1 c9 28) (B1 6 (.loop (S1 (G1 c9 29) (S1 (C1 168 K1 (X1 6)) (S1 (B1 7 (S1 (G1 c9 30) (S1 (G1 c9 31) (S1 (G2 c9 32) (C1 187 (S1 (G1 c9 33) .ret) K1))))) (G1 c9 34)))))))))) (G1 c9 35))))))) (S1 (G1 c9 36) .ret))))))))))):=kr
theorem YA:kz=(S1 (G1 kz 0) (S1 (G1 kz 1) (S1 (S1 (G1 kz 2) (B1 0 (.loop (S1 (G1 kz 3) (S1 (C1 18 K1 (X1 0)) (S1 (B1 1 (S1 (G1 kz 4) (S1 (G1 kz 5) (B1 2 (.loop (S1 (G1 kz 6) (S1 (C1 28 K1 (X1 2)) (S1 (B1 3 (S1 (G1 kz 7) (G1 kz 8))) (G1 kz 9))))))))) (G1 kz 10))))))) (S1 (G1 kz 11) .ret)))):=kr
theorem UM:wZ=(S1 (G1 wZ 0) (S1 (G1 wZ 1) .ret)):=kr
theorem Qn:drawInfo (Z rR 2)=some [(0,2)]:=kr
theorem UN:rR=(S1 (G1 rR 0) (S1 (S1 (G1 rR 1) (C1 9 (S1 (G2 rR 2) .ret) K1)) (S1 (G1 rR 3) .ret))):=kr
theorem B9:drawInfo (Z gg 10)=some [(6,9)]:=kr
theorem UO:gg=(S1 (G1 gg 0) (S1 (G1 gg 1) (S1 (S1 (G1 gg 2) (B1 0 (.loop (S1 (G1 gg 3) (S1 (C1 17 K1 (X1 0)) (S1 (B1 1 (S1 (G1 gg 4) (S1 (S1 (G1 gg 5) (B1 2 (.loop (S1 (G1 gg 6) (S1 (C1 24 K1 (X1 2)) (S1 (B1 3 (S1 (G1 gg 7) (G1 gg 8))) (G1 gg 9))))))) (S1 (G2 gg 10) (G1 gg 11))))) (G1 gg 12))))))) (S1 (S1 (G1 gg 13) (B1 4 (.loop (S1 (G1 gg 14) (S1 (C1 56 K1 (X1 4)) (S1 (B1 5 (S1 (G1 gg 15) (G1 gg 16))) (G1 gg 17))))))) (S1 (G1 gg 18) .ret))))):=kr
theorem Qd:drawInfo (Z qz 2)=some [(0,3)]:=kr
theorem Qc:drawInfo (Z qz 3)=some [(0,2)]:=kr
theorem UA:qz=(S1 (G1 qz 0) (S1 (S1 (G1 qz 1) (C1 7 (S1 (G2 qz 2) .ret) K1)) (S1 (G2 qz 3) .ret))):=kr
theorem Qa:drawInfo (Z rS 2)=some []:=kr
theorem Uy:rS=(S1 (G1 rS 0) (S1 (S1 (G1 rS 1) (C1 6 (G2 rS 2) K1)) (S1 (G1 rS 3) .ret))):=kr
theorem Qb:drawInfo (Z n2 4)=some []:=kr
theorem Uz:n2=(S1 (G1 n2 0) (S1 (S1 (G1 n2 1) (B1 0 (.loop (S1 (G1 n2 2) (S1 (C1 7 K1 (X1 0)) (S1 (B1 1 (S1 (G1 n2 3) (G2 n2 4))) (G1 n2 5))))))) (S1 (G1 n2 6) .ret))):=kr
theorem Ux:xg=(S1 (G1 xg 0) (S1 (G1 xg 1) .ret)):=kr
theorem Wv:xA=(S1 (G1 xA 0) (S1 (G1 xA 1) .ret)):=kr
theorem Qp:drawInfo (Z dG 1)=some [(4,5),(4,6),(4,7),(4,8)]:=kr
theorem Pg:drawInfo (Z dG 20)=some []:=kr
theorem Ph:drawInfo (Z dG 24)=some [(2,8),(3,8)]:=kr
theorem Pj:drawInfo (Z dG 25)=some []:=kr
theorem UX:dG=(S1 (G1 dG 0) (S1 (G2 dG 1) (S1 (S1 (G1 dG 2) (B1 0 (.loop (S1 (G1 dG 3) (S1 (C1 29 K1 (X1 0)) (S1 (B1 1 (S1 (G1 dG 4) (G1 dG 5))) (G1 dG 6))))))) (S1 (G1 dG 7) (S1 (S1 (G1 dG 8) (B1 2 (.loop (S1 (G1 dG 9) (S1 (C1 45 K1 (X1 2)) (S1 (B1 3 (S1 (G1 dG 10) (G1 dG 11))) (G1 dG 12))))))) (S1 (S1 (G1 dG 13) (B1 4 (.loop (S1 (S1 (G1 dG 14) (C1 55 K1 (X1 4))) (B1 5 (S1 (G1 dG 15) (S1 (G1 dG 16) (B1 6 (.loop (S1 (G1 dG 17) (S1 (C1 61 K1 (X1 6)) (S1 (B1 7 (S1 (G1 dG 18) (S1 (S1 (G1 dG 19) (C1 69 (X1 7) K1)) (S1 (G2 dG 20) (S1 (G1 dG 21) (B1 8 (.loop (S1 (G1 dG 22) (S1 (C1 85 K1 (X1 8)) (S1 (B1 9 (S1 (G1 dG 23) (S1 (G2 dG 24) (S1 (G2 dG 25) (C1 110 (G1 dG 26) K1))))) (G1 dG 27))))))))))) (G1 dG 28))))))))))))) (S1 (G1 dG 29) .ret))))))):=kr
theorem Qr:drawInfo (Z eF 7)=some []:=kr
theorem Pn:drawInfo (Z eF 17)=some []:=kr
theorem Po:drawInfo (Z eF 18)=some [(14,15),(14,16),(14,18),(14,19)]:=kr
theorem U6:eF=(S1 (G1 eF 0) (.scope (S1 (G1 eF 1) (S1 (G1 eF 2) (S1 (.label 0) (S1 (S1 (G1 eF 3) (B1 0 (.loop (S1 (G1 eF 4) (S1 (C1 28 K1 (X1 0)) (S1 (B1 1 (S1 (G1 eF 5) (S1 (S1 (G1 eF 6) (C1 36 (X1 1) K1)) (S1 (S1 (G2 eF 7) (S1 (G1 eF 8) (C1 47 (S1 (G1 eF 9) .ret) K1))) (S1 (G1 eF 10) (B1 2 (.loop (S1 (G1 eF 11) (S1 (C1 52 K1 (X1 2)) (S1 (B1 3 (S1 (G1 eF 12) (S1 (S1 (G1 eF 13) (C1 57 (X1 1) K1)) (S1 (G1 eF 14) (B1 4 (.loop (S1 (G1 eF 15) (S1 (C1 64 K1 (X1 4)) (S1 (B1 5 (S1 (G1 eF 16) (S1 (G2 eF 17) (S1 (G2 eF 18) (C1 104 (S1 (G1 eF 19) .ret) K1))))) (G1 eF 20)))))))))) (G1 eF 21))))))))))) (G1 eF 22))))))) (S1 (G1 eF 23) .ret))))))):=kr
theorem YJ:qC=(S1 (G1 qC 0) (S1 (B1 0 (S1 (G1 qC 1) (C1 3 (S1 (G1 qC 2) .ret) (S1 (G1 qC 3) (C1 7 (S1 (G1 qC 4) .ret) K1))))) (S1 (G1 qC 5) .ret))):=kr
theorem Ww:eE=(S1 (G1 eE 0) (S1 (S1 (G1 eE 1) (B1 0 (S1 (S1 (G1 eE 2) (C1 5 K1 (S1 (G1 eE 3) (C1 5 K1 (S1 (G1 eE 4) (C1 5 K1 (S1 (G1 eE 5) (C1 5 K1 (S1 (G1 eE 6) (C1 5 K1 (S1 (G1 eE 7) (C1 5 K1 (S1 (G1 eE 8) (C1 5 K1 (S1 (G1 eE 9) (C1 5 K1 (S1 (G1 eE 10) (C1 5 K1 (S1 (G1 eE 11) (C1 5 K1 (S1 (G1 eE 12) (C1 5 K1 (S1 (G1 eE 13) (C1 5 K1 (S1 (G1 eE 14) (C1 5 K1 (S1 (G1 eE 15) (C1 5 K1 (G1 eE 16))))))))))))))))))))))))))))) (C1 5 (S1 (G1 eE 17) .ret) (S1 (S1 (G1 eE 18) (C1 23 K1 (S1 (G1 eE 19) (C1 23 K1 (S1 (G1 eE 20) (C1 23 K1 (S1 (G1 eE 21) (C1 23 K1 (S1 (G1 eE 22) (C1 23 K1 (S1 (G1 eE 23) (C1 23 K1 (G1 eE 24))))))))))))) (C1 23 (S1 (G1 eE 25) .ret) K1)))))) (S1 (G1 eE 26) .ret))):=kr
theorem Wz:dT=(S1 (G1 dT 0) (S1 (S1 (G1 dT 1) (B1 0 (S1 (S1 (G1 dT 2) (C1 5 K1 (S1 (G1 dT 3) (C1 5 K1 (S1 (G1 dT 4) (C1 5 K1 (S1 (G1 dT 5) (C1 5 K1 (S1 (G1 dT 6) (C1 5 K1 (S1 (G1 dT 7) (C1 5 K1 (S1 (G1 dT 8) (C1 5 K1 (S1 (G1 dT 9) (C1 5 K1 (G1 dT 10))))))))))))))))) (C1 5 (S1 (G1 dT 11) .ret) (S1 (S1 (G1 dT 12) (C1 18 K1 (S1 (G1 dT 13) (C1 18 K1 (S1 (G1 dT 14) (C1 18 K1 (S1 (G1 dT 15) (C1 18 K1 (S1 (G1 dT 16) (C1 18 K1 (S1 (G1 dT 17) (C1 18 K1 (S1 (G1 dT 18) (C1 18 K1 (S1 (G1 dT 19) (C1 18 K1 (S1 (G1 dT 20) (C1 18 K1 (S1 (G1 dT 21) (C1 18 K1 (S1 (G1 dT 22) (C1 18 K1 (S1 (G1 dT 23) (C1 18 K1 (G1 dT 24))))))))))))))))))))))))) (C1 18 (S1 (G1 dT 25) .ret) (S1 (G1 dT 26) (C1 37 (S1 (G1 dT 27) .ret) (S1 (G1 dT 28) (C1 42 (S1 (G1 dT 29) .ret) K1)))))))))) (S1 (G1 dT 30) .ret))):=kr
theorem WA:iT=(S1 (G1 iT 0) (S1 (S1 (G1 iT 1) (B1 0 (S1 (S1 (G1 iT 2) (C1 5 K1 (S1 (G1 iT 3) (C1 5 K1 (G1 iT 4))))) (C1 5 (S1 (G1 iT 5) .ret) (S1 (G1 iT 6) (C1 12 (S1 (G1 iT 7) (C1 16 (S1 (G1 iT 8) .ret) K1)) (S1 (G1 iT 9) (C1 20 (S1 (G1 iT 10) .ret) (S1 (S1 (G1 iT 11) (C1 25 K1 (G1 iT 12))) (C1 25 (S1 (G1 iT 13) .ret) K1)))))))))) (S1 (G1 iT 14) .ret))):=kr
theorem Wx:lS=(S1 (G1 lS 0) (S1 (S1 (G1 lS 1) (B1 0 (S1 (G1 lS 2) (C1 5 (S1 (G1 lS 3) .ret) (S1 (S1 (G1 lS 4) (C1 10 K1 (G1 lS 5))) (C1 10 (S1 (G1 lS 6) .ret) (S1 (G1 lS 7) (C1 15 (S1 (G1 lS 8) .ret) K1)))))))) (S1 (G1 lS 9) .ret))):=kr
theorem Wy:rQ=(S1 (G1 rQ 0) (S1 (S1 (G1 rQ 1) (C1 4 (S1 (G1 rQ 2) .ret) K1)) (S1 (G1 rQ 3) .ret))):=kr
theorem Yu:xR=(S1 (G1 xR 0) (G1 xR 1)):=kr
theorem UK:dU=(S1 (G1 dU 0) (S1 (G1 dU 1) (B1 0 (.loop (B1 1 (S1 (G1 dU 2) (S1 (S1 (G1 dU 3) (C1 23 (S1 (G1 dU 4) .ret) K1)) (S1 (S1 (G1 dU 5) (C1 29 (S1 (G1 dU 6) .ret) K1)) (S1 (S1 (G1 dU 7) (C1 35 (S1 (G1 dU 8) (G1 dU 9)) K1)) (S1 (G1 dU 10) (S1 (S1 (G1 dU 11) (C1 50 (S1 (G1 dU 12) (S1 (G1 dU 13) (G1 dU 14))) K1)) (S1 (S1 (G1 dU 15) (C1 68 (S1 (G1 dU 16) (C1 72 .ret K1)) K1)) (S1 (S1 (G2 dU 17) (C1 87 (S1 (G1 dU 18) (S1 (G1 dU 19) (X1 1))) K1)) (S1 (G1 dU 20) (S1 (G1 dU 21) (S1 (G1 dU 22) (S1 (G1 dU 23) (S1 (G1 dU 24) (C1 113 (S1 (G1 dU 25) (S1 (G1 dU 26) (G1 dU 27))) (S1 (G1 dU 28) (S1 (G1 dU 29) (G1 dU 30)))))))))))))))))))))):=kr
theorem Qj:drawInfo (Z ng 4)=some []:=kr
theorem Qk:drawInfo (Z ng 6)=some []:=kr
theorem UJ:ng=(S1 (G1 ng 0) (B1 0 (.loop (S1 (S1 (G1 ng 1) (C1 12 K1 (X1 0))) (S1 (B1 1 (S1 (G1 ng 3) (B1 2 (.loop (S1 (S1 (G2 ng 4) (C1 30 K1 (X1 2))) (S1 (B1 3 (G2 ng 6)) (G1 ng 5))))))) (G1 ng 2)))))):=kr
theorem UI:w7=(S1 (G1 w7 0) (S1 (G1 w7 1) .ret)):=kr
theorem UH:xm=(S1 (G1 xm 0) (S1 (G1 xm 1) .ret)):=kr
theorem Rw:drawInfo (Z gy 6)=some []:=kr
theorem Qm:drawInfo (Z gy 11)=some []:=kr
theorem Yv:gy=(S1 (G1 gy 0) (S1 (S1 (G1 gy 1) (C1 8 (S1 (G1 gy 2) .ret) K1)) (S1 (S1 (G1 gy 3) (B1 0 (.loop (S1 (S1 (G1 gy 4) (C1 13 K1 (X1 0))) (S1 (B1 1 (S1 (G2 gy 6) (C1 25 (S1 (G1 gy 7) (S1 (S1 (G1 gy 8) (B1 2 (.loop (S1 (S1 (G1 gy 9) (C1 32 K1 (X1 2))) (S1 (B1 3 (S1 (G2 gy 11) (C1 44 (S1 (G1 gy 12) (G1 gy 13)) K1))) (G1 gy 10)))))) (S1 (G1 gy 14) (S1 (G1 gy 15) .ret)))) K1))) (G1 gy 5)))))) (S1 (G1 gy 16) .ret)))):=kr
theorem UL:tl=(S1 (G1 tl 0) (S1 (G1 tl 1) (S1 (G1 tl 2) (S1 (G1 tl 3) .ret)))):=kr
theorem UG:xB=(S1 (G1 xB 0) (S1 (G1 xB 1) .ret)):=kr
theorem UF:rT=(S1 (G1 rT 0) (S1 (S1 (G1 rT 1) (B1 0 (.rangeFunc (.tmp 6) #[7] (G1 rT 2) (B1 1 (G1 rT 3))))) (S1 (G1 rT 4) .ret))):=kr
theorem Va:ji=(S1 (G1 ji 0) (S1 (G1 ji 1) (S1 (S1 (G1 ji 2) (C1 13 (G1 ji 3) K1)) (S1 (S1 (G1 ji 4) (C1 26 (G1 ji 5) K1)) (S1 (S1 (G1 ji 6) (B1 0 (.loop (S1 (G1 ji 7) (S1 (C1 36 K1 (X1 0)) (S1 (B1 1 (S1 (G1 ji 8) (G1 ji 9))) (G1 ji 10))))))) (S1 (S1 (G1 ji 11) (C1 47 (G1 ji 12) K1)) (S1 (G1 ji 13) .ret))))))):=kr
theorem Vi:nV=(S1 (G1 nV 0) (S1 (G1 nV 1) (S1 (S1 (G1 nV 2) (C1 15 (S1 (G1 nV 3) .ret) K1)) (S1 (G1 nV 4) (S1 (G1 nV 5) (S1 (G1 nV 6) (S1 (G1 nV 7) .ret))))))):=kr
theorem Vc:pC=(S1 (G1 pC 0) (S1 (G1 pC 1) (B1 0 (.loop (S1 (G1 pC 2) (S1 (C1 20 K1 (X1 0)) (S1 (B1 1 (S1 (G1 pC 3) (S1 (G1 pC 4) (C1 32 (G1 pC 5) K1)))) (G1 pC 6)))))))):=kr
theorem RK:drawInfo (Z fx 5)=some []:=kr
theorem Qv:drawInfo (Z fx 11)=some [(1,6),(2,6),(3,6)]:=kr
theorem Qw:drawInfo (Z fx 15)=some [(1,14),(2,14),(3,14)]:=kr
theorem ML:fx=(S1 (G1 fx 0) (S1 (S1 (G1 fx 1) (S1 (G1 fx 2) (C1 15 (S1 (G1 fx 3) .ret) K1))) (S1 (G1 fx 4) (S1 (G2 fx 5) (S1 (S1 (G1 fx 6) (B1 0 (.loop (S1 (G1 fx 7) (S1 (C1 31 K1 (X1 0)) (S1 (B1 1 (S1 (G1 fx 8) (S1 (G1 fx 9) (S1 (G1 fx 10) (S1 (G2 fx 11) (S1 (G1 fx 12) (B1 2 (.loop (S1 (G1 fx 13) (S1 (C1 57 K1 (X1 2)) (S1 (B1 3 (S1 (G1 fx 14) (G2 fx 15))) (G1 fx 16)))))))))))) (G1 fx 17))))))) (S1 (G1 fx 18) (S1 (G1 fx 19) .ret))))))):=kr
theorem Vj:nX=(S1 (G1 nX 0) (S1 (S1 (G1 nX 1) (B1 0 (.loop (S1 (G1 nX 2) (S1 (C1 20 K1 (X1 0)) (S1 (B1 1 (S1 (G1 nX 3) (S1 (G1 nX 4) (C1 27 (G1 nX 5) K1)))) (G1 nX 6))))))) (G1 nX 7))):=kr
theorem YQ:n8=(S1 (G1 n8 0) (S1 (G1 n8 1) (S1 (G1 n8 2) (S1 (G1 n8 3) (S1 (G1 n8 4) (S1 (G1 n8 5) (S1 (G1 n8 6) (S1 (G1 n8 7) .ret)))))))):=kr
theorem RI:drawInfo (Z r5 3)=some []:=kr
theorem YP:r5=(S1 (G1 r5 0) (B1 0 (.loop (S1 (S1 (G1 r5 1) (C1 9 K1 (X1 0))) (S1 (B1 1 (G2 r5 3)) (G1 r5 2)))))):=kr
theorem Vb:tg=(S1 (G1 tg 0) (B1 0 (.loop (S1 (S1 (G1 tg 1) (C1 8 K1 (X1 0))) (S1 (B1 1 (S1 (G1 tg 3) (C1 18 .ret K1))) (G1 tg 2)))))):=kr
theorem YW:gu=(S1 (G1 gu 0) (S1 (S1 (G1 gu 1) (C1 58 (S1 (G1 gu 2) .ret) K1)) (S1 (S1 (G1 gu 3) (B1 0 (.loop (S1 (S1 (G1 gu 4) (C1 63 K1 (X1 0))) (S1 (B1 1 (S1 (G1 gu 6) (C1 72 (S1 (G1 gu 7) .ret) K1))) (G1 gu 5)))))) (S1 (S1 (G1 gu 8) (B1 2 (.loop (S1 (S1 (G1 gu 9) (C1 77 K1 (X1 2))) (S1 (B1 3 (S1 (G1 gu 11) (S1 (S1 (G1 gu 12) (C1 117 (S1 (G1 gu 13) .ret) K1)) (S1 (G1 gu 14) (B1 4 (.loop (S1 (S1 (G1 gu 15) (C1 122 K1 (X1 4))) (S1 (B1 5 (S1 (G1 gu 17) (C1 132 (S1 (G1 gu 18) .ret) K1))) (G1 gu 16))))))))) (G1 gu 10)))))) (S1 (G1 gu 19) .ret))))):=kr
theorem YX:rZ=(S1 (G1 rZ 0) (B1 0 (.loop (S1 (G1 rZ 1) (S1 (C1 12 K1 (X1 0)) (S1 (B1 1 (S1 (G1 rZ 2) (S1 (G1 rZ 3) (C1 22 .ret K1)))) (G1 rZ 4))))))):=kr
theorem wH:drawInfo (Z cT 20)=some [(0,6)]:=kr
theorem MP:cT=(S1 (G1 cT 0) (S1 (G1 cT 1) (S1 (S1 (G1 cT 2) (C1 19 (S1 (G1 cT 3) .ret) K1)) (S1 (G1 cT 4) (S1 (G1 cT 5) (S1 (S1 (G1 cT 6) (B1 0 (.rangeFunc (.tmp 31) #[32] (G1 cT 7) (B1 1 (S1 (G1 cT 8) (B1 2 (.loop (S1 (G1 cT 9) (S1 (C1 42 K1 (X1 2)) (S1 (B1 3 (S1 (G1 cT 10) (S1 (G1 cT 11) (B1 4 (.loop (S1 (S1 (G1 cT 12) (C1 64 K1 (X1 4))) (S1 (B1 5 (G2 cT 14)) (G1 cT 13)))))))) (G1 cT 15))))))))))) (S1 (S1 (G1 cT 16) (B1 6 (.loop (S1 (G1 cT 17) (S1 (C1 83 K1 (X1 6)) (S1 (B1 7 (S1 (G1 cT 18) (S1 (G1 cT 19) (G2 cT 20)))) (G1 cT 21))))))) (S1 (G1 cT 22) .ret)))))))):=kr
theorem MY:tz=(S1 (G1 tz 0) (S1 (G1 tz 1) (S1 (S1 (G1 tz 2) (C1 12 (S1 (G1 tz 3) .ret) K1)) (S1 (G1 tz 4) .ret)))):=kr
theorem MW:rY=(S1 (G1 rY 0) (S1 (G1 rY 1) (S1 (S1 (G1 rY 2) (C1 12 (S1 (G1 rY 3) .ret) K1)) (S1 (G1 rY 4) .ret)))):=kr
theorem sk7:pT=(S1 (G1 pT 0) (S1 (S1 (G1 pT 1) (C1 13 (S1 (G1 pT 2) .ret) K1)) (S1 (G1 pT 3) (S1 (G1 pT 4) (S1 (G1 pT 5) (S1 (G1 pT 6) (S1 (G1 pT 7) .ret))))))):=kr
noncomputable def yj:T (Func×Code):=
 (.node none (.node none (.node none (.node none (.node none (.node none (.node none (.node none (.node (some (Tryz.f255,xD)) .leaf .leaf) .leaf) (.node (some (Tryz.f191,w9)) .leaf .leaf)) (.node (some (Tryz.f95,qC)) .leaf (.node (some (Tryz.f223,Ja)) .leaf .leaf))) (.node none (.node none (.node (some (Tryz.f143,IU)) .leaf .leaf) .leaf) (.node none (.node (some (Tryz.f175,lS)) .leaf .leaf) (.node (some (Tryz.f239,uY)) .leaf .leaf)))) (.node (some (Tryz.f23,J3)) (.node (some (Tryz.f39,cT)) (.node (some (Tryz.f71,Kh)) (.node (some (Tryz.f135,IN)) .leaf .leaf) (.node (some (Tryz.f199,rR)) .leaf .leaf)) (.node none .leaf (.node (some (Tryz.f231,nZ)) .leaf .leaf))) (.node none (.node (some (Tryz.f87,Km)) (.node (some (Tryz.f151,dU)) .leaf .leaf) .leaf) (.node (some (Tryz.f119,wY)) (.node (some (Tryz.f183,I4)) .leaf .leaf) (.node (some (Tryz.f247,xB)) .leaf .leaf))))) (.node none (.node none (.node none (.node none (.node (some (Tryz.f131,IJ)) .leaf .leaf) (.node (some (Tryz.f195,dL)) .leaf .leaf)) (.node none .leaf (.node (some (Tryz.f227,xm)) .leaf .leaf))) (.node (some (Tryz.f51,fx)) (.node (some (Tryz.f83,Kl)) .leaf .leaf) (.node (some (Tryz.f115,ji)) (.node (some (Tryz.f179,I0)) .leaf .leaf) (.node (some (Tryz.f243,n2)) .leaf .leaf)))) (.node none (.node none (.node none (.node (some (Tryz.f139,eE)) .leaf .leaf) .leaf) (.node none .leaf (.node (some (Tryz.f235,lb)) .leaf .leaf))) (.node none (.node none (.node (some (Tryz.f155,wZ)) .leaf .leaf) .leaf) (.node none (.node (some (Tryz.f187,I7)) .leaf .leaf) (.node (some (Tryz.f251,Jf)) .leaf .leaf)))))) (.node none (.node none (.node (some (Tryz.f17,J0)) (.node (some (Tryz.f33,rY)) (.node (some (Tryz.f65,Kd)) (.node (some (Tryz.f129,II)) (.node (some (Tryz.f257,xF)) .leaf .leaf) .leaf) (.node (some (Tryz.f193,xd)) .leaf .leaf)) (.node (some (Tryz.f97,kz)) .leaf (.node (some (Tryz.f225,Jc)) .leaf .leaf))) (.node none .leaf (.node none (.node (some (Tryz.f177,IZ)) .leaf .leaf) (.node (some (Tryz.f241,Je)) .leaf .leaf)))) (.node none (.node (some (Tryz.f41,J7)) (.node (some (Tryz.f73,Kj)) (.node (some (Tryz.f137,iT)) .leaf .leaf) (.node (some (Tryz.f201,tl)) .leaf .leaf)) (.node (some (Tryz.f105,rQ)) .leaf (.node (some (Tryz.f233,xx)) .leaf .leaf))) (.node none (.node (some (Tryz.f89,xR)) (.node (some (Tryz.f153,c9)) .leaf .leaf) .leaf) (.node none (.node (some (Tryz.f185,I5)) .leaf .leaf) .leaf)))) (.node none (.node none (.node none (.node (some (Tryz.f69,Kf)) (.node (some (Tryz.f133,IL)) .leaf .leaf) (.node (some (Tryz.f197,dG)) .leaf .leaf)) (.node none .leaf (.node (some (Tryz.f229,xr)) .leaf .leaf))) (.node (some (Tryz.f53,J')) (.node (some (Tryz.f85,n8)) (.node (some (Tryz.f149,nX)) .leaf .leaf) .leaf) (.node (some (Tryz.f117,IF)) (.node (some (Tryz.f181,I2)) .leaf .leaf) (.node (some (Tryz.f245,qz)) .leaf .leaf)))) (.node none (.node none (.node none (.node (some (Tryz.f141,IS)) .leaf .leaf) .leaf) (.node none .leaf (.node (some (Tryz.f237,xy)) .leaf .leaf))) (.node (some (Tryz.f61,rZ)) (.node (some (Tryz.f93,Kn)) .leaf .leaf) (.node none (.node (some (Tryz.f189,uX)) .leaf .leaf) (.node (some (Tryz.f253,kx)) .leaf .leaf))))))) (.node none (.node none (.node none (.node none (.node none (.node (some (Tryz.f64,lW)) (.node none (.node (some (Tryz.f256,xE)) .leaf .leaf) .leaf) (.node (some (Tryz.f192,xc)) .leaf .leaf)) (.node (some (Tryz.f96,xS)) .leaf (.node (some (Tryz.f224,Jb)) .leaf .leaf))) (.node none (.node none (.node (some (Tryz.f144,IV)) .leaf .leaf) .leaf) (.node none (.node (some (Tryz.f176,tg)) .leaf .leaf) (.node (some (Tryz.f240,uZ)) .leaf .leaf)))) (.node none (.node none (.node (some (Tryz.f72,Ki)) (.node (some (Tryz.f136,IP)) .leaf .leaf) (.node (some (Tryz.f200,xg)) .leaf .leaf)) (.node none (.node (some (Tryz.f168,pC)) .leaf .leaf) (.node (some (Tryz.f232,xv)) .leaf .leaf))) (.node none (.node none (.node (some (Tryz.f152,IW)) .leaf .leaf) .leaf) (.node none (.node (some (Tryz.f184,w7)) .leaf .leaf) .leaf)))) (.node none (.node (some (Tryz.f20,J2)) (.node (some (Tryz.f36,J6)) (.node none (.node (some (Tryz.f132,IK)) (.node (some (Tryz.f260,n4)) .leaf .leaf) .leaf) (.node (some (Tryz.f196,jj)) .leaf .leaf)) (.node (some (Tryz.f100,ID)) .leaf (.node (some (Tryz.f228,xq)) .leaf .leaf))) (.node (some (Tryz.f52,J9)) (.node (some (Tryz.f84,r5)) .leaf .leaf) (.node (some (Tryz.f116,nV)) (.node (some (Tryz.f180,I1)) .leaf .leaf) (.node (some (Tryz.f244,xA)) .leaf .leaf)))) (.node (some (Tryz.f28,J5)) (.node none (.node none (.node (some (Tryz.f140,dT)) .leaf .leaf) .leaf) (.node none .leaf (.node (some (Tryz.f236,n1)) .leaf .leaf))) (.node (some (Tryz.f60,Kb)) (.node none (.node (some (Tryz.f156,w0)) .leaf .leaf) .leaf) (.node none (.node (some (Tryz.f188,I8)) .leaf .leaf) (.node (some (Tryz.f252,n3)) .leaf .leaf)))))) (.node none (.node none (.node (some (Tryz.f18,J1)) (.node none (.node (some (Tryz.f66,Ke)) (.node (some (Tryz.f130,nW)) (.node (some (Tryz.f258,rT)) .leaf .leaf) .leaf) (.node (some (Tryz.f194,xf)) .leaf .leaf)) (.node none .leaf (.node (some (Tryz.f226,Jd)) .leaf .leaf))) (.node (some (Tryz.f50,J8)) (.node (some (Tryz.f82,Kk)) .leaf .leaf) (.node none (.node (some (Tryz.f178,ng)) .leaf .leaf) (.node (some (Tryz.f242,rS)) .leaf .leaf)))) (.node (some (Tryz.f26,J4)) (.node none (.node none (.node (some (Tryz.f138,IQ)) .leaf .leaf) (.node (some (Tryz.f202,nh)) .leaf .leaf)) (.node none .leaf (.node (some (Tryz.f234,tm)) .leaf .leaf))) (.node none (.node (some (Tryz.f90,gy)) (.node (some (Tryz.f154,eF)) .leaf .leaf) .leaf) (.node none (.node (some (Tryz.f186,I6)) .leaf .leaf) .leaf)))) (.node none (.node (some (Tryz.f22,xQ)) (.node none (.node (some (Tryz.f70,Kg)) (.node (some (Tryz.f134,IM)) .leaf .leaf) (.node (some (Tryz.f198,gg)) .leaf .leaf)) (.node none (.node (some (Tryz.f166,tf)) .leaf .leaf) (.node (some (Tryz.f230,xu)) .leaf .leaf))) (.node (some (Tryz.f54,Ka)) .leaf (.node (some (Tryz.f118,IG)) (.node (some (Tryz.f182,I3)) .leaf .leaf) (.node (some (Tryz.f246,pD)) .leaf .leaf)))) (.node none (.node none (.node none (.node (some (Tryz.f142,IT)) .leaf .leaf) .leaf) (.node (some (Tryz.f110,IE)) (.node (some (Tryz.f174,IY)) .leaf .leaf) (.node (some (Tryz.f238,xz)) .leaf .leaf))) (.node (some (Tryz.f62,Kc)) (.node (some (Tryz.f94,Ko)) (.node (some (Tryz.f158,IX)) .leaf .leaf) (.node (some (Tryz.f222,I9)) .leaf .leaf)) (.node none (.node (some (Tryz.f190,w8)) .leaf .leaf) (.node (some (Tryz.f254,xC)) .leaf .leaf))))))))
def Bd(p:Nat->Func×Code->Prop):(Nat->Nat)->T (Func×Code)->Prop
 |_,.leaf=>True
 |g,.node v l r=>(∀ a,v=some a->p (g 0) a)/\Bd p (fun i=>g (2*i+1)) l/\Bd p (fun i=>g (2*i+2)) r
theorem CU{p:Nat->Func×Code->Prop}:∀ {t:T (Func×Code)} {g:Nat->Nat},Bd p g t->∀ i a,t.get i=some a->p (g i) a
 | .leaf,_,_,i,a,h=>by cases h
 | .node v l r,g,⟨h1,h2,h3⟩,i,a,h=>by
  rw[T.qn] at h;by_cases h0:i=0
  .subst h0;exact h1 a (by simpa using h)
  .rw[if_neg h0] at h;by_cases C:i % 2=1
   .rw[if_pos C] at h;have:=CU h2 _ a h;have e:2*(i / 2)+1=i:=by omega
    simpa only[e] using this
   .rw[if_neg C] at h;have:=CU h3 _ a h;have e:2*(i / 2 - 1)+2=i:=by omega
    simpa only[e] using this
theorem e0{p:Func×Code->Prop}:∀ a,(none:Option (Func×Code))=some a->p a:=fun _ h=>by cases h
theorem e1{i:Nat}{fn:Func}{c:Code}(h:kF prog i fn c):∀ a,some (fn,c)=some a->kF prog i a.1 a.2:=fun _ e=>by cases e;exact h
theorem Ta:Bd (fun i a=>kF prog i a.1 a.2) (fun i=>i) yj:=
 ⟨e0,⟨e0,⟨e0,⟨e0,⟨e0,⟨e0,⟨e0,⟨e0,⟨e1 LC,trivial,trivial⟩,trivial⟩,⟨e1 Lj,trivial,trivial⟩⟩,⟨e1 MF,trivial,⟨e1 W9,trivial,trivial⟩⟩⟩,⟨e0,⟨e0,⟨e1 WS,trivial,trivial⟩,trivial⟩,⟨e0,⟨e1 LX,trivial,trivial⟩,⟨e1 Ec,trivial,trivial⟩⟩⟩⟩,⟨e1 Zv,⟨e1 MS,⟨e1 ZK,⟨e1 WM,trivial,trivial⟩,⟨e1 La,trivial,trivial⟩⟩,⟨e0,trivial,⟨e1 D3,trivial,trivial⟩⟩⟩,⟨e0,⟨e1 ZP,⟨e1 K7,trivial,trivial⟩,trivial⟩,⟨e1 KP,⟨e1 W3,trivial,trivial⟩,⟨e1 K3,trivial,trivial⟩⟩⟩⟩⟩,⟨e0,⟨e0,⟨e0,⟨e0,⟨e1 WI,trivial,trivial⟩,⟨e1 LU,trivial,trivial⟩⟩,⟨e0,trivial,⟨e1 K4,trivial,trivial⟩⟩⟩,⟨e1 EO,⟨e1 ZO,trivial,trivial⟩,⟨e1 Ln,⟨e1 WY,trivial,trivial⟩,⟨e1 KU,trivial,trivial⟩⟩⟩⟩,⟨e0,⟨e0,⟨e0,⟨e1 LW,trivial,trivial⟩,trivial⟩,⟨e0,trivial,⟨e1 Lv,trivial,trivial⟩⟩⟩,⟨e0,⟨e0,⟨e1 K9,trivial,trivial⟩,trivial⟩,⟨e0,⟨e1 W6,trivial,trivial⟩,⟨e1 Xe,trivial,trivial⟩⟩⟩⟩⟩⟩,⟨e0,⟨e0,⟨e1 Zs,⟨e1 ES,⟨e1 ZG,⟨e1 WH,⟨e1 LA,trivial,trivial⟩,trivial⟩,⟨e1 Lh,trivial,trivial⟩⟩,⟨e1 My,trivial,⟨e1 Xb,trivial,trivial⟩⟩⟩,⟨e0,trivial,⟨e0,⟨e1 WX,trivial,trivial⟩,⟨e1 Xd,trivial,trivial⟩⟩⟩⟩,⟨e0,⟨e1 Zz,⟨e1 ZM,⟨e1 L1,trivial,trivial⟩,⟨e1 K8,trivial,trivial⟩⟩,⟨e1 LY,trivial,⟨e1 Ea,trivial,trivial⟩⟩⟩,⟨e0,⟨e1 Mt,⟨e1 Ll,trivial,trivial⟩,trivial⟩,⟨e0,⟨e1 W4,trivial,trivial⟩,trivial⟩⟩⟩⟩,⟨e0,⟨e0,⟨e0,⟨e1 ZI,⟨e1 WK,trivial,trivial⟩,⟨e1 Lc,trivial,trivial⟩⟩,⟨e0,trivial,⟨e1 Ld,trivial,trivial⟩⟩⟩,⟨e1 ZC,⟨e1 MK,⟨e1 Lt,trivial,trivial⟩,trivial⟩,⟨e1 WE,⟨e1 W0,trivial,trivial⟩,⟨e1 KV,trivial,trivial⟩⟩⟩⟩,⟨e0,⟨e0,⟨e0,⟨e1 WQ,trivial,trivial⟩,trivial⟩,⟨e0,trivial,⟨e1 Lr,trivial,trivial⟩⟩⟩,⟨e1 MN,⟨e1 ZQ,trivial,trivial⟩,⟨e0,⟨e1 LF,trivial,trivial⟩,⟨e1 Lu,trivial,trivial⟩⟩⟩⟩⟩⟩⟩,⟨e0,⟨e0,⟨e0,⟨e0,⟨e0,⟨e1 EX,⟨e0,⟨e1 Lq,trivial,trivial⟩,trivial⟩,⟨e1 KN,trivial,trivial⟩⟩,⟨e1 Mz,trivial,⟨e1 Xa,trivial,trivial⟩⟩⟩,⟨e0,⟨e0,⟨e1 WT,trivial,trivial⟩,trivial⟩,⟨e0,⟨e1 Lo,trivial,trivial⟩,⟨e1 LI,trivial,trivial⟩⟩⟩⟩,⟨e0,⟨e0,⟨e1 ZL,⟨e1 WN,trivial,trivial⟩,⟨e1 KS,trivial,trivial⟩⟩,⟨e0,⟨e1 Lp,trivial,trivial⟩,⟨e1 Le,trivial,trivial⟩⟩⟩,⟨e0,⟨e0,⟨e1 WU,trivial,trivial⟩,trivial⟩,⟨e0,⟨e1 K5,trivial,trivial⟩,trivial⟩⟩⟩⟩,⟨e0,⟨e1 Zu,⟨e1 Zy,⟨e0,⟨e1 WJ,⟨e1 D4,trivial,trivial⟩,trivial⟩,⟨e1 LJ,trivial,trivial⟩⟩,⟨e1 WC,trivial,⟨e1 KM,trivial,trivial⟩⟩⟩,⟨e1 ZB,⟨e1 MI,trivial,trivial⟩,⟨e1 Ls,⟨e1 WZ,trivial,trivial⟩,⟨e1 LV,trivial,trivial⟩⟩⟩⟩,⟨e1 Zx,⟨e0,⟨e0,⟨e1 LZ,trivial,trivial⟩,trivial⟩,⟨e0,trivial,⟨e1 Ed,trivial,trivial⟩⟩⟩,⟨e1 ZE,⟨e0,⟨e1 KY,trivial,trivial⟩,trivial⟩,⟨e0,⟨e1 W7,trivial,trivial⟩,⟨e1 D2,trivial,trivial⟩⟩⟩⟩⟩⟩,⟨e0,⟨e0,⟨e1 Zt,⟨e0,⟨e1 ZH,⟨e1 D5,⟨e1 K2,trivial,trivial⟩,trivial⟩,⟨e1 Lg,trivial,trivial⟩⟩,⟨e0,trivial,⟨e1 Xc,trivial,trivial⟩⟩⟩,⟨e1 ZA,⟨e1 ZN,trivial,trivial⟩,⟨e0,⟨e1 K6,trivial,trivial⟩,⟨e1 KT,trivial,trivial⟩⟩⟩⟩,⟨e1 Zw,⟨e0,⟨e0,⟨e1 WO,trivial,trivial⟩,⟨e1 KZ,trivial,trivial⟩⟩,⟨e0,trivial,⟨e1 Eb,trivial,trivial⟩⟩⟩,⟨e0,⟨e1 vD,⟨e1 Lk,trivial,trivial⟩,trivial⟩,⟨e0,⟨e1 W5,trivial,trivial⟩,trivial⟩⟩⟩⟩,⟨e0,⟨e1 M8,⟨e0,⟨e1 ZJ,⟨e1 WL,trivial,trivial⟩,⟨e1 Lb,trivial,trivial⟩⟩,⟨e0,⟨e1 LD,trivial,trivial⟩,⟨e1 Li,trivial,trivial⟩⟩⟩,⟨e1 ZD,trivial,⟨e1 WG,⟨e1 W2,trivial,trivial⟩,⟨e1 K0,trivial,trivial⟩⟩⟩⟩,⟨e0,⟨e0,⟨e0,⟨e1 WR,trivial,trivial⟩,trivial⟩,⟨e1 WD,⟨e1 WW,trivial,trivial⟩,⟨e1 LB,trivial,trivial⟩⟩⟩,⟨e1 ZF,⟨e1 ZR,⟨e1 WV,trivial,trivial⟩,⟨e1 W8,trivial,trivial⟩⟩,⟨e0,⟨e1 Lf,trivial,trivial⟩,⟨e1 KO,trivial,trivial⟩⟩⟩⟩⟩⟩⟩⟩
theorem Dz(f:FuncId)(fn:Func)(c:Code)(h:yj.get f=some (fn,c)):kF prog f fn c:=CU Ta f (fn,c) h
end Go.Proofs.Tryz.K
namespace Go.Abs
open Go.ChangeShapes Go.WideShapes
inductive Sh
 |int (k:IntKind)
 |bool
 |str
 |sl (s:Sh)
 |unit
 |pair (a b:Sh)
def Sh.val:Sh->Type
 | .int _=>Int
 | .bool=>Bool
 | .str=>ByteArray
 | .sl s=>List s.val
 | .unit=>Unit
 | .pair a b=>a.val×b.val
def Sh.size:Sh->Nat
 | .unit=>0
 | .pair a b=>a.size+b.size
 |_=>1
def Sh.enc:(s:Sh)->s.val->List D
 | .int k,n=>[.s (.int k n)]
 | .bool,b=>[.s (.bool b)]
 | .str,b=>[.s (.string b)]
 | .sl s,l=>[.sl (List.flatMap s.enc l) (List.length l)]
 | .unit,_=>[]
 | .pair a b,x=>a.enc x.1++b.enc x.2
def Sh.arg:(s:Sh)->s.val->D
 | .int k,n=>.s (.int k n)
 | .bool,b=>.s (.bool b)
 | .str,b=>.s (.string b)
 | .sl s,l=>.sl (List.flatMap s.enc l) (List.length l)
 | .unit,_=>.agg []
 | .pair a b,x=>.agg (a.enc x.1++b.enc x.2)
def Sh.ok:(s:Sh)->s.val->Prop
 | .int k,n=>(Lit.int k n).wf=true
 | .bool,_=>True
 | .str,b=>ByteArray.size b<=maxLen
 | .sl s,l=>∀ x:s.val,List.Mem x l->s.ok x
 | .unit,_=>True
 | .pair a b,x=>a.ok x.1/\b.ok x.2
theorem Sh.enc_length:∀ (s:Sh) (x:s.val),(s.enc x).length=s.size
 | .int _,_ | .bool,_ | .str,_ | .sl _,_ | .unit,_=>rfl
 | .pair a b,x=>by simp[Sh.enc,Sh.size,Sh.enc_length a,Sh.enc_length b]
section
variable(P:Program)
def shFs(C:TypeId->Option Sh):Nat->List Field->Option Sh
 |_,[]=>some .unit
 |off,f::fs=>if f.offset=off then match C f.type,shFs C (off+P.cellsOf f.type) fs with
  |some a,some b=>some (.pair a b)
  |_,_=>none
  else none
def shT:Nat->TypeId->Option Sh
 |0,_=>none
 |n+1,t=>match P.underlying t with
  |some .bool=>if P.cellsOf t=1 then some .bool else none
  |some (.int k)=>if P.cellsOf t=1 then some (.int k) else none
  |some .string=>if P.cellsOf t=1 then some .str else none
  |some (.slice e)=>if P.cellsOf t=1/\0<P.cellsOf e then(shT n e).map .sl else none
  |some (.struct fs)=>match shFs P (shT n) 0 fs.toList with
   |some s=>if s.size=P.cellsOf t then some s else none
   |none=>none
  |_=>none
end
section
variable{P:Program}{H:Type}{ec:TypeId×Value->H}{w:World}{base:Nat}{spare:Nat->Bool}{held:Bool}
def Holds(w:World)(ds:List D)(cs:List Value):Prop:=ds.length=cs.length/\∀ (k:Nat) (d:D) (u:Value),ds[k]? =some d->cs[k]? =some u->R (fun _=>False) noRows w d u/\u.oneCell'=true
theorem Holds.app{ds J:List D}{cs cs':List Value}(h:Holds w ds cs)(h':Holds w J cs'):Holds w (ds++J) (cs++cs'):=by
 refine⟨by simp[h.1,h'.1],fun k d u hd C=>?_⟩;by_cases hk:k<ds.length
 .rw[List.getElem?_append_left hk] at hd;rw[List.getElem?_append_left (by have:=h.1;omega)] at C;exact h.2 k d u hd C
 .rw[List.getElem?_append_right oG] at hd;rw[List.getElem?_append_right (by have:=h.1;omega), <- h.1] at C;exact h'.2 (k - ds.length) d u hd C
theorem Holds.one{d:D}{u:Value}(h:R (fun _=>False) noRows w d u)(h':u.oneCell'=true):Holds w [d] [u]:=⟨rfl,fun k d' J hd C=>by
 cases k with
 |zero=>simp at hd C;subst hd C;exact⟨h,h'⟩
 |succ k=>simp at hd⟩
theorem Holds.nil:Holds w [] []:=⟨rfl,oS⟩
theorem shFs_nil{C:TypeId->Option Sh}{off:Nat}{s:Sh}(h:shFs P C off []=some s):s=.unit:=by
 simp only[shFs,aF] at h;exact h.symm
theorem shFs_cons{C:TypeId->Option Sh}{off:Nat}{f:Field}{fs:List Field}{s:Sh}(h:shFs P C off (f::fs)=some s):
 f.offset=off/\∃ a b,C f.type=some a/\shFs P C (off+P.cellsOf f.type) fs=some b/\s=.pair a b:=by
 simp only[shFs] at h;split at h
 .rename_i J;split at h
  .rename_i a b ha hb;simp only[aF] at h;exact⟨J,a,b,ha,hb,h.symm⟩
  .cases h
 .cases h
theorem shT_size:∀ (n:Nat) (t:TypeId) (s:Sh),shT P n t=some s->s.size=P.cellsOf t
 |0,_,_,h=>by cases h
 |n+1,t,s,h=>by
  unfold shT at h;split at h
  .split at h
   .rename_i h1;simp only[aF] at h;subst h;exact h1.symm
   .cases h
  .split at h
   .rename_i h1;simp only[aF] at h;subst h;exact h1.symm
   .cases h
  .split at h
   .rename_i h1;simp only[aF] at h;subst h;exact h1.symm
   .cases h
  .split at h
   .rename_i h1;simp only[cK] at h;obtain⟨a,_,rfl⟩:=h;exact h1.1.symm
   .cases h
  .split at h
   .split at h
    .rename_i h1;simp only[aF] at h;subst h;exact h1
    .cases h
   .cases h
  .cases h
def Reads(P:Program)(w:World)(C:TypeId->Option Sh)(rd:TypeId->List Value->Option (DataW H×List MemPlace)):Prop:=
 ∀ t s cs x,C t=some s->cs.length=P.cellsOf t->rd t cs=some x->∃ v:s.val,s.ok v/\Holds w (s.enc v) cs
theorem reads_fs{C:TypeId->Option Sh}{rd:TypeId->List Value->Option (DataW H×List MemPlace)}(J:∀ t s,C t=some s->s.size=P.cellsOf t)(h:Reads P w C rd){cs:List Value}:∀ (fs:List Field) (off:Nat) (s:Sh),shFs P C off fs=some s->off+s.size<=cs.length->
 (∀ f∈fs,∃ x,rd f.type ((cs.drop f.offset).take (P.cellsOf f.type))=some x)->∃ v:s.val,s.ok v/\Holds w (s.enc v) ((cs.drop off).take s.size)
 |[],off,s,hs,_,_=>by
  obtain rfl:=shFs_nil hs;exact⟨(),trivial,by simp[Sh.enc,Sh.size,Holds]⟩
 |f::fs,off,s,hs,hl,hr=>by
  obtain⟨kG,a,b,ha,hb,rfl⟩:=shFs_cons hs;obtain⟨x,hx⟩:=hr f oS;have jy:off+(a.size+b.size)<=cs.length:=hl;have bN:=J _ _ ha;rw[kG] at hx;obtain⟨v,zr,hv⟩:=h f.type a _ x ha (by simp only[List.length_take,List.length_drop];omega) hx;rw[<- bN] at hb hv;obtain⟨M,X,U⟩:=reads_fs J h fs (off+a.size) b hb oG fun g hg=>hr g (by simp[hg]);refine⟨(v,M),⟨zr,X⟩,?_⟩;have:=hv.app U;show Holds w (a.enc v++b.enc M) ((cs.drop off).take (a.size+b.size));rw[List.take_add,List.drop_drop];exact this
theorem cells_get{a:Addr}{n:Nat}{cs:List Value}(h:w.cells? base a n=some cs):cs.length=n/\∀ k,k<n->w.cell? (a.add k)=cs[k]? /\k<cs.length:=by
 unfold World.cells? at h;split at h
 .have hl:cs.length=n:=by simpa using mapM_some_length h
  exact⟨hl,fun k hk=>⟨mapM_some_get h k k (by simp[hk]),oG⟩⟩
 .cases h
theorem choose_list{α β:Type}{p:Nat->α->β->Prop}:∀ (n:Nat) (l:Nat->α),(∀ i,i<n->∃ y,p i (l i) y)->∃ ys:List β,ys.length=n/\∀ i (h:i<n) y,ys[i]? =some y->p i (l i) y
 |0,_,_=>⟨[],rfl,fun i h=>by omega⟩
 |n+1,l,h=>by
  obtain⟨ys,h1,h2⟩:=choose_list n l fun i hi=>h i oG;obtain⟨y,hy⟩:=h n oG;refine⟨ys++[y],by simp[h1],fun i hi z C=>?_⟩;by_cases J:i<n
  .rw[List.getElem?_append_left oG] at C;exact h2 i J z C
  .have:i=n:=by omega
   subst this;rw[List.getElem?_append_right oG] at C;simp[h1] at C;subst C;exact hy
theorem flat_get{α:Type}{f:α->List D}{sz:Nat}(C:∀ x,(f x).length=sz):∀ (l:List α) (i j:Nat),j<sz->(l.flatMap f)[i*sz+j]? =(l[i]?).bind fun x=>(f x)[j]?
 |[],i,j,_=>by simp
 |x::l,0,j,h=>by simp[List.getElem?_append_left (show j<(f x).length by rw[C];exact h)]
 |x::l,i+1,j,h=>by
  rw[List.flatMap_cons,List.getElem?_append_right (by rw[C,Nat.add_mul];omega)];have:(i+1)*sz+j - (f x).length=i*sz+j:=by rw[C,Nat.add_mul];omega
  rw[this,flat_get C l i j h];simp
theorem reads_T:∀ (gj n:Nat),Reads P w (shT P n) (DataW.trod ec P w base spare held gj)
 |gj,0,t,s,cs,x,h,_,_=>by cases h
 |gj,n+1,t,s,cs,x,h,hl,hr=>by
  have bN:=shT_size _ _ _ h;unfold shT at h;split at h
  .rename_i ht;split at h
   .simp only[aF] at h;subst h;obtain⟨b,rfl,_⟩:=DataW.trod_bool ht hr;exact⟨b,trivial,.one (.s _ rfl) rfl⟩
   .cases h
  .rename_i k ht;split at h
   .simp only[aF] at h;subst h;obtain⟨b,rfl,_,hw⟩:=DataW.trod_int ht hr;exact⟨b,hw,.one (.s _ rfl) rfl⟩
   .cases h
  .rename_i ht;split at h
   .simp only[aF] at h;subst h;obtain⟨b,rfl,_,hw⟩:=DataW.trod_string ht hr;exact⟨b,hw,.one (.s _ rfl) rfl⟩
   .cases h
  .rename_i e ht;split at h
   .rename_i hc;simp only[cK] at h;obtain⟨a,ha,rfl⟩:=h;have X:=shT_size _ _ _ ha;rcases DataW.trod_slice ht hr with⟨rfl,_⟩|⟨M,len,cap,L2,rest,U,rfl,rfl,_,hb,hlc,hm,hlen,zb,_,_⟩
    .exact⟨([]:List a.val),(fun x h=>nomatch h),.one (by exact .sln none 0) rfl⟩
    .have Nc:∀ i,i<len->∃ C:List Value,w.cells? base (M.add (i*P.cellsOf e)) (P.cellsOf e)=some C/\∃ y,DataW.trod ec P w base spare held U e C=some y:=fun i hi=>by
      have:=zb i hi;have hg:L2[i]? =some L2[i]:=by simp[hlen,hi]
      rw[hg,Option.bind_eq_some_iff] at this;obtain⟨C,h1,h2⟩:=this;exact⟨C,h1,_,h2⟩
     have yE:∀ i,i<len->∃ v:a.val,a.ok v/\∃ C,w.cells? base (M.add (i*P.cellsOf e)) (P.cellsOf e)=some C/\Holds w (a.enc v) C:=fun i hi=>by
      obtain⟨C,h1,y,h2⟩:=Nc i hi;obtain⟨v,zr,hv⟩:=reads_T U n e a C y ha (cells_get h1).1 h2;exact⟨v,zr,C,h1,hv⟩
     obtain⟨vs,qc,Oy⟩:=choose_list (p:=fun(i:Nat) (_:Nat) (v:a.val)=>a.ok v/\∃ C,w.cells? base (M.add (i*P.cellsOf e)) (P.cellsOf e)=some C/\Holds w (a.enc v) C) len (fun i=>i) yE
     have ZV:∀ x:a.val,x∈vs->a.ok x:=fun x hm=>by
      obtain⟨i,hx⟩:=dh hm;exact(Oy i (by have:=(bA.1 hx).1;omega) x hx).1
     cases len with
     |zero=>
      have:vs=[]:=List.length_eq_zero_iff.1 qc;subst this;exact⟨([]:List a.val),(fun x h=>nomatch h),.one (by exact .sln _ cap) rfl⟩
     |succ l=>
      obtain⟨C,h0,_⟩:=Nc 0 oG;have wA:=(cells_get h0).2 0 hc.2;simp only[Nat.zero_mul,Addr.add,if_true] at wA;obtain⟨b,o,sp⟩:=M;have Ay:∃ u,w.cell? ⟨b,o,sp⟩=some u:=⟨C[0],by rw[wA.1];simp[wA.2]⟩
      obtain⟨u0,J⟩:=Ay;unfold World.cell? at J
      have j3:b<w.heap.size:=by
       cases hh:w.heap[b]? with
       |none=>rw[hh] at J;cases J
       |some x=>exact(Array.getElem?_eq_some_iff.1 hh).1
      have mP:sp=none:=by
       cases sp with
       |none=>rfl
       |some q=>
        simp only at J;split at J
        .simp at J
        .cases J
      subst mP
      have ZW:∀ i j,((⟨b,o,none⟩:Addr).add i).add j=⟨b,o+(i+j),none⟩:=fun i j=>by
       unfold Addr.add;split<;>split<;>simp_all;omega
      have hk:∀ k d,(vs.flatMap a.enc)[k]? =some d->∃ u,w.cell? ⟨b,o+k,none⟩=some u/\R (fun _=>False) noRows w d u/\u.oneCell'=true:=fun k d hd=>by
       have jt:0<a.size:=by omega
       have yO:k / a.size*a.size+k % a.size=k:=by rw[Nat.mul_comm];exact Nat.div_add_mod k a.size
       have F8:=Nat.mod_lt k jt;rw[<- yO,flat_get a.enc_length _ _ _ F8,Option.bind_eq_some_iff] at hd;obtain⟨x,hx,hd⟩:=hd
       have hi:k / a.size<l+1:=by
        have:=(bA.1 hx).1;omega
       obtain⟨_,C,hci,hho⟩:=Oy _ hi x hx;obtain⟨h1,h2⟩:=(cells_get hci).2 (k % a.size) oG;rw[ZW, <- X,yO] at h1;refine⟨C[k % a.size],by rw[h1];simp[h2],hho.2 _ d _ hd (by simp[h2])⟩
      refine⟨vs,fun x h=>ZV x h,.one (by
       have FX:(List.length vs)=l+1:=qc;show R _ _ _ (.sl (List.flatMap a.enc vs) (List.length vs)) _;rw[FX];refine .sl _ _ b o cap (fun k=>(w.cell? ⟨b,o+k,none⟩).getD undef) oS (fun _ _ h=>by cases h) j3 hlc hm (fun k ue=>?_) fun k d hd=>?_
       .obtain⟨u,h1,_,h3⟩:=hk k _ (aL ue);simp[h1,h3]
       .obtain⟨u,h1,h2,_⟩:=hk k d hd
        simpa[h1] using h2) rfl⟩
   .cases h
  .rename_i fs ht;obtain⟨xs,U,rfl,_,_,Oa,qd⟩:=DataW.trod_struct ht hr;split at h
   .rename_i s' dE;split at h
    .rename_i hs;simp only[aF] at h;subst h
     obtain⟨v,zr,hv⟩:=reads_fs (P:=P) (w:=w) (fun t s=>shT_size n t s) (reads_T U n) (cs:=cs) fs.toList 0 s' dE oG fun f hf=>by
      obtain⟨i,hi,rfl⟩:=Array.getElem_of_mem (Array.mem_toList_iff.1 hf);have:=qd i fs[i] (by simp[hi]);exact⟨xs[i],by rw[this];simp[Oa,hi]⟩
     refine⟨v,zr,?_⟩;rw[List.drop_zero,cL oG] at hv;exact hv
    .cases h
   .cases h
  .cases h
theorem arg_R{r:Reach}{b0:Nat}{t:TypeId}{v:Value}{d:DataW H}{ps:List MemPlace}{n:Nat}{s:Sh}(C:shT P n t=some s)(hv:Value.okWide P w r b0 t v)(hd:DataW.Trod ec P w base spare held t v d ps):
 ∃ x:s.val,s.ok x/\R (fun _=>False) noRows w (s.arg x) v:=by
 cases n with
 |zero=>cases C
 |succ n=>
  obtain⟨gj,hf⟩:=hd;have hz:=shT_size _ _ _ C;have key:v.cells.toList.length=P.cellsOf t->∃ x:s.val,s.ok x/\Holds w (s.enc x) v.cells.toList:=fun hl=>reads_T gj (n+1) t s _ _ C hl hf;unfold shT at C;split at C
  .rename_i ht;obtain⟨b,rfl⟩:=okWide_bool ht hv;split at C
   .simp only[aF] at C;subst C;exact⟨b,trivial,.s _ rfl⟩
   .cases C
  .rename_i k ht;obtain⟨b,rfl⟩:=okWide_int ht hv;split at C
   .simp only[aF] at C;subst C;obtain⟨c,hc,_,U⟩:=DataW.trod_int ht hf;simp[Value.cells] at hc;subst hc;exact⟨b,U,.s _ rfl⟩
   .cases C
  .rename_i ht;obtain⟨b,rfl⟩:=okWide_string ht hv;split at C
   .simp only[aF] at C;subst C;obtain⟨c,hc,_,U⟩:=DataW.trod_string ht hf;simp[Value.cells] at hc;subst hc;exact⟨b,U,.s _ rfl⟩
   .cases C
  .rename_i e ht;obtain⟨a,len,cap,rfl⟩:=okWide_slice ht hv;split at C
   .rename_i h1;simp only[cK] at C;obtain⟨q,_,rfl⟩:=C;obtain⟨x,M,hx⟩:=key h1.1.symm;exact⟨x,M,(hx.2 0 _ _ rfl rfl).1⟩
   .cases C
  .rename_i fs ht;obtain⟨cs,rfl,bN⟩:=okWide_struct ht hv;obtain⟨x,M,hx⟩:=key (by simpa[Value.cells] using bN);refine⟨x,M,?_⟩
   have ha:s.arg x=.agg (s.enc x):=by
    split at C
    .rename_i s' J;split at C
     .simp only[aF] at C;subst C;cases X:fs.toList with
      |nil=>
       rw[X] at J;obtain rfl:=shFs_nil J;rfl
      |cons f BG=>
       rw[X] at J;obtain⟨_,a,b,_,_,rfl⟩:=shFs_cons J;rfl
     .cases C
    .cases C
   rw[ha];have:=hx.1;simp only[Value.cells] at this hx;have e:cs=cs.toList.toArray:=by simp
   rw[e];exact .agg _ cs.toList this.symm fun k d v h1 h2=>(hx.2 k d v h1 h2).1
  .cases C
theorem flat_one{α β:Type}(f:α->β):∀ l:List α,(l.flatMap fun x=>[f x])=l.map f
 |[]=>rfl
 |x::l=>by rw[List.flatMap_cons,flat_one f l];rfl
theorem flat_congr{α β γ:Type}{f:α->List γ}{g:β->List γ}{h:α->β}(he:∀ x,f x=g (h x)):∀ l:List α,l.flatMap f=(l.map h).flatMap g
 |[]=>rfl
 |x::l=>by rw[List.flatMap_cons,List.map_cons,List.flatMap_cons,he,flat_congr he l]
end
end Go.Abs
namespace Go.Argus
open Go.Abs
abbrev ma:Sh:=.int .i64
abbrev yG:Sh:=.int .u8
abbrev ye:Sh:=.pair yG (.pair ma (.pair ma (.pair ma (.pair ma (.pair (.sl ma) .unit)))))
abbrev Ao:Sh:=.pair .str (.pair ma .unit)
abbrev AM:Sh:=.pair yG (.pair ma (.pair ma (.pair ma (.pair ma (.pair .str (.pair ye (.pair (.sl ma) (.pair (.sl Ao) (.pair ma .unit)))))))))
abbrev Ag:Sh:=.pair (.sl ye) (.pair AM .unit)
abbrev tx:Sh:=.pair .str (.pair .bool (.pair ma (.pair yG (.pair (.sl yG) (.pair (.sl yG) (.pair (.sl .str) (.pair (.sl Ag) .unit)))))))
def Ek(x:ye.val):bd:=⟨x.1,x.2.1,x.2.2.1,x.2.2.2.1,x.2.2.2.2.1,x.2.2.2.2.2.1⟩
def Ks(x:Ao.val):hP:=⟨x.1,x.2.1⟩
def L3(x:AM.val):End:=⟨x.1,x.2.1,x.2.2.1,x.2.2.2.1,x.2.2.2.2.1,x.2.2.2.2.2.1,Ek x.2.2.2.2.2.2.1,x.2.2.2.2.2.2.2.1,List.map Ks x.2.2.2.2.2.2.2.2.1,x.2.2.2.2.2.2.2.2.2.1⟩
def Jo(x:Ag.val):bu:=⟨List.map Ek x.1,L3 x.2.1⟩
def Kt(x:tx.val):aA:=⟨x.1,x.2.1,x.2.2.1,x.2.2.2.1,x.2.2.2.2.1,x.2.2.2.2.2.1,x.2.2.2.2.2.2.1,List.map Jo x.2.2.2.2.2.2.2.1⟩
theorem Ap{k:IntKind}(l:List Int):D.sl (List.flatMap (Sh.enc (.int k)) l) l.length=.sl (l.map fun n=>.s (.int k n)) l.length:=congrArg (D.sl · l.length) (flat_one (fun n=>D.s (.int k n)) l)
theorem TY(l:List ByteArray):D.sl (List.flatMap (Sh.enc .str) l) l.length=mY l:=congrArg (D.sl · l.length) (flat_one S l)
theorem El{s:Sh}{β:Type}{g:β->List D}{h:s.val->β}(he:∀ x,s.enc x=g (h x))(l:List s.val):D.sl (List.flatMap s.enc l) l.length=.sl ((l.map h).flatMap g) (l.map h).length:=by
 rw[flat_congr he l,List.length_map]
theorem c1'{α β:Type}(f:α->β){a a':α}(h:a=a'):f a=f a':=by rw[h]
theorem c2'{α β γ:Type}(f:α->β->γ){a a':α}{b C:β}(h:a=a')(h2:b=C):f a b=f a' C:=by rw[h,h2]
theorem c3'{α β γ δ:Type}(f:α->β->γ->δ){a a':α}{b C:β}{c J:γ}(h:a=a')(h2:b=C)(h3:c=J):f a b c=f a' C J:=by rw[h,h2,h3]
theorem c4'{α β γ δ ε:Type}(f:α->β->γ->δ->ε){a a':α}{b C:β}{c J:γ}{d d':δ}(h:a=a')(h2:b=C)(h3:c=J)(h4:d=d'):f a b c d=f a' C J d':=by rw[h,h2,h3,h4]
theorem Jp(x:ye.val):ye.enc x=a8 (Ek x):=
 c1' (fun q=>[U8 x.1,I x.2.1,I x.2.2.1,I x.2.2.2.1,I x.2.2.2.2.1,q]) (Ap (k:=.i64) x.2.2.2.2.2.1)
theorem Sf(x:Ao.val):Ao.enc x=jh (Ks x):=rfl
theorem Tb(x:AM.val):AM.enc x=aW (L3 x):=
 c3' (fun a b c=>[U8 x.1,I x.2.1,I x.2.2.1,I x.2.2.2.1,I x.2.2.2.2.1,S x.2.2.2.2.2.1]++(a++[b,c,I x.2.2.2.2.2.2.2.2.2.1])) (Jp x.2.2.2.2.2.2.1) (Ap (k:=.i64) x.2.2.2.2.2.2.2.1) (El Sf x.2.2.2.2.2.2.2.2.1)
theorem Q1(x:Ag.val):Ag.enc x=dS (Jo x):=by
 have:=c2' (fun a b=>a::(b++[])) (El Jp x.1) (Tb x.2.1);refine Eq.trans this ?_;rw[List.append_nil];rfl
theorem R3(x:tx.val):tx.arg x=.agg (ay (Kt x)):=
 c4' (fun a b c d=>D.agg [S x.1,B x.2.1,I x.2.2.1,U8 x.2.2.2.1,a,b,c,d]) (Ap (k:=.u8) x.2.2.2.2.1) (Ap (k:=.u8) x.2.2.2.2.2.1) (TY x.2.2.2.2.2.2.1) (El Q1 x.2.2.2.2.2.2.2.1)
end Go.Argus
namespace Go.Abs
open Go.Argus
class V{α:Type}(x:α)(y:outParam α):Prop where h:x=y
section
variable{P:Program}{Y:YSpec}{ops:Array Oper}{dr:Bool}{cf:List (Nat×Nat)}{Q:Exit->St->Prop}{r:List Oper}{v:Env}{m:Mem}{n:Nat}{q:Tra}{x:Oper}{s:St}{e:List Nat×List Nat}
variable{t:Option Nat}{u:Nat}{ty:TypeId}{pos:String}{after:Array Edge}{j:Nat}{b c:Bool}{op:Op}
def SO(P:Program)(Y:YSpec)(ops:Array Oper)(dr:Bool)(o:Oper)(v:Env)(m:Mem)(n:Nat)(s:St)(e:List Nat×List Nat):Prop:=
 ∀ cf Q r q,AOps P Y ops dr cf Q r s (q++[e])->AOps P Y ops dr cf Q (o::r) ⟨v,m,n⟩ q
theorem ak{l:List Operand}(h:fL v l:=by repeat' (first|exact trivial|exact hc|exact rfl|refine And.intro ?_ ?_)):fL v l:=h
theorem z(K:∀ (x:D) rd,AOps P Y ops dr cf Q r (St.put ⟨v,m,n⟩ t (.opt false x)) (q++[(rd,[])]))(hj:(ops[j]?).bind (·.dst)=some u:=by exact rfl)(hg:guardC (v u) b=some false:=by exact rfl):
 AOps P Y ops dr cf Q (⟨t,op,ty,pos,after,some (j,b)⟩::r) ⟨v,m,n⟩ q:=KJ hj hg K
theorem cl{f:FuncId}{gs:List D}{d:D}{t:Nat}(h:PCall P f gs d)(K:AOps P Y ops dr cf Q r ⟨up v t d,m,n⟩ (q++[([],[])]))(hc:callD (rho v op) op=some (f,gs):=by exact rfl)(ha:fL v op.operands.toList:=by exact ak):
 AOps P Y ops dr cf Q (⟨some t,op,ty,pos,after,none⟩::r) ⟨v,m,n⟩ q:=Um h hc ha K
theorem gc{f:FuncId}{gs:List D}{d:D}{t:Nat}(h:PCall P f gs d)(K:AOps P Y ops dr cf Q r ⟨up v t (.opt c d),m,n⟩ (q++[([],[])]))(hj:(ops[j]?).bind (·.dst)=some u:=by exact rfl)(hg:guardC (v u) b=some c:=by exact rfl)(hl:callD (rho v op) op=some (f,gs):=by exact rfl)(ha:c=true->fL v op.operands.toList:=by exact fun hc=>ak):
 AOps P Y ops dr cf Q (⟨some t,op,ty,pos,after,some (j,b)⟩::r) ⟨v,m,n⟩ q:=Dx hj hg hl (fun hc=>⟨ha hc,h⟩) K
theorem J67(K:AOps P Y ops dr cf Q r s (q++[e]))(h:SO P Y ops dr x v m n s e:=by intro _ _ _ _ k;exact bl rfl rfl (gZ (v:=.pt _) rfl) (fun hc=>⟨ak,trivial⟩) k):AOps P Y ops dr cf Q (x::r) ⟨v,m,n⟩ q:=h _ _ _ _ K
theorem J84(K:AOps P Y ops dr cf Q r s (q++[e]))(h:SO P Y ops dr x v m n s e:=by intro _ _ _ _ k;exact bl rfl rfl (Jv rfl) (fun hc=>⟨ak,trivial⟩) k):AOps P Y ops dr cf Q (x::r) ⟨v,m,n⟩ q:=h _ _ _ _ K
theorem NY(K:AOps P Y ops dr cf Q r s (q++[e]))(h:SO P Y ops dr x v m n s e:=by intro _ _ _ _ k;exact aD (nP (v:=.s (.pointer none)) rfl rfl) ak (by first|decide|simp) k):AOps P Y ops dr cf Q (x::r) ⟨v,m,n⟩ q:=h _ _ _ _ K
theorem NZ(K:AOps P Y ops dr cf Q r s (q++[e]))(h:SO P Y ops dr x v m n s e:=by intro _ _ _ _ k;exact aD (nP (v:=.pt _) rfl rfl) ak (by first|decide|simp) k):AOps P Y ops dr cf Q (x::r) ⟨v,m,n⟩ q:=h _ _ _ _ K
theorem Mi(K:AOps P Y ops dr cf Q r s (q++[e]))(h:SO P Y ops dr x v m n s e:=by intro _ _ _ _ k;exact aD (TT rfl rfl Mg) ak ⟨rfl,by omega⟩ k):AOps P Y ops dr cf Q (x::r) ⟨v,m,n⟩ q:=h _ _ _ _ K
theorem ach(K:AOps P Y ops dr cf Q r s (q++[e]))(h:SO P Y ops dr x v m n s e:=by intro _ _ _ _ k;exact aD (dQ rfl av V.h V.h (jT (by first|rfl|exact bn rfl|(simp;done)|(simp;omega)|omega))) ak (dR V.h V.h (by first|rfl|exact bn rfl|(simp;done)|(simp;omega)|omega)) k):AOps P Y ops dr cf Q (x::r) ⟨v,m,n⟩ q:=h _ _ _ _ K
theorem Y1(K:AOps P Y ops dr cf Q r s (q++[e]))(h:SO P Y ops dr x v m n s e:=by intro _ _ _ _ k;exact bl rfl rfl (DP rfl rfl) (fun hc=>⟨ak,rfl⟩) k):AOps P Y ops dr cf Q (x::r) ⟨v,m,n⟩ q:=h _ _ _ _ K
theorem aci(K:AOps P Y ops dr cf Q r s (q++[e]))(h:SO P Y ops dr x v m n s e:=by intro _ _ _ _ k;exact bl rfl rfl (jI (vs:=ay _) rfl V.h V.h rfl) (fun hc=>⟨ak,(jJ V.h V.h (by simp))⟩) k):AOps P Y ops dr cf Q (x::r) ⟨v,m,n⟩ q:=h _ _ _ _ K
theorem MT(K:AOps P Y ops dr cf Q r s (q++[e]))(h:SO P Y ops dr x v m n s e:=by intro _ _ _ _ k;exact aD (dQ (vs:=ay _) rfl rfl V.h V.h rfl) ak (dR V.h V.h (by first|(simp;done)|omega|exact bn rfl)) k):AOps P Y ops dr cf Q (x::r) ⟨v,m,n⟩ q:=h _ _ _ _ K
theorem Mj(K:AOps P Y ops dr cf Q r s (q++[e]))(h:SO P Y ops dr x v m n s e:=by intro _ _ _ _ k;exact aD (TU rfl rfl Mh) ak ⟨rfl,by omega⟩ k):AOps P Y ops dr cf Q (x::r) ⟨v,m,n⟩ q:=h _ _ _ _ K
theorem MH(K:AOps P Y ops dr cf Q r s (q++[e]))(h:SO P Y ops dr x v m n s e:=by intro _ _ _ _ k;exact cE (gl (d:=.s (.bool _)) (cs':=_) rfl rfl eO rfl rfl) ak (dx V.h V.h (by first|(simp;done)|exact⟨rfl,bn rfl⟩|(simp;omega)) rfl) k):AOps P Y ops dr cf Q (x::r) ⟨v,m,n⟩ q:=h _ _ _ _ K
theorem M6(K:AOps P Y ops dr cf Q r s (q++[e]))(h:SO P Y ops dr x v m n s e:=by intro _ _ _ _ k;exact bl rfl rfl (JI rfl rfl sm) (fun hc=>⟨ak,rfl⟩) k):AOps P Y ops dr cf Q (x::r) ⟨v,m,n⟩ q:=h _ _ _ _ K
theorem Mr(K:AOps P Y ops dr cf Q r s (q++[e]))(h:SO P Y ops dr x v m n s e:=by intro _ _ _ _ k;exact aD (JJ rfl rfl qM) ak rfl k):AOps P Y ops dr cf Q (x::r) ⟨v,m,n⟩ q:=h _ _ _ _ K
theorem MB(K:AOps P Y ops dr cf Q r s (q++[e]))(h:SO P Y ops dr x v m n s e:=by intro _ _ _ _ k;exact aD (TB rfl rfl V.h V.h (by assumption) (by assumption)) ak (TC V.h (by assumption) (by assumption) oG) k):AOps P Y ops dr cf Q (x::r) ⟨v,m,n⟩ q:=h _ _ _ _ K
theorem MC(K:AOps P Y ops dr cf Q r s (q++[e]))(h:SO P Y ops dr x v m n s e:=by intro _ _ _ _ k;exact aD (jI rfl V.h V.h (RE (by assumption))) ak (jJ V.h V.h (by simp;omega)) k):AOps P Y ops dr cf Q (x::r) ⟨v,m,n⟩ q:=h _ _ _ _ K
theorem acj(K:AOps P Y ops dr cf Q r s (q++[e]))(h:SO P Y ops dr x v m n s e:=by intro _ _ _ _ k;exact cE (fR rfl rfl rfl (S' (by first|rfl|exact bn rfl|(simp;done)|(simp;omega)|omega) (by first|rfl|exact bn rfl|(simp;done)|(simp;omega)|omega))) ak (Se (by first|rfl|exact bn rfl|(simp;done)|(simp;omega)|omega) (by first|rfl|exact bn rfl|(simp;done)|(simp;omega)|omega) (by first|rfl|exact iZ _|(simp[iZ];done)|exact CD)) k):AOps P Y ops dr cf Q (x::r) ⟨v,m,n⟩ q:=h _ _ _ _ K
theorem ack(K:AOps P Y ops dr cf Q r s (q++[e]))(h:SO P Y ops dr x v m n s e:=by intro _ _ _ _ k;exact cE (fR rfl rfl av (S' (by first|rfl|exact bn rfl|(simp;done)|(simp;omega)|omega) (by first|rfl|exact bn rfl|(simp;done)|(simp;omega)|omega))) ak (Se (by first|rfl|exact bn rfl|(simp;done)|(simp;omega)|omega) (by first|rfl|exact bn rfl|(simp;done)|(simp;omega)|omega) (by first|rfl|exact iZ _|(simp[iZ];done)|exact CD)) k):AOps P Y ops dr cf Q (x::r) ⟨v,m,n⟩ q:=h _ _ _ _ K
theorem Ms(K:AOps P Y ops dr cf Q r s (q++[e]))(h:SO P Y ops dr x v m n s e:=by intro _ _ _ _ k;exact aD (DN rfl rfl) ak rfl k):AOps P Y ops dr cf Q (x::r) ⟨v,m,n⟩ q:=h _ _ _ _ K
theorem MG(K:AOps P Y ops dr cf Q r s (q++[e]))(h:SO P Y ops dr x v m n s e:=by intro _ _ _ _ k;exact aD (Cv (cs:=aZ _ _ _) V.h V.h V.h rfl rfl) ak ⟨V.h,V.h⟩ k):AOps P Y ops dr cf Q (x::r) ⟨v,m,n⟩ q:=h _ _ _ _ K
theorem Mo(K:AOps P Y ops dr cf Q r s (q++[e]))(h:SO P Y ops dr x v m n s e:=by intro _ _ _ _ k;exact cE (gl (d:=.s (.int _ _)) (cs':=[_]) rfl rfl rfl rfl rfl) ak (dx V.h V.h (by first|(simp;done)|exact⟨rfl,bn rfl⟩|(simp;omega)) rfl) k):AOps P Y ops dr cf Q (x::r) ⟨v,m,n⟩ q:=h _ _ _ _ K
theorem Mk(K:AOps P Y ops dr cf Q r s (q++[e]))(h:SO P Y ops dr x v m n s e:=by intro _ _ _ _ k;exact aD (T8 rfl rfl) ak rfl k):AOps P Y ops dr cf Q (x::r) ⟨v,m,n⟩ q:=h _ _ _ _ K
theorem Yd(K:AOps P Y ops dr cf Q r s (q++[e]))(h:SO P Y ops dr x v m n s e:=by intro _ _ _ _ k;exact aD (T9 rfl rfl) ak oG k):AOps P Y ops dr cf Q (x::r) ⟨v,m,n⟩ q:=h _ _ _ _ K
theorem Ye(K:AOps P Y ops dr cf Q r s (q++[e]))(h:SO P Y ops dr x v m n s e:=by intro _ _ _ _ k;exact aD (Xw rfl rfl) ak rfl k):AOps P Y ops dr cf Q (x::r) ⟨v,m,n⟩ q:=h _ _ _ _ K
theorem Yp(K:AOps P Y ops dr cf Q r s (q++[e]))(h:SO P Y ops dr x v m n s e:=by intro _ _ _ _ k;exact aD (kn (v:=.fn _ _ _) rfl) ak trivial k):AOps P Y ops dr cf Q (x::r) ⟨v,m,n⟩ q:=h _ _ _ _ K
theorem Mn(K:AOps P Y ops dr cf Q r s (q++[e]))(h:SO P Y ops dr x v m n s e:=by intro _ _ _ _ k;exact aD (gd rfl (up_same _ _ _) rfl V.h) ak (gf V.h V.h rfl) k):AOps P Y ops dr cf Q (x::r) ⟨v,m,n⟩ q:=h _ _ _ _ K
theorem Mp(K:AOps P Y ops dr cf Q r s (q++[e]))(h:SO P Y ops dr x v m n s e:=by intro _ _ _ _ k;exact cE (gl (d:=.rs _ _ _) (cs':=[_]) rfl rfl (aw oG (aw oG av)) rfl rfl) ak (dx V.h V.h (by first|(simp;done)|exact⟨rfl,bn rfl⟩|(simp;omega)) rfl) k):AOps P Y ops dr cf Q (x::r) ⟨v,m,n⟩ q:=h _ _ _ _ K
theorem Mq(K:AOps P Y ops dr cf Q r s (q++[e]))(h:SO P Y ops dr x v m n s e:=by intro _ _ _ _ k;exact cE (gl (d:=.rs _ _ _) (cs':=[_]) rfl rfl (aw oG (aw oG (aw oG av))) rfl rfl) ak (dx V.h V.h (by first|(simp;done)|exact⟨rfl,bn rfl⟩|(simp;omega)) rfl) k):AOps P Y ops dr cf Q (x::r) ⟨v,m,n⟩ q:=h _ _ _ _ K
theorem Mu(K:AOps P Y ops dr cf Q r s (q++[e]))(h:SO P Y ops dr x v m n s e:=by intro _ _ _ _ k;exact bl rfl rfl (JK rfl rfl ja) (fun hc=>⟨ak,rfl⟩) k):AOps P Y ops dr cf Q (x::r) ⟨v,m,n⟩ q:=h _ _ _ _ K
theorem MJ(K:AOps P Y ops dr cf Q r s (q++[e]))(h:SO P Y ops dr x v m n s e:=by intro _ _ _ _ k;exact cE (gl (d:=.rs _ _ _) (cs':=[_]) rfl rfl rfl rfl rfl) ak (dx V.h V.h (by first|(simp;done)|exact⟨rfl,bn rfl⟩|(simp;omega)) rfl) k):AOps P Y ops dr cf Q (x::r) ⟨v,m,n⟩ q:=h _ _ _ _ K
theorem Zo(K:AOps P Y ops dr cf Q r s (q++[e]))(h:SO P Y ops dr x v m n s e:=by intro _ _ _ _ k;exact aD (Ti rfl rfl) ak V.h k):AOps P Y ops dr cf Q (x::r) ⟨v,m,n⟩ q:=h _ _ _ _ K
theorem Za(K:AOps P Y ops dr cf Q r s (q++[e]))(h:SO P Y ops dr x v m n s e:=by intro _ _ _ _ k;exact bl rfl rfl (Jt rfl rfl) (fun hc=>⟨ak,V.h⟩) k):AOps P Y ops dr cf Q (x::r) ⟨v,m,n⟩ q:=h _ _ _ _ K
variable{rf:Bool}{W:Exit->St->Prop}{o:Array Oper}{B:Code}{i:Nat}{k:St}
theorem ws[dC Y](h:AOps P Y o false [] (eX fun k=>AW P Y rf B W k) o.toList k []):AW P Y rf (.seq (.region i o false) B) W k:=aj h
theorem er[dC Y](h:AOps P Y o false [] (eX fun k=>AW P Y rf B W k) o.toList k []):AOps P Y ops dr [] (eX fun k=>AW P Y rf (.seq (.region i o false) B) W k) [] k q:=ab (aj h)
end
end Go.Abs
theorem eH{p:Prop}(h:p:=by repeat' (first|exact trivial|exact rfl|refine And.intro ?_ ?_)):p:=h
