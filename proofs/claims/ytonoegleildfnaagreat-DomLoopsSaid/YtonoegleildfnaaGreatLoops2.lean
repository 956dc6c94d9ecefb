/- Part 2 of the proof; the last part says what is proved. -/
import Derived.Test.YtonoegleildfnaaGreatLoops1
import Derived.IntWalk
import Derived.RangeFuncRecord
import Derived.Scope
import Derived.Test.YtonoegleildfnaaGreatChecked
namespace Go.Abs
section
variable{P:Program}{F:Nat->Prop}
theorem NR{β β':Pla}{w:World}{m:Mem}(hm:MSim P F m β w){i:Nat}{cs:List D}{e:TypeId}(aA:m i=some (.cells cs e))(hβ:β'=up β i (some .dead)){d:D}{v:Value}(h:R F β w d v):
 R F β' w (fz0 i cs (P.cellsOf e) d) v:=by
 have hs:Step β w β' w:=by rw[hβ];exact step_dead β w i
 have U:=h.step hs;obtain⟨p,hp,hr⟩:=hm.row i _ aA;unfold fz0;split
 .rename_i j off n;split
  .rename_i X;subst X;cases h with
   |rsd _ _ _ _ h1 _=>
    rw[h1] at hp;cases hp;cases hr
   |rsn _ a h1=>
    rw[h1] at hp;cases hp;cases hr;simp only[List.drop_nil,List.take_nil];exact .sln a 0
   |rsz _ _ a b o len room sz h1=>
    simp only[Nat.zero_mul,List.take_zero];exact .sln a 0
   |rs _ _ _ cap b o len room sz h1 hn ej h2 h3=>
    rw[h1] at hp;cases hp;have J:β j=some (.cells b o len room sz):=h1;obtain⟨cY,hl,bX,_⟩:=hr.rd;have M:=(cY.drop off).take (n*P.cellsOf e);obtain⟨us,u1,u2⟩:=M;refine .sl _ n b (o+off) cap us (hm.nf j _ b J rfl) ?_ (hm.lt j _ b J rfl) hn ej u1 fun k d hk=>(u2 k d hk).step hs;rw[hβ];intro k q hq;by_cases C:k=j
    .subst C;rw[up_same] at hq;cases hq;simp[Pl.blk]
    .rw[up_ne _ _ C] at hq;exact hm.free_other J rfl hq C
  .exact U
 .rename_i j off;split
  .rename_i X;subst X;cases h with
   |rpd _ _ _ h1 _=>
    rw[h1] at hp;cases hp;cases hr
   |rp _ _ b o len room sz h1=>
    rw[h1] at hp;cases hp;obtain⟨cY,hl,bX,_⟩:=hr.rd;obtain⟨us,u1,u2⟩:=cY.drop off;refine .pt _ b (o+off) us (hm.nf j _ b h1 rfl) ?_ (hm.lt j _ b h1 rfl) u1 fun k d hk=>(u2 k d hk).step hs;rw[hβ];intro k q hq;by_cases C:k=j
    .subst C;rw[up_same] at hq;cases hq;simp[Pl.blk]
    .rw[up_ne _ _ C] at hq;exact hm.free_other h1 rfl hq C
  .exact U
 .exact U
theorem aaJ{β β':Pla}{w:World}{m:Mem}(hm:MSim P F m β w){i:Nat}{es:List (Value×D)}(aA:m i=some (.map es))(U:β'=up β i (some .dead)){d:D}{v:Value}(h:R F β w d v):R F β' w (fm0 i es d) v:=by
 have J:Step β w β' w:=by rw[U];exact step_dead β w i
 unfold fm0;split
 .rename_i j;split
  .rename_i X;subst X;obtain⟨r,ms,clock,h1,rfl,h3,h4,h5,M⟩:=h.mp_inv hm aA;refine .im es r ms clock (hm.nf j _ r h1 rfl) ?_ h3 h4 h5 (fun k x m hx hm=>(M k x m hx hm).1) fun k x m hx hm=>(M k x m hx hm).2.step J;rw[U];intro k q hq;by_cases C:k=j
   .subst C;rw[up_same] at hq;cases hq;simp[Pl.blk]
   .rw[up_ne _ _ C] at hq;exact hm.free_other h1 rfl hq C
  .exact h.step J
 .exact h.step J
section subst
variable{σ:D->D}{β β':Pla}{w:World}
theorem M0(C:∀ {d v},R F β w d v->R F β' w (σ d) v){d:D}{v:Value}(h:R F β w d v):R F β' w (sub1 σ d) v:=by
 unfold sub1;split
 .rename_i ds;obtain⟨vs,rfl,hl,M⟩:=h.agg_inv;refine .agg _ vs (by simpa using hl) fun k d v hd hv=>?_;simp only[List.getElem?_map,Option.map_eq_some_iff] at hd;obtain⟨d',J,rfl⟩:=hd;exact C (M k d' v J hv)
 .cases h with
  |opt c d _ h1 h2=>exact .opt _ _ v (fun hc=>C (h1 hc)) h2
 .exact C h
theorem HQ(J:∀ {d v},R F β w d v->R F β' w (σ d) v){d:D}{v:Value}(h:R F β w d v):R F β' w (sub σ d) v:=by
 have map:∀ (ds:List D) (vs:List Value),(∀ (k:Nat) (d:D) (v:Value),ds[k]? =some d->vs[k]? =some v->R F β w d v)->
  ∀ (k:Nat) (d:D) (v:Value),(ds.map (sub1 σ))[k]? =some d->vs[k]? =some v->R F β' w d v:=fun ds vs C k d v hd hv=>by
  simp only[List.getElem?_map,Option.map_eq_some_iff] at hd;obtain⟨d',M,rfl⟩:=hd;exact M0 J (C k d' v M hv)
 unfold sub;split
 .rename_i ds;obtain⟨vs,rfl,hl,C⟩:=h.tup_inv;exact .tup _ vs (by simpa using hl) (map ds vs C)
 .rename_i f fs ds;cases h with
  |fn _ _ _ us vs hl iS h1 h2=>exact .fn f _ _ us vs (by simpa using hl) (by simpa using iS) (map fs us h1) (map ds vs h2)
 .exact M0 J h
theorem ab3(M:∀ {d v},R F β w d v->R F β' w (σ d) v)(X:Step β w β' w){r:Row}{p:Pl}(h:RowR P F β w r p):RowR P F β' w (r.sub σ) p:=by
 cases h with
 |nil e'=>exact .nil e'
 |cells ds e' b o room sz c hc hr hlen bX C=>
  have:=RowR.cells (P:=P) (F:=F) (β:=β') (w:=w) (ds.map (Abs.sub σ)) e' b o room sz c hc hr (by simpa using hlen) bX fun k d hk=>by
   simp only[List.getElem?_map,Option.map_eq_some_iff] at hk;obtain⟨d',U,rfl⟩:=hk;obtain⟨v,h1,h2,h3⟩:=C k d' U;exact⟨v,h1,HQ M h2,h3⟩
  simpa[Row.sub] using this
 |map es r ms clock hc hl dw C=>
  refine .map _ r ms clock hc (by simpa using hl) (by simpa[List.map_map,Function.comp_def] using dw) fun k x mm hk J=>?_;simp only[List.getElem?_map,Option.map_eq_some_iff] at hk;obtain⟨x',vn,rfl⟩:=hk;obtain⟨h1,h2⟩:=C k x' mm vn J;exact⟨h1,HQ M h2⟩
 |raw r o hc=>exact .raw r o hc
 |ren f r _ F₂ h1 h2 h=>exact(RowR.ren f r p F₂ h1 h2 h).step X fun _ _=>rfl
end subst
theorem Mt{σ:D->D}{env:Env}{m:Mem}{nx i:Nat}{row:Row}(h:m i=some row){w:World}{a:Act}{β:Pla}(J:eK P F ⟨env,m,nx⟩ β w a)(X:∀ {d v},R F β w d v->R F (up β i (some .dead)) w (σ d) v):
 ∃ β',eK P F ⟨fun t=>sub σ (env t),fun j=>if j=i then none else(m j).map (Row.sub σ),nx⟩ β' w a/\gV nx β w a ⟨fun t=>sub σ (env t),fun j=>if j=i then none else(m j).map (Row.sub σ),nx⟩ β' w a:=by
 have U:=step_dead β w i;have hm:=J.m;simp only at hm
 have M:∀ j q b,up β i (some .dead) j=some q->q.blk=some b->j≠i/\β j=some q:=fun j q b hq e=>by
  by_cases hj:j=i
  .subst hj;rw[up_same] at hq;cases hq;simp[Pl.blk] at e
  .rw[up_ne _ _ hj] at hq;exact⟨hj,hq⟩
 have hi:∃ p,β i=some p:=by
  obtain⟨p,hp,_⟩:=hm.row i _ h;exact⟨p,hp⟩
 refine⟨up β i (some .dead),⟨fun t=>HQ X (J.e t),⟨fun j r hj=>?_,fun j k q q' b hq gC e1 e2=>hm.inj j k q q' b (M j q b hq e1).2 (M k q' b gC e2).2 e1 e2,
  fun j q b hq e1=>hm.lt j q b (M j q b hq e1).2 e1,fun j q b hq e1=>hm.nf j q b (M j q b hq e1).2 e1,hm.fb⟩,fun j hj=>?_⟩,⟨U,Nat.le_refl _,fun j hj hn=>?_,rfl,rfl⟩⟩
 .simp only at hj;by_cases C:j=i
  .rw[if_pos C] at hj;cases hj
  .rw[if_neg C] at hj;simp only[Option.map_eq_some_iff] at hj;obtain⟨r',g9,rfl⟩:=hj;obtain⟨q,hq,aA⟩:=hm.row j r' g9;exact⟨q,by rw[up_ne _ _ C];exact hq,ab3 X U aA⟩
 .have C:j≠i:=fun e1=>by
   subst e1;obtain⟨p,hp⟩:=hi;rw[J.n j hj] at hp;cases hp
  rw[up_ne _ _ C];exact J.n j hj
 .have C:j≠i:=fun e1=>by
   subst e1;obtain⟨p,hp⟩:=hi;rw[hn] at hp;cases hp
  rw[up_ne _ _ C];exact hn
theorem aaK{β:Pla}{w:World}{cs cs':List D}{e:TypeId}{p:Pl}(hl:cs'.length=cs.length)(M:∀ (k:Nat) (d d':D),cs[k]? =some d->cs'[k]? =some d'->Wk d d')(h:RowR P F β w (.cells cs e) p):RowR P F β w (.cells cs' e) p:=by
 cases h with
 |nil _=>
  have:cs'=[]:=List.length_eq_zero_iff.1 (by simpa using hl);subst this;exact .nil e
 |cells _ _ b o room sz c hc hr hlen bX J=>
  rw[<- hl];refine .cells cs' e b o room sz c hc hr oG bX fun k d' C=>?_;have hk:k<cs.length:=by rw[<- hl];exact(List.getElem?_eq_some_iff.1 C).1
  obtain⟨v,h1,h2,h3⟩:=J k cs[k] (by simp[hk]);exact⟨v,h1,M k cs[k] d' (by simp[hk]) C _ _ _ _ h2,h3⟩
theorem Mu{st st':St}(h:Ghost P st st'){w:World}{a:Act}:∀ {β:Pla},eK P F st β w a->∃ β',eK P F st' β' w a/\gV st.nx β w a st' β' w a:=by
 induction h with
 |refl st=>exact fun {β} C=>⟨β,C,gV.refl st β w a⟩
 |trans _ _ X ih₂=>
  intro β C;obtain⟨β₁,h1,h2⟩:=X C;obtain⟨β₂,h3,h4⟩:=ih₂ h1;exact⟨β₂,h3,h2.trans h4⟩
 |forget env env' m nx h=>
  intro β C;refine⟨β,⟨fun t=>?_,C.m,C.n⟩,⟨Step.refl β w,Nat.le_refl _,fun _ _ h=>h,rfl,rfl⟩⟩;rcases h t with h1|h1
  .simp only[h1];exact C.e t
  .simp only[h1];exact .u _
 |drop env m m' nx h=>
  intro β C;refine⟨β,⟨C.e,⟨fun i r hi=>?_,C.m.inj,C.m.lt,C.m.nf,C.m.fb⟩,C.n⟩,⟨Step.refl β w,Nat.le_refl _,fun _ _ h=>h,rfl,rfl⟩⟩;rcases h i with h1|h1
  .exact C.m.row i r (h1.symm.trans hi)
  .simp only at hi;rw[h1] at hi;cases hi
 |weak env env' m m' nx h eQ=>
  intro β C;refine⟨β,⟨fun t=>h t _ _ _ _ (C.e t),⟨fun i r hi=>?_,C.m.inj,C.m.lt,C.m.nf,C.m.fb⟩,C.n⟩,⟨Step.refl β w,Nat.le_refl _,fun _ _ h=>h,rfl,rfl⟩⟩;rcases eQ i with h1|⟨cs,cs',e,h1,h2,h3,h4⟩
  .exact C.m.row i r (h1.symm.trans hi)
  .simp only at hi;rw[h2] at hi;cases hi;obtain⟨p,hp,hr⟩:=C.m.row i _ h1;exact⟨p,hp,aaK h3 h4 hr⟩
 |freeze env m nx i cs e h=>
  intro β C;exact Mt h C fun hr=>NR C.m h rfl hr
 |freezeM env m nx i es h=>
  intro β C;exact Mt h C fun hr=>aaJ C.m h rfl hr
 |nilrow env m nx t e h=>
  intro β C;have hm:=C.m;have hn:β nx=none:=C.n nx (Nat.le_refl _);simp only at hm
  have J:∀ j q b,up β nx (some .nil) j=some q->q.blk=some b->j≠nx/\β j=some q:=fun j q b hq e=>by
   by_cases hj:j=nx
   .subst hj;rw[up_same] at hq;cases hq;simp[Pl.blk] at e
   .rw[up_ne _ _ hj] at hq;exact⟨hj,hq⟩
  have M:Step β w (up β nx (some .nil)) w:=by
   refine⟨Nat.le_refl _,fun b _ hf=>⟨rfl,fun j q hq e1=>?_⟩,fun j q hq=>.inl ?_,rfl,rfl⟩
   .exact hf j q (J j q b hq e1).2 e1
   .rw[up_ne _ _ (fun e1=>by rw[e1,hn] at hq;cases hq)];exact hq
  refine⟨up β nx (some .nil),⟨fun u=>?_,⟨fun j r hj=>?_,fun j k q q' b hq gC e1 e2=>hm.inj j k q q' b (J j q b hq e1).2 (J k q' b gC e2).2 e1 e2,
   fun j q b hq e1=>hm.lt j q b (J j q b hq e1).2 e1,fun j q b hq e1=>hm.nf j q b (J j q b hq e1).2 e1,hm.fb⟩,fun j hj=>?_⟩,⟨M,Nat.le_succ _,fun j hj hb=>?_,rfl,rfl⟩⟩
  .by_cases hu:u=t
   .subst hu;have h1:=C.e u;simp only at h1;rw[h] at h1;obtain⟨x,hx⟩:=h1.z_inv;simp only[up_same,hx];exact .rsn nx x (up_same _ _ _)
   .simp only[up_ne _ _ hu];exact(C.e u).step M
  .simp only at hj;by_cases U:j=nx
   .subst U;rw[up_same] at hj;cases hj;exact⟨.nil,up_same _ _ _,.nil e⟩
   .rw[up_ne _ _ U] at hj;obtain⟨q,hq,aA⟩:=hm.row j r hj;exact⟨q,by rw[up_ne _ _ U];exact hq,aA.step M fun _ _=>rfl⟩
  .simp only at hj;rw[up_ne _ _ (show j≠nx by omega)];exact C.n j (by simp only;omega)
  .simp only at hj;rw[up_ne _ _ (show j≠nx by omega)];exact hb
def j5(N:Nat):Code->Bool
 | .region _ ops _=>yj N ops
 | .seq a b=>j5 N a&&j5 N b
 | .cond _ a b=>j5 N a&&j5 N b
 | .block _ b=>j5 N b
 | .loop b=>j5 N b
 | .scope b=>j5 N b
 | .rangeFunc _ ps a b=>(ps.toList.all fun t=>Nat.blt t N)&&(j5 N a&&j5 N b)
 |_=>true
theorem Yc{X:Fence}{n:Nat}{Q:Exit->Act->World->Prop}{c:Code}(J:Nat->Act->World->Prop){j₀:Nat}{a:Act}{w:World}(h₀:J j₀ a w)
 (round:∀ j a w,J j a w->c.wpIn X n P (Exit.then (fun a' w'=>∃ j',j'<j/\J j' a' w') Q) a w):(Code.loop c).wpIn X n P Q a w:=by
 intro b k cs qE hb hr
 have key:∀ j a w,J j a w->
  ∃ e a' w',Q e a' w'/\ArrivesIn (Machine.fenced P X) P (lone (b.atR a (.code c::.inLoop c::k)) cs w) b k cs e a' w':=by
  intro j
  induction j using Nat.strongRecOn with
  |_ j ih=>
   intro a w hI;obtain⟨e,M,U,hq,C⟩:=round j a w hI b (.inLoop c::k) cs qE hb hr;cases e with
   |normal=>
    obtain⟨j',ao,hI₁⟩:=hq;obtain⟨e₂,a₂,w₂,hq₂,ad0⟩:=ih j' ao M U hI₁;exact⟨e₂,a₂,w₂,hq₂,.of_steps (StepsIn.trans C (.one (fenced_calm hb hr rfl) stepR_inLoop)) ad0⟩
   |exit id=>exact⟨_,M,U,hq,.pass (x:=.inLoop c) rfl (fun _ _=>.inl oS) C⟩
   |goto l=>exact⟨_,M,U,hq,.pass (x:=.inLoop c) rfl (fun _ _=>.inl oS) C⟩
   |ret=>exact⟨_,M,U,hq,.pass (x:=.inLoop c) rfl (fun _ _=>.inl oS) C⟩
   |panic ch=>exact⟨_,M,U,hq,.pass (x:=.inLoop c) rfl (fun _ _=>.inl oS) C⟩
   |outgrown=>exact⟨_,M,U,hq,.pass (x:=.inLoop c) rfl (fun _ _=>.inl oS) C⟩
 obtain⟨e,a',w',hq,C⟩:=key _ a w h₀;exact⟨e,a',w',hq,.of_steps (.one (fenced_calm hb hr rfl) stepR_loop) C⟩
def mark(b:Nat):Deferred:={ target:=.collected b,args:= #[] }
def Marks(β:Pla)(w:World)(lo:Nat):List Deferred->Nat->Prop
 |[],_=>True
 |d::ds,hi=>∃ b,d=mark b/\lo<=b/\b<hi/\w.heap[b]? =some (.deferred (some []))/\β.free b/\Marks β w lo ds b
theorem Marks.step{β β':Pla}{w w':World}(C:Step β w β' w'){lo:Nat}:∀ {ds:List Deferred} {hi:Nat},hi<=w.heap.size->Marks β w lo ds hi->Marks β' w' lo ds hi
 |[],_,_,_=>trivial
 |d::ds,hi,hle,⟨b,h1,h2,h3,h4,h5,h6⟩=>by
  obtain⟨J,M⟩:=C.imm b oG h5;exact⟨b,h1,h2,h3,J.trans h4,M,Marks.step C oG h6⟩
theorem Marks.mono{β:Pla}{w:World}{lo hi C:Nat}(h:hi<=C):∀ {ds:List Deferred},Marks β w lo ds hi->Marks β w lo ds C
 |[],_=>trivial
 |_::_,⟨b,h1,h2,h3,h4⟩=>⟨b,h1,h2,by omega,h4⟩
theorem Marks.append{β:Pla}{w:World}{lo mid:Nat}(J:lo<=mid){C:List Deferred}:∀ {ds:List Deferred} {hi:Nat},mid<=hi->Marks β w mid ds hi->Marks β w lo C mid->Marks β w lo (ds++C) hi
 |[],_,hle,_,h'=>Marks.mono hle h'
 |_::_,_,_,⟨b,h1,h2,h3,h4,h5,h6⟩,h'=>⟨b,h1,by omega,h3,h4,h5,Marks.append J h2 h6 h'⟩
structure qF(N:Nat)(β:Pla)(w:World)(a:Act)(st':St)(β':Pla)(w':World)(a':Act):Prop where
 step:Step β w β' w'
 le:N<=st'.nx
 grow:∀ i,i<N->β i=none->β' i=none
 size:a'.tmps.size=a.tmps.size
 defers:∃ ds,a'.defers=ds++a.defers/\Marks β' w' w.heap.size ds w'.heap.size
theorem gV.Gt{N:Nat}{β β':Pla}{w w':World}{a a':Act}{st':St}(h:gV N β w a st' β' w' a'):qF N β w a st' β' w' a':=
 ⟨h.step,h.le,h.grow,h.size,[],h.defers,trivial⟩
theorem qF.trans{N:Nat}{β β₁ β₂:Pla}{w X w₂:World}{a C J:Act}{M U:St}(h:qF N β w a M β₁ X C)(k:qF M.nx β₁ X C U β₂ w₂ J):qF N β w a U β₂ w₂ J:=by
 obtain⟨ds,e1,h1⟩:=h.defers;obtain⟨wT,e2,h2⟩:=k.defers
 exact⟨h.step.trans k.step,Nat.le_trans h.le k.le,fun i hi hn=>k.grow i (Nat.lt_of_lt_of_le hi h.le) (h.grow i hi hn),k.size.trans h.size,wT++ds,by rw[e2,e1,List.append_assoc],
  Marks.append h.step.size k.step.size h2 (h1.step k.step (Nat.le_refl _))⟩
theorem qF.since{N:Nat}{β β₁ β₂:Pla}{w X w₂:World}{a C J:Act}{M U:St}(h:qF N β w a M β₁ X C)(k:gV M.nx β₁ X C U β₂ w₂ J):qF N β w a U β₂ w₂ J:=h.trans k.Gt
def ad1(P:Program)(F:Nat->Prop)(N:Nat)(β:Pla)(w:World)(a:Act)(Q:Exit->St->Prop)(e:Exit)(a':Act)(w':World):Prop:=
 ∃ st' β',Q e st'/\eK P F st' β' w' a'/\qF N β w a st' β' w' a'
theorem YCall.base{J:Pla}{C:World}{β:Pla}{w:World}(U:Step J C β w){l:Nat}{args:List D}{m:Mem}{nx:Nat}{K:D->Mem->Nat->Prop}(h:YCall P F J C l args m nx K):YCall P F β w l args m nx K:=
 fun β' w' us M=>h β' w' us (U.trans M)
theorem free_other{β:Pla}{i:Nat}{p:Option Pl}{b:Nat}(h:β.free b)(hp:∀ q,p=some q->q.blk≠some b):Pla.free (up β i p) b:=fun j q hq=>by
 by_cases hj:j=i
 .subst hj;rw[up_same] at hq;exact hp q hq
 .rw[up_ne _ _ hj] at hq;exact h j q hq
theorem R.tD{β:Pla}{w:World}{l:Nat}(C:F l)(o:Obj){d:D}{v:Value}(h:R F β w d v):R F β (w.putObj l o) d v:=
 h.gen oS (fun b _ hb hf=>⟨same_of (World.putObj_heap_other fun e=>hb (e▸C)),hf,hb⟩) fun _ _ _ h=>.inl h
theorem RowR.tD{β:Pla}{w:World}{l:Nat}(C:F l)(o:Obj){r:Row}{p:Pl}(hp:∀ b,p.blk=some b->b≠l)(h:RowR P F β w r p):RowR P F β (w.putObj l o) r p:=
 h.gen oS (fun b _ hb hf=>⟨same_of (World.putObj_heap_other fun e=>hb (e▸C)),hf,hb⟩) (fun _ _ _ h=>.inl h) fun b hb=>World.putObj_heap_other (hp b hb)
theorem MSim.tD{m:Mem}{β:Pla}{w:World}{l:Nat}(C:F l)(o:Obj)(h:MSim P F m β w):MSim P F m β (w.putObj l o):=
 ⟨fun i r hi=>by
  obtain⟨p,hp,hr⟩:=h.row i r hi
  exact⟨p,hp,hr.tD C o fun b hb e=>h.nf i p b hp hb (e▸C)⟩,h.inj,fun i p b hp hb=>by simpa using h.lt i p b hp hb,h.nf,fun b hb=>by simpa using h.fb b hb⟩
theorem eK.tD{st:St}{β:Pla}{w:World}{a:Act}{l:Nat}(C:F l)(o:Obj)(h:eK P F st β w a):eK P F st β (w.putObj l o) a:=
 ⟨fun t=>(h.e t).tD C o,h.m.tD C o,h.n⟩
theorem R.weak{F':Nat->Prop}(C:∀ b,F' b->F b){β:Pla}{w:World}{d:D}{v:Value}(h:R F β w d v):R F' β w d v:=
 h.gen (Nat.le_refl _) (fun b _ hb hf=>⟨SameB.refl w b,hf,fun e=>hb (C b e)⟩) fun _ _ _ h=>.inl h
theorem MSim.weak{F':Nat->Prop}(C:∀ b,F' b->F b){m:Mem}{β:Pla}{w:World}(h:MSim P F m β w):MSim P F' m β w:=
 ⟨fun i r hi=>by
  obtain⟨p,hp,hr⟩:=h.row i r hi
  exact⟨p,hp,hr.gen (Nat.le_refl _) (fun b _ hb hf=>⟨SameB.refl w b,hf,fun e=>hb (C b e)⟩) (fun _ _ _ h=>.inl h) fun _ _=>rfl⟩,h.inj,h.lt,fun i p b hp hb e=>h.nf i p b hp hb (C b e),fun b hb=>h.fb b (C b hb)⟩
theorem NS{β:Pla}{b:Nat}(h:¬ β.free b):∃ i p,β i=some p/\p.blk=some b:=by
 unfold Pla.free at h;simp only[Classical.not_forall] at h;obtain⟨i,p,hp,hb⟩:=h;exact⟨i,p,hp,Decidable.not_not.1 hb⟩
structure View(il n₀:Nat)(f:Nat->Option Nat)(mc:Mem)(nc:Nat)(m:Mem)(nx:Nat):Prop where
 low:n₀<=nc
 lt:il<nx
 id:∀ i,i<n₀->f i=some i
 AU:∀ i,i<nc->∃ j,f i=some j/\j<nx/\j≠il
 out:∀ i,nc<=i->f i=none
 inj:∀ i i' j,f i=some j->f i'=some j->i=i'
 rows:∀ i r,mc i=some r->∃ j,f i=some j/\m j=some (r.renB f)
theorem View.wA{il n₀:Nat}{f:Nat->Option Nat}{mc:Mem}{nc:Nat}{m:Mem}{nx:Nat}(h:View il n₀ f mc nc m nx){i j:Nat}(hf:f i=some j):i<nc/\j<nx/\j≠il:=by
 rcases Nat.lt_or_ge i nc with ao|C
 .obtain⟨j',h1,h2,h3⟩:=h.AU i ao;rw[hf] at h1;cases h1;exact⟨ao,h2,h3⟩
 .rw[h.out i C] at hf;cases hf
theorem View.ext{il n₀:Nat}{f:Nat->Option Nat}{mc:Mem}{nc:Nat}{m m':Mem}{nx nx':Nat}(h:View il n₀ f mc nc m nx)(C:nx<=nx')(he:∀ i,i<nx->m' i=m i):View il n₀ f mc nc m' nx':=
 ⟨h.low,Nat.lt_of_lt_of_le h.lt C,h.id,fun i hi=>by
  obtain⟨j,h1,h2,h3⟩:=h.AU i hi;exact⟨j,h1,by omega,h3⟩,h.out,h.inj,fun i r hi=>by
  obtain⟨j,h1,h2⟩:=h.rows i r hi
  exact⟨j,h1,(he j (h.wA h1).2.1).trans h2⟩⟩
theorem Zx{f:Nat->Option Nat}{m:Mem}{β:Pla}{w:World}(hm:MSim P F m β w){b:Nat}(h:hidden F β f b):b<w.heap.size:=by
 rcases h with h|⟨h,_⟩
 .exact hm.fb b h
 .obtain⟨i,p,hp,hb⟩:=NS h;exact hm.lt i p b hp hb
theorem View.enter{il n₀:Nat}{f:Nat->Option Nat}{mc:Mem}{nc:Nat}{m:Mem}{nx:Nat}(h:View il n₀ f mc nc m nx){β:Pla}{w:World}(hm:MSim P F m β w):
 MSim P (hidden F β f) mc (β.via f) w/\∀ i,nc<=i->(β.via f) i=none:=by
 have look:∀ i p,(β.via f) i=some p->∃ j,f i=some j/\β j=some p:=fun i p hp=>Option.bind_eq_some_iff.1 hp;refine⟨⟨fun i r hi=>?_,fun i i' p q b hp hq e e'=>?_,fun i p b hp e=>?_,fun i p b hp e C=>?_,fun b hb=>Zx hm hb⟩,fun i hi=>?_⟩
 .obtain⟨j,h1,h2⟩:=h.rows i r hi;obtain⟨p,hp,hr⟩:=hm.row j _ h2;exact⟨p,by simp[Pla.via,h1,hp],hr.seen⟩
 .obtain⟨j,h1,h2⟩:=look i p hp;obtain⟨j',h3,h4⟩:=look i' q hq;have:=hm.inj j j' p q b h2 h4 e e';subst this;exact h.inj i i' j h1 h3
 .obtain⟨j,h1,h2⟩:=look i p hp;exact hm.lt j p b h2 e
 .obtain⟨j,h1,h2⟩:=look i p hp;rcases C with C|⟨_,C⟩
  .exact hm.nf j p b h2 e C
  .exact C i p hp e
 .simp[Pla.via,h.out i hi]
theorem MSim.Af{m:Mem}{β:Pla}{w:World}{i l:Nat}{o:Obj}(h:MSim P F m β w)(hm:m i=some (.raw l o)):β i=some (.raw l)/\w.heap[l]? =some o/\¬ F l/\l<w.heap.size:=by
 obtain⟨p,hp,hr⟩:=h.row i _ hm;cases hr with
 |raw _ _ hc=>exact⟨hp,hc,h.nf i _ l hp rfl,h.lt i _ l hp rfl⟩
theorem View.EW{il n₀:Nat}{f:Nat->Option Nat}{mc:Mem}{nc:Nat}{m:Mem}{nx:Nat}(h:View il n₀ f mc nc m nx){β:Pla}{w:World}(hm:MSim P F m β w){j:Nat}{p:Pl}{b:Nat}(hj:∀ i,f i≠some j)(hp:β j=some p)(hb:p.blk=some b):
 (β.via f).free b/\hidden F β f b:=by
 have C:(β.via f).free b:=fun i q hq e=>by
  obtain⟨j',h1,h2⟩:=Option.bind_eq_some_iff.1 hq;exact hj i (hm.inj j' j q p b h2 hp e hb▸h1)
 exact⟨C,.inr ⟨fun e=>e j p hp hb,C⟩⟩
structure tw(l:Nat)(β:Pla)(w:World)(β':Pla)(w':World):Prop where
 size:w.heap.size<=w'.heap.size
 imm:∀ b,b<w.heap.size->b≠l->β.free b->w'.heap[b]? =w.heap[b]? /\β'.free b
 keep:∀ i p,β i=some p->β' i=some p\/β' i=some .dead
 out:Out w w'
theorem Step.x{β β':Pla}{w w':World}(h:Step β w β' w')(l:Nat):tw l β w β' w':=⟨h.size,fun b hb _=>h.imm b hb,h.keep,h.out⟩
theorem tw.trans{l:Nat}{X β₂ β₃:Pla}{J M U:World}(h:tw l X J β₂ M)(k:tw l β₂ M β₃ U):tw l X J β₃ U:=by
 refine⟨Nat.le_trans h.size k.size,fun b hb C hf=>?_,fun i p hp=>?_,h.out.trans k.out⟩
 .obtain⟨h1,h2⟩:=h.imm b hb C hf;obtain⟨k1,k2⟩:=k.imm b (Nat.lt_of_lt_of_le hb h.size) C h2;exact⟨k1.trans h1,k2⟩
 .rcases h.keep i p hp with h1|h1
  .exact k.keep i p h1
  .right;rcases k.keep i _ h1 with h2|h2<;>exact h2
theorem tw.put(l:Nat)(β:Pla)(w:World)(o:Obj):tw l β w β (w.putObj l o):=⟨by simp,fun b _ C hf=>⟨World.putObj_heap_other C,hf⟩,fun _ _ h=>.inl h,rfl,rfl⟩
theorem M6{n j:Nat}{f:Nat->Option Nat}(C:∀ i i' j,f i=some j->f i'=some j->i=i'):
 (∀ i,(List.range n).find? (fun i=>f i==some j)=some i->f i=some j/\i<n)/\(∀ i,i<n->f i=some j->(List.range n).find? (fun i=>f i==some j)=some i):=by
 refine⟨fun i hi=>⟨by simpa using List.find?_some hi,by simpa using List.mem_of_find?_eq_some hi⟩,fun i hi hf=>?_⟩;cases h:(List.range n).find? (fun i=>f i==some j) with
 |none=>
  have:=List.find?_eq_none.1 h i (by simpa using hi);simp[hf] at this
 |some k=>rw[C i k j hf (by simpa using List.find?_some h)]
theorem View.ad2{il n₀:Nat}{f:Nat->Option Nat}{mc:Mem}{nc:Nat}{m:Mem}{nx:Nat}(h:View il n₀ f mc nc m nx){β:Pla}{w:World}(hm:MSim P F m β w)(hn:∀ i,nx<=i->β i=none){l:Nat}{o o':Obj}(hl:m il=some (.raw l o))
 {m':Mem} {M:Nat} {β':Pla} {w':World} (jv:MSim P (hidden F β f) m' β' w') (hs:tw l (β.via f) w β' w') (cE:∀ i,M<=i->β' i=none) (hle:nc<=M) (hg:∀ i,i<nc->(β.via f) i=none->β' i=none) (ho:w'.heap[l]? =some o'):
 ∃ C U qt J,View il n₀ C m' M U qt/\U il=some (.raw l o')/\MSim P F U J w'/\(∀ i,qt<=i->J i=none)/\Step β w J w'/\nx<=qt/\∀ i,i<nx->β i=none->J i=none:=by
 obtain⟨KR,kW,hFl,ao⟩:=hm.Af hl
 let C:Nat->Option Nat:=fun i=>if i<nc then f i else if i<M then some (nx+(i - nc)) else none
 have Cz:∀ i,i<nc->C i=f i:=fun i hi=>by simp[C,hi]
 have Jh:∀ i,nc<=i->i<M->C i=some (nx+(i - nc)):=fun i h1 h2=>by simp[C,h2,Nat.not_lt.2 h1]
 have SN:∀ i,M<=i->C i=none:=fun i h1=>by simp[C,Nat.not_lt.2 h1,Nat.not_lt.2 (Nat.le_trans hle h1)]
 have xP:∀ i j,C i=some j->(f i=some j/\i<nc/\j<nx)\/(nc<=i/\i<M/\j=nx+(i - nc)):=fun i j hf=>by
  rcases Nat.lt_or_ge i nc with h1|h1
  .rw[Cz i h1] at hf;exact .inl ⟨hf,h.wA hf |>.1,(h.wA hf).2.1⟩
  .rcases Nat.lt_or_ge i M with h2|h2
   .rw[Jh i h1 h2] at hf;cases hf;exact .inr ⟨h1,h2,rfl⟩
   .rw[SN i h2] at hf;cases hf
 have Ji:∀ i i' j,C i=some j->C i'=some j->i=i':=fun i i' j h1 h2=>by
  rcases xP i j h1 with⟨a1,a2,a3⟩|⟨a1,a2,a3⟩<;>rcases xP i' j h2 with⟨b1,b2,b3⟩|⟨b1,b2,b3⟩
  .exact h.inj i i' j a1 b1
  .omega
  .omega
  .omega
 let inv:Nat->Option Nat:=fun j=>(List.range M).find? fun i=>C i==some j
 have yx:∀ i j,inv j=some i->C i=some j:=fun i j hi=>((M6 Ji).1 i hi).1;have JZ:∀ i j,C i=some j->inv j=some i:=fun i j hf=>(M6 Ji).2 i (by rcases xP i j hf with h1|h1<;>omega) hf
 have akv:∀ j,inv j=none->∀ i,f i≠some j:=fun j hj i hf=>by
  have:=JZ i j (by rw[Cz i (h.wA hf).1];exact hf);rw[hj] at this;cases this
 let J:Pla:=fun j=>match inv j with|some i=>β' i|none=>β j
 let U:Mem:=fun j=>match inv j with|some i=>(m' i).map (Row.renB C)|none=>if j=il then some (.raw l o') else m j
 have βs:∀ i j,C i=some j->J j=β' i:=fun i j hf=>by simp[J,JZ i j hf]
 have βn:∀ j,inv j=none->J j=β j:=fun j hj=>by simp[J,hj]
 have ac4:inv il=none:=by
  cases hi:inv il with
  |none=>rfl
  |some i=>
   rcases xP i il (yx i il hi) with⟨a1,a2,a3⟩|⟨a1,a2,a3⟩
   .exact absurd rfl (h.wA a1).2.2
   .have:=h.lt;omega
 have via:J.via C=β':=by
  funext i;simp only[Pla.via];cases hf:C i with
  |some j=>exact βs i j hf
  |none=>
   rcases Nat.lt_or_ge i M with h1|h1
   .rcases Nat.lt_or_ge i nc with h2|h2
    .obtain⟨j,h3,_⟩:=h.AU i h2;rw[Cz i h2,h3] at hf;cases hf
    .rw[Jh i h2 h1] at hf;cases hf
   .exact(cE i h1).symm
 have look:∀ j p,J j=some p->(∃ i,inv j=some i/\C i=some j/\β' i=some p)\/(inv j=none/\β j=some p):=fun j p hp=>by
  cases hi:inv j with
  |some i=>exact .inl ⟨i,rfl,yx i j hi,by rw[<- βs i j (yx i j hi)];exact hp⟩
  |none=>exact .inr ⟨rfl,by rw[<- βn j hi];exact hp⟩
 have akw:∀ b,β.free b->b≠l:=fun b hb e=>hb il _ KR (e▸rfl)
 have imm:∀ b,b<w.heap.size->β.free b->w'.heap[b]? =w.heap[b]? /\J.free b:=fun b hb hf=>by
  obtain⟨h1,h2⟩:=hs.imm b hb (akw b hf) (Pla.free_via hf f);refine⟨h1,fun j p hp=>?_⟩;rcases look j p hp with⟨i,_,_,h4⟩|⟨_,h4⟩
  .exact h2 i p h4
  .exact hf j p h4
 have keep:∀ j p,β j=some p->J j=some p\/J j=some .dead:=fun j p hp=>by
  cases hi:inv j with
  |none=>exact .inl ((βn j hi).trans hp)
  |some i=>
   have hf:=yx i j hi;rw[βs i j hf];rcases xP i j hf with⟨a1,a2,a3⟩|⟨a1,a2,a3⟩
   .exact hs.keep i p (by simp[Pla.via,a1,hp])
   .rw[hn j oG] at hp;cases hp
 have X:∀ j p b,inv j=none->β j=some p->p.blk=some b->hidden F β f b/\(b≠l->b<w.heap.size/\w'.heap[b]? =w.heap[b]?):=fun j p b hj hp hb=>by
  obtain⟨h1,h2⟩:=h.EW hm (akv j hj) hp hb;exact⟨h2,fun aB=>⟨hm.lt j p b hp hb,(hs.imm b (hm.lt j p b hp hb) aB h1).1⟩⟩
 refine⟨C,U,nx+(M - nc),J,⟨Nat.le_trans h.low hle,by have:=h.lt;omega,fun i hi=>?_,fun i hi=>?_,SN,Ji,fun i r hi=>?_⟩,?_,⟨fun j r hj=>?_,fun i j p q b hp hq e e'=>?_,fun j p b hp e=>?_,fun j p b hp e hF=>?_,fun b hb=>?_⟩,fun i hi=>?_,⟨hs.size,imm,keep,hs.out⟩,by omega,fun i hi hb=>?_⟩
 .rw[Cz i (Nat.lt_of_lt_of_le hi h.low)];exact h.id i hi
 .rcases Nat.lt_or_ge i nc with h1|h1
  .obtain⟨j,h2,h3,h4⟩:=h.AU i h1;exact⟨j,by rw[Cz i h1];exact h2,by omega,h4⟩
  .exact⟨_,Jh i h1 hi,by omega,by have:=h.lt;omega⟩
 .obtain⟨p,hp,_⟩:=jv.row i r hi
  have:∃ j,C i=some j:=by
   rw[<- via] at hp;obtain⟨j,h1,_⟩:=Option.bind_eq_some_iff.1 hp;exact⟨j,h1⟩
  obtain⟨j,hj⟩:=this;exact⟨j,hj,by simp[U,JZ i j hj,hi]⟩
 .simp[U,ac4]
 .cases hi:inv j with
  |some i=>
   simp only[U,hi,Option.map_eq_some_iff] at hj;obtain⟨r0,yT,rfl⟩:=hj;obtain⟨p,hp,hr⟩:=jv.row i r0 yT;refine⟨p,(βs i j (yx i j hi)).trans hp,RowR.hide (F':=hidden F β f) (by rw[via];exact hr) (fun b hb=>.inl hb) fun b g1 g2=>?_⟩;obtain⟨k,q,hq,wW⟩:=NS g1;rcases look k q hq with⟨i',_,_,h4⟩|⟨h3,h4⟩
   .exact absurd wW (g2 i' q (by rw[via];exact h4))
   .exact(X k q b h3 h4 wW).1
  |none=>
   simp only[U,hi] at hj;split at hj
   .rename_i e;subst e;cases hj;exact⟨.raw l,(βn j hi).trans KR,.raw l o' ho⟩
   .rename_i aB;obtain⟨p,hp,hr⟩:=hm.row j r hj;refine⟨p,(βn j hi).trans hp,hr.gen hs.size (fun b hb g1 g2=>⟨same_of (imm b hb g2).1,(imm b hb g2).2,g1⟩) (fun i p _=>keep i p) fun b hb=>?_⟩;exact((X j p b hi hp hb).2 fun e=>aB (hm.inj j il p _ b hp KR hb (e▸rfl))).2
 .rcases look i p hp with⟨i',a1,a2,a3⟩|⟨a1,a2⟩<;>rcases look j q hq with⟨j',b1,b2,b3⟩|⟨b1,b2⟩
  .have:=jv.inj i' j' p q b a3 b3 e e';subst this;rw[a2] at b2;cases b2;rfl
  .exact absurd (X j q b b1 b2 e').1 (jv.nf i' p b a3 e)
  .exact absurd (X i p b a1 a2 e).1 (jv.nf j' q b b3 e')
  .exact hm.inj i j p q b a2 b2 e e'
 .rcases look j p hp with⟨i',a1,a2,a3⟩|⟨a1,a2⟩
  .exact jv.lt i' p b a3 e
  .exact Nat.lt_of_lt_of_le (hm.lt j p b a2 e) hs.size
 .rcases look j p hp with⟨i',a1,a2,a3⟩|⟨a1,a2⟩
  .exact jv.nf i' p b a3 e (.inl hF)
  .exact hm.nf j p b a2 e hF
 .exact Nat.lt_of_lt_of_le (hm.fb b hb) hs.size
 .cases dh:inv i with
  |none=>exact(βn i dh).trans (hn i oG)
  |some i0=>
   rcases xP i0 i (yx i0 i dh) with⟨a1,a2,a3⟩|⟨a1,a2,a3⟩<;>omega
 .cases dh:inv i with
  |none=>exact(βn i dh).trans hb
  |some i0=>
   have hf:=yx i0 i dh;rw[βs i0 i hf];rcases xP i0 i hf with⟨a1,a2,a3⟩|⟨a1,a2,a3⟩
   .exact hg i0 a2 (by simp[Pla.via,a1,hb])
   .omega
theorem MH{β:Pla}{w:World}:∀ (ts:List Tmp) (ds:List D) (vs:List Value) (env:Env) (tmps:Array Value),vs.length=ds.length->(∀ (k:Nat) (d:D) (v:Value),ds[k]? =some d->vs[k]? =some v->R F β w d v)->
 (∀ t,t∈ts->t<tmps.size)->ESim F β w env { tmps:=tmps,defers:=[] }->
 ESim F β w (setAll env ts ds) { tmps:=(ts.zip vs).foldl (fun tmps (t,a)=>tmps.setIfInBounds t a) tmps,defers:=[] }/\((ts.zip vs).foldl (fun tmps (t,a)=>tmps.setIfInBounds t a) tmps).size=tmps.size
 |[],_,_,env,tmps,_,_,_,h=>by simpa[setAll] using h
 |_::_,[],[],env,tmps,_,_,_,h=>by simpa[setAll] using h
 |_::_,[],_::_,_,_,hl,_,_,_=>by simp at hl
 |_::_,_::_,[],_,_,hl,_,_,_=>by simp at hl
 |t::ts,d::ds,v::vs,env,tmps,hl,hR,ao,h=>by
  have h1:ESim F β w (up env t d) { tmps:=tmps.setIfInBounds t v,defers:=[] }:=by
   have:=h.put (some t) d v (hR 0 d v rfl rfl) (fun u C=>by cases C;exact ao t oS);simpa[Act.put,up] using this
  have:=MH ts ds vs (up env t d) (tmps.setIfInBounds t v) (by simpa using hl) (fun k d v hd hv=>hR (k+1) d v (by simpa using hd) (by simpa using hv)) (fun u C=>by simpa using ao u (by simp[C])) h1;simp only[setAll,List.zip_cons_cons,List.foldl_cons];exact⟨this.1,by rw[this.2];simp⟩
theorem Bq{c:Code}{b:Frame}{a:Act}{k:List Item}{cs:List Frame}{w:World}:step P (lone (b.atR a (.code (.scope c)::k)) cs w)=.next (lone (b.atR a (.code c::.inScope c::k)) cs w):=
 step_lone_go (by simp[stepG,stepG.exec,Frame.atR])
theorem Yd{c:Code}{b:Frame}{a:Act}{k:List Item}{cs:List Frame}{w:World}:step P (lone (b.atR a (.inScope c::k)) cs w)=.next (lone (b.atR a k) cs w):=
 step_lone_go (by simp[stepG,stepG.exec,Frame.atR])
theorem Eh{I:Machine->Prop}{m:Machine}{b:Frame}{c:Code}{k:List Item}{cs:List Frame}{e:Exit}{a:Act}{w:World}
 (hn:e≠ .normal) (hg:∀ l,e≠ .goto l) (h:ArrivesIn I P m b (.inScope c::k) cs e a w):ArrivesIn I P m b k cs e a w:=by
 cases e with
 |normal=>exact absurd rfl hn
 |exit id=>exact⟨fun C hk=>h.1 C (by simp[exitTo,hk]),fun hr hk=>h.2 hr (by simp[exitTo,hk])⟩
 |goto l=>exact absurd rfl (hg l)
 |ret=>exact h
 |panic chain=>exact h
 |outgrown=>exact h
theorem YG{U:Fence}{n:Nat}{Q:Exit->Act->World->Prop}{a:Act}{w:World}{c:Code}(h:c.wpIn U n P (Exit.noGoto Q) a w):(Code.scope c).wpIn U n P Q a w:=by
 intro b k cs X hb hr;have h0:(lone (b.atR a (.code (.scope c)::k)) cs w).fenced P U:=fenced_calm hb hr rfl;obtain⟨e,C,M,hq,J⟩:=h b (.inScope c::k) cs X hb hr;cases e with
 |normal=>exact⟨.normal,C,M,hq,.head h0 Bq (StepsIn.trans J (.one (fenced_calm hb hr rfl) Yd))⟩
 |goto l=>exact hq.elim
 |exit id=>exact⟨.exit id,C,M,hq,.of_steps (.one h0 Bq) (Eh (c:=c) oS oS J)⟩
 |ret=>exact⟨.ret,C,M,hq,.of_steps (.one h0 Bq) (Eh (c:=c) oS oS J)⟩
 |panic ch=>exact⟨.panic ch,C,M,hq,.of_steps (.one h0 Bq) (Eh (c:=c) oS oS J)⟩
 |outgrown=>exact⟨.outgrown,C,M,hq,.of_steps (.one h0 Bq) (Eh (c:=c) oS oS J)⟩
def Jump(env:Env)(Q:Exit->St->Prop):Code->Mem->Nat->Prop
 | .ret,m,nx=>Q .ret ⟨env,m,nx⟩
 | .exit id,m,nx=>Q (.exit id) ⟨env,m,nx⟩
 |_,_,_=>False
def z4(il l:Nat)(n₀:Nat)(o:Obj)(I:Mem->Nat->Prop)(m:Mem)(nx:Nat):Prop:=∃ f mc nc,View il n₀ f mc nc m nx/\m il=some (.raw l o)/\I mc nc
theorem z4.closed{il l n₀:Nat}{o:Obj}{I:Mem->Nat->Prop}:Closed (z4 il l n₀ o I):=by
 rintro m nx m' nx' ⟨f,mc,nc,h1,h2,h3⟩ C he;exact⟨f,mc,nc,h1.ext C he,(he il h1.lt).trans h2,h3⟩
theorem Zy(ps:Array Tmp)(us:Array Value)(tmps:Array Value):
 (ps.zip us).foldl (fun tmps (t,a)=>tmps.setIfInBounds t a) tmps=(ps.toList.zip us.toList).foldl (fun tmps (t,a)=>tmps.setIfInBounds t a) tmps:=by
 rw[<- Array.foldl_toList];simp
theorem Ye{β:Pla}{w:World}{a:Act}{g:Operand}{f:FuncId}{fs cs:List D}(hR:R F β w (.fn (.func f) fs cs) (a.eval g))(he:enterOk P f=true)(l:Nat)(w':World):
 ∃ (us vs:List Value) (d:Deferred),us.length=fs.length/\vs.length=cs.length/\(∀ (k:Nat) (d:D) (v:Value),fs[k]? =some d->us[k]? =some v->R F β w d v)/\(∀ (k:Nat) (d:D) (v:Value),cs[k]? =some d->vs[k]? =some v->R F β w d v)/\
  (resolve a.eval (rangeCall g l) 0).run P w'=.ok d w'/\(invoke d.target d.args).run P w'=.ok (.enter f (us.toArray++ #[.func (.yield l) #[] #[]]++vs.toArray)) w':=by
 generalize hv:a.eval g=v at hR;cases hR with
 |fn _ _ _ us vs hl iS J C=>
 refine⟨us,vs,{ target:=.fn (.func f) vs.toArray,args:=us.toArray++ #[.func (.yield l) #[] #[]] },hl,iS,J,C,?_,?_⟩
 .simp only[resolve,hv,Sem.run_bind,Deferred.ofValue];simp[go_sem]
 .simp only[invoke];unfold callFunc;unfold enterOk at he;simp only[Sem.run_bind,run_program,Result.andThen_ok];split at he
  .rename_i fn M;simp only[Bool.and_eq_true,Bool.not_eq_true'] at he
   have hb:fn.body.isNone=false:=by
    cases U:fn.body<;>simp_all
   rw[M];simp only[he.1,hb,Bool.false_eq_true,if_false,Sem.run_pure]
  .cases he
theorem Rs.append{β:Pla}{w:World}{aS bs:List D}{xs ys:Array Value}(h:Rs F β w aS xs)(k:Rs F β w bs ys):Rs F β w (aS++bs) (xs++ys):=by
 refine⟨by simp[h.1,k.1],fun j d v hd hv=>?_⟩;rcases Nat.lt_or_ge j aS.length with hj|hj
 .rw[List.getElem?_append_left hj] at hd;rw[Array.getElem?_append_left (by rw[h.1];exact hj)] at hv;exact h.2 j d v hd hv
 .rw[List.getElem?_append_right hj] at hd;rw[Array.getElem?_append_right (by rw[h.1];exact hj),h.1] at hv;exact k.2 _ d v hd hv
theorem aaL(ng:P.follows .mixedOrders=true):∀ (c:Code) (F:Nat->Prop) (r:Option Nat) (n:Nat) (Y:YSpec) (rf:Bool) (N₀:Nat) (β₀:Pla) (w₀:World) (a₀:Act),(rf=true->r=none)->
 (∀ l args m nx K,Y l args m nx K->YCall P F β₀ w₀ l args m nx K)->j5 a₀.tmps.size c=true->∀ (Q:Exit->St->Prop) (st:St) (β:Pla) (w:World) (a:Act),
 AW P Y rf c Q st->eK P F st β w a->qF N₀ β₀ w₀ a₀ st β w a->c.wpIn (Fe r) n P (ad1 P F N₀ β₀ w₀ a₀ Q) a w:=by
 intro c
 induction c with
 |skip=>exact fun F r n Y rf N₀ β₀ w₀ a₀ U X _ Q st β w a h C M=>wpIn_skip ⟨st,β,h,C,M⟩
 |ret=>exact fun F r n Y rf N₀ β₀ w₀ a₀ U X _ Q st β w a h C M=>wpIn_ret ⟨st,β,h,C,M⟩
 |exit id=>exact fun F r n Y rf N₀ β₀ w₀ a₀ U X _ Q st β w a h C M=>wpIn_exit ⟨st,β,h,C,M⟩
 |label l=>exact fun F r n Y rf N₀ β₀ w₀ a₀ U X _ Q st β w a h C M=>wpIn_label ⟨st,β,h,C,M⟩
 |region id ops draw=>
  intro F r n Y rf N₀ β₀ w₀ a₀ U X ao Q st β w a h C M;have yz:yj a.tmps.size ops=true:=by rw[M.size];exact ao
  cases draw with
  |false=>
   refine wpIn_mono (Yt (N:=st.nx) (β₀:=β) (w₀:=w) (a₀:=a) (fun l args m nx K hy=>(X l args m nx K hy).base M.step) yz h C (gV.refl st β w a)) fun e a' w' hp=>?_;obtain⟨st',β',hq,dH,gz⟩:=hp;exact⟨st',β',hq,dH,M.since gz⟩
  |true=>
   simp only[AW] at h;split at h
   .rename_i cf sb;refine wpIn_mono (Yu (N₀:=st.nx) (β₀:=β) (w₀:=w) (a₀:=a) ng sb yz h C (gV.refl st β w a)) fun e a' w' hp=>?_;obtain⟨st',β',hq,dH,gz⟩:=hp;exact⟨st',β',hq,dH,M.since gz⟩
   .exact h.elim
 |seq x y Gu Gv=>
  intro F r n Y rf N₀ β₀ w₀ a₀ U X ao Q st β w a h C M;simp only[j5,Bool.and_eq_true] at ao;refine wpIn_seq (wpIn_mono (Gu F r n Y rf N₀ β₀ w₀ a₀ U X ao.1 _ st β w a h C M) fun e a' w' hp=>?_);obtain⟨st',β',hq,dH,gz⟩:=hp;cases e with
  |normal=>
   obtain⟨iQ,hg,hy⟩:=hq;obtain⟨jw,yA,Jj⟩:=Mu hg dH;exact Gv F r n Y rf N₀ β₀ w₀ a₀ U X ao.2 Q iQ jw w' a' hy yA (gz.since Jj)
  |_=>exact⟨st',β',hq,dH,gz⟩
 |cond c x y Gu Gv=>
  intro F r n Y rf N₀ β₀ w₀ a₀ U X ao Q st β w a h C M;simp only[j5,Bool.and_eq_true] at ao;obtain⟨ha,h⟩:=h;have hR:=(C.e.opd c).core_of _ ha;split at h
  .rename_i t ht;rw[ht] at hR;exact wpIn_cond_split hR.s_inv.1 (fun e=>Gu F r n Y rf N₀ β₀ w₀ a₀ U X ao.1 Q st β w a (h.1 e) C M) fun e=>Gv F r n Y rf N₀ β₀ w₀ a₀ U X ao.2 Q st β w a (h.2 e) C M
  .rename_i ht;rw[ht] at hR;obtain⟨b,hb⟩:=hR.ub_inv;exact wpIn_cond_split hb (fun _=>Gu F r n Y rf N₀ β₀ w₀ a₀ U X ao.1 Q st β w a h.1 C M) fun _=>Gv F r n Y rf N₀ β₀ w₀ a₀ U X ao.2 Q st β w a h.2 C M
  .exact h.elim
 |scope b ih=>
  intro F r n Y rf N₀ β₀ w₀ a₀ U X ao Q st β w a h C M;refine YG (wpIn_mono (ih F r n Y rf N₀ β₀ w₀ a₀ U X ao _ st β w a h C M) fun e a' w' hp=>?_);obtain⟨st',β',hq,dH,gz⟩:=hp;cases e with
  |goto l=>exact hq.elim
  |_=>exact⟨st',β',hq,dH,gz⟩
 |block id b ih=>
  intro F r n Y rf N₀ β₀ w₀ a₀ U X ao Q st β w a h C M;refine wpIn_block (wpIn_mono (ih F r n Y rf N₀ β₀ w₀ a₀ U X ao _ st β w a h C M) fun e a' w' hp=>?_);obtain⟨st',β',hq,dH,gz⟩:=hp;cases e with
  |exit i=>
   simp only[blockQ] at hq;simp only[Exit.inBlock];split at hq
   .rename_i hi;rw[if_pos hi];exact⟨st',β',hq,dH,gz⟩
   .rename_i hi;rw[if_neg hi];exact⟨st',β',hq,dH,gz⟩
  |_=>exact⟨st',β',hq,dH,gz⟩
 |loop b ih=>
  intro F r n Y rf N₀ β₀ w₀ a₀ U X ao Q st β w a h C M;obtain⟨I,μ,hI,z5⟩:=h;refine Yc (fun j a w=>∃ st β,I st/\μ st=j/\eK P F st β w a/\qF N₀ β₀ w₀ a₀ st β w a) ⟨st,β,hI,rfl,C,M⟩ ?_;rintro j a w ⟨st,β,hI,hμ,C,M⟩;refine wpIn_mono (ih F r n Y rf N₀ β₀ w₀ a₀ U X ao _ st β w a (z5 st hI) C M) fun e a' w' hp=>?_;obtain⟨st',β',hq,dH,gz⟩:=hp;cases e with
  |normal=>
   obtain⟨jP,hg,pB,aqM⟩:=hq;obtain⟨jw,yA,Jj⟩:=Mu hg dH;exact⟨μ jP,by omega,jP,jw,pB,rfl,yA,gz.since Jj⟩
  |_=>exact⟨st',β',hq,dH,gz⟩
 |rangeFunc g ps assign body wX wY=>
  intro F r n Y rf N₀ β₀ w₀ a₀ U X ao Q st β w a h C M;obtain⟨env,mem,nx⟩:=st;obtain⟨J0,nZ,f,fs,cs,xs,I,Ag,FV,Fz,Gw,z5,FA⟩:=h;simp only at nZ Ag Gw z5 FA;have hr:=U J0;subst hr;simp only[j5,Bool.and_eq_true,List.all_eq_true,Nat.blt_eq] at ao;obtain⟨yU,akx,aky⟩:=ao;have bX:a.tmps.size=a₀.tmps.size:=M.size;have hR:=(C.e.opd g).core_of _ nZ;simp only[Ag] at hR;refine wpIn_rangeFunc fun fn qD=>?_;obtain⟨J,uS⟩:∃ J:LoopState->Option Code->Loop,J=fun st pe=>{ state:=st,pending:=pe,fn,tmps:=a.tmps,params:=ps,assign,body,defers:=w.heap.size }:=⟨_,rfl⟩
  obtain⟨W1,Dk⟩:∃ W1,(w.alloc (.deferred (some []))).alloc (.loop (J .ready none))=W1:=⟨_,rfl⟩
  obtain⟨us,vs,d,KS,tV,hu,hv,fV,hinv⟩:=Ye (P:=P) hR FV.1 (w.heap.size+1) W1;have hn:∀ i,nx<=i->β i=none:=C.n;have hFl:¬ F (w.heap.size+1):=fun e=>by have:=C.m.fb _ e;omega
  let f₀:Nat->Option Nat:=fun i=>if i<nx then some i else none
  have UY:β.via f₀=β:=by
   funext i;simp only[Pla.via,f₀];split
   .rfl
   .exact(hn i oG).symm
  have yV:MSim P F (fun i=>(mem i).map (Row.renB f₀)) β w:=⟨fun i r hi=>by
   simp only[Option.map_eq_some_iff] at hi;obtain⟨r0,h1,rfl⟩:=hi;obtain⟨p,hp,hr⟩:=C.m.row i r0 h1
   exact⟨p,hp,RowR.hide (F':=F) (by rw[UY];exact hr) (fun _ h=>h) fun b g1 g2=>absurd (UY▸g2) g1⟩,C.m.inj,C.m.lt,C.m.nf,C.m.fb⟩
  have sc:Step β w β (w.alloc (.deferred (some []))):=step_ext oS fun b hb=>heap_alloc_old w _ hb;have AV:MSim P F (fun i=>(mem i).map (Row.renB f₀)) β (w.alloc (.deferred (some []))):=yV.ext oS fun b hb=>heap_alloc_old w _ hb
  have n6:MSim P F (up (fun i=>(mem i).map (Row.renB f₀)) nx (some (.raw (w.heap.size+1) (.loop (J .ready none))))) (up β nx (some (.raw (w.heap.size+1)))) W1:=by
   rw[<- Dk];refine AV.alloc (hn nx (Nat.le_refl _)) _ _ _ (fun b hb=>by simp only[Pl.blk,Option.some.injEq] at hb;simp;omega) (.raw _ _ ?_);have:=World.alloc_heap_new (w.alloc (.deferred (some []))) (.loop (J .ready none))
   rwa[World.size_alloc] at this
  have mF:Step β w (up β nx (some (.raw (w.heap.size+1)))) W1:=by
   rw[<- Dk];exact sc.trans (step_alloc AV _ (hn nx (Nat.le_refl _)) _ (fun b hb=>by simp only[Pl.blk,Option.some.injEq] at hb;simp;omega))
  have hD1:W1.heap[w.heap.size]? =some (.deferred (some [])):=by
   rw[<- Dk];rw[heap_alloc_old _ _ oS];exact World.alloc_heap_new w _
  have QL:Pla.free (up β nx (some (.raw (w.heap.size+1)))) w.heap.size:=
   free_other (fun i p hp e=>by have:=C.m.lt i p _ hp e;omega) (by rintro q hq;cases hq;simp[Pl.blk])
  have aqN:W1.heap.size=w.heap.size+2:=by rw[<- Dk];simp
  have ab4:∀ i,nx<=i->mem i=none:=fun i hi=>by
   cases hm:mem i with
   |none=>rfl
   |some row=>
    obtain⟨p,hp,_⟩:=C.m.row i row hm;rw[hn i hi] at hp;cases hp
  have own:∀ {f:Nat->Option Nat} {mc:Mem} {nc:Nat} {m:Mem} {jx:Nat} {β2:Pla} {w2:World},View nx nx f mc nc m jx->Step (up β nx (some (.raw (w.heap.size+1)))) W1 β2 w2->
   ∀ {d:D} {v:Value},R F β w d v->R (hidden F β2 f) (β2.via f) w2 d v:=fun {_ _ _ _ _ _ _} jk aU {d v} h=>by
   have rR:=mF.trans aU;refine h.gen rR.size (fun b hb hf mu=>?_) fun i p _ hp=>?_
   .obtain⟨g1,g2⟩:=rR.imm b hb mu;exact⟨same_of g1,Pla.free_via g2 _,fun e=>e.elim hf fun e=>e.1 g2⟩
   .have hi:i<nx:=by
     rcases Nat.lt_or_ge i nx with h1|h1
     .exact h1
     .rw[hn i h1] at hp;cases hp
    simp only[Pla.via,jk.id i hi,Option.bind_some];exact rR.keep i p hp
  refine⟨w.heap.size+1,[mark w.heap.size],W1,d,W1,f,_,W1,?_,fV,fun f' _=>trivial,hinv,fun hd=>by simp at hd,NT ?_⟩
  .rw[<- Dk,uS];exact run_enterLoop_outer _ _ _ _ _
  refine(FV.2 F (w.heap.size+1) (fun k=>z4 nx (w.heap.size+1) nx (.loop (J .ready none)) (I k)) (fun m k=>∃ c,z4 nx (w.heap.size+1) nx (.loop (J .done (some c))) (Jump env Q c) m k)
   (up (fun i=>(mem i).map (Row.renB f₀)) nx (some (.raw (w.heap.size+1) (.loop (J .ready none))))) (nx+1) (up β nx (some (.raw (w.heap.size+1)))) W1 _ (fun k=>z4.closed) ?_ n6 ?_ ?_ ?_ ?_).mono ?_
  .rintro m k m' k' ⟨c,hc⟩ hle he;exact⟨c,z4.closed m k m' k' hc hle he⟩
  .intro i hi;rw[up_ne _ _ (show i≠nx by omega)];exact hn i oG
  .refine Rs.append (Rs.append ?_ ?_) ?_
   .exact⟨by simp[KS],fun k d v hd hv=>(hu k d v hd (by simpa using hv)).step mF⟩
   .refine⟨rfl,fun k d v hd hv=>?_⟩;cases k with
    |zero=>
     simp only[List.getElem?_cons_zero,Option.some.injEq] at hd;simp only[List.getElem?_toArray,List.getElem?_cons_zero,Option.some.injEq] at hv;subst hd;subst hv;exact .fn _ [] [] [] [] rfl rfl oS oS
    |succ k=>simp at hd
   .exact⟨by simp[tV],fun k d v hd KT=>(hv k d v hd (by simpa using KT)).step mF⟩
  .rintro k x m k' hx ⟨g,mc,nc,jk,hZ,hIk⟩ β2 w2 Gx tE sd AX Dl;obtain⟨WC,Ah,_,J1⟩:=sd.Af hZ;have akz:Gx.size=ps.size:=by rw[Dl.1];exact(Fz x (List.mem_of_getElem? hx)).1
   have hy:=run_yield (P:=P) (args:=Gx) Ah (by rw[uS];exact akz);simp only[uS,Zy] at hy;refine⟨fn,_,assign,body,hy,fun n'=>?_⟩;obtain⟨KU,kX⟩:=jk.enter sd;have Dm:hidden F β2 g (w.heap.size+1):=(jk.EW sd (fun i e=>(jk.wA e).2.2 rfl) WC rfl).2;have QM:(β2.via g).free (w.heap.size+1):=(jk.EW sd (fun i e=>(jk.wA e).2.2 rfl) WC rfl).1;have hE2:ESim (hidden F β2 g) (β2.via g) w2 env { tmps:=a.tmps,defers:=[] }:=fun t=>own jk tE (C.e t)
   obtain⟨hE3,UZ⟩:=MH ps.toList x Gx.toList env a.tmps (by simp[Dl.1]) (fun j d v hd hv=>
    ((Fz x (List.mem_of_getElem? hx)).2 d (List.mem_of_getElem? hd) F β2 w2 v (Dl.2 j d v hd (by simpa using hv))).gen (Nat.le_refl _)
     (fun b _ hb _=>⟨SameB.refl _ b,Pla.free_via (owned_free hb).2 _,fun e=>e.elim (owned_free hb).1 fun e=>e.1 (owned_free hb).2⟩) (fun i p _ hp=>by cases hp)) (fun t ht=>by rw[bX];exact yU t ht) hE2
   have akA:=wX (hidden F β2 g) (some (w.heap.size+1)) n' noY false nc (β2.via g) w2
    { tmps:=(ps.toList.zip Gx.toList).foldl (fun tmps (t,a)=>tmps.setIfInBounds t a) a.tmps,defers:=[] } oS (fun _ _ _ _ _ h=>h.elim) (by show j5 (Array.size _) assign=true;rw[UZ,bX];exact akx) _ ⟨setAll env ps.toList x,mc,nc⟩ (β2.via g) w2 _
    (z5 k mc nc x hx hIk) ⟨hE3,KU,kX⟩ (gV.refl ⟨setAll env ps.toList x,mc,nc⟩ _ _ _).Gt
   refine roundIn_of_wpIn trivial (wpIn_mono akA fun e a3 w3 hp=>?_);obtain⟨jP,β3,WD,Gy,wZ⟩:=hp;cases e with
   |normal=>
    have Jk:w.heap.size+1<w3.heap.size:=Nat.lt_of_lt_of_le J1 wZ.step.size;have ad3:w3.heap[w.heap.size+1]? =some (.loop (J .ready none)):=(wZ.step.imm _ J1 QM).1.trans Ah;refine⟨_,run_beginRound ad3 (by rw[uS]),?_⟩;have akB:=Gy.tD (l:=w.heap.size+1) Dm (.loop { J .ready none with state:=.busy });have ad4:=wY (hidden F β2 g) (some (w.heap.size+1)) n' noY false jP.nx β3 _ a3 oS (fun _ _ _ _ _ h=>h.elim) (by rw[wZ.size];show j5 (Array.size _) body=true;rw[UZ,bX];exact aky) _ jP β3 _ a3 WD akB (gV.refl jP _ _ _).Gt;refine wpIn_mono ad4 fun e a4 w4 hp4=>?_;obtain⟨WE,β4,Gz,WG,Dn⟩:=hp4;have ad5:w.heap.size+1<w4.heap.size:=Nat.lt_of_lt_of_le (by simpa using Jk) Dn.step.size
    have ad6:w4.heap[w.heap.size+1]? =some (.loop { J .ready none with state:=.busy }):=
     (Dn.step.imm _ (by simpa using Jk) (wZ.step.imm _ J1 QM).2).1.trans (World.putObj_heap_same Jk)
    have fin:∀ (jump:Option Code) (K:D->Mem->Nat->Prop),(∀ f' kp qt,View nx nx f' WE.mem WE.nx kp qt->kp nx=some (.raw (w.heap.size+1) (.loop (J (if jump.isNone then .ready else .done) jump)))->K (.s (.bool jump.isNone)) kp qt)->
     ∃ v w',(Instr.endRound (w.heap.size+1) jump).run P w4=.ok v w'/\∃ v' d m' nx' β',Ending.returned v=.returned v'/\K d m' nx'/\MSim P F m' β' w'/\(∀ i,nx'<=i->β' i=none)/\R F β' w' d v'/\Step β2 w2 β' w'/\k'<=nx'/\∀ i,i<k'->β2 i=none->β' i=none:=fun jump K hK=>by
     have fD:=run_endRound (P:=P) jump ad6;have e1:∀ s p,({ ({ J .ready none with state:=.busy }:Loop) with state:=s,pending:=p }:Loop)=J s p:=fun s p=>by rw[uS]
     rw[e1] at fD
     obtain⟨f',kp,qt,jw,v1,v2,v3,v4,v5,v6,v7⟩:=jk.ad2 sd AX hZ (o':=.loop (J (if jump.isNone then .ready else .done) jump)) (WG.m.tD Dm _)
      (((wZ.step.x _).trans (tw.put _ β3 w3 _)).trans ((Dn.step.x _).trans (tw.put _ β4 w4 _))) WG.n (Nat.le_trans wZ.le Dn.le) (fun i hi hb=>Dn.grow i (Nat.lt_of_lt_of_le hi wZ.le) (wZ.grow i hi hb)) (World.putObj_heap_same ad5)
     exact⟨_,_,fD,.bool jump.isNone,_,kp,qt,jw,rfl,hK f' kp qt v1 v2,v3,v4,.s _ rfl,v5,v6,v7⟩
    cases e with
    |normal=>exact fin none _ fun f' kp qt v1 v2=>.inl ⟨rfl,f',_,_,v1,v2,Gz⟩
    |ret=>exact fin (some .ret) _ fun f' kp qt v1 v2=>.inr ⟨rfl,.ret,f',_,_,v1,v2,Gz⟩
    |exit id=>exact fin (some (.exit id)) _ fun f' kp qt v1 v2=>.inr ⟨rfl,.exit id,f',_,_,v1,v2,Gz⟩
    |_=>exact Gz.elim
   |_=>exact WD.elim
  .refine⟨f₀,mem,nx,⟨Nat.le_refl _,by omega,fun i hi=>by simp[f₀,hi],fun i hi=>⟨i,by simp[f₀,hi],by omega,by omega⟩,fun i hi=>by simp[f₀,Nat.not_lt.2 hi],fun i i' j h1 h2=>?_,fun i r hi=>?_⟩,up_same _ _ _,Gw⟩
   .simp only[f₀,Option.ite_none_right_eq_some,Option.some.injEq] at h1 h2;omega
   .have ao:i<nx:=by
     rcases Nat.lt_or_ge i nx with h1|h1
     .exact h1
     .rw[ab4 i h1] at hi;cases hi
    exact⟨i,by simp[f₀,ao],by rw[up_ne _ _ (show i≠nx by omega),hi];rfl⟩
  .rintro e w6 ⟨v,d6,m6,nx6,β6,rfl,U0,vo,hn6,_,uT,aqO,akC⟩
   have fin:∀ {g:Nat->Option Nat} {mc:Mem} {nc:Nat} (o':Obj),View nx nx g mc nc m6 nx6->
    eK P F ⟨env,mc,nc⟩ (β6.via g) (w6.putObj (w.heap.size+1) o') { a with defers:=[mark w.heap.size]++a.defers }/\
    qF N₀ β₀ w₀ a₀ ⟨env,mc,nc⟩ (β6.via g) (w6.putObj (w.heap.size+1) o') { a with defers:=[mark w.heap.size]++a.defers }:=fun {g mc nc} o' jk=>by
    obtain⟨KU,kX⟩:=jk.enter vo
    have Dm:hidden F β6 g (w.heap.size+1):=by
     have hβ:β6 nx=some (.raw (w.heap.size+1))\/β6 nx=some .dead:=uT.keep nx _ (up_same _ _ _);rcases hβ with hβ|hβ
     .exact(jk.EW vo (fun i e=>(jk.wA e).2.2 rfl) hβ rfl).2
     .exfalso;rcases U0 with⟨f',mc',pA,_,J2,_⟩|⟨c,f',mc',pA,_,J2,_⟩
      .rw[(vo.Af J2).1] at hβ;cases hβ
      .rw[(vo.Af J2).1] at hβ;cases hβ
    refine⟨⟨fun t=>((own jk uT (C.e t)).tD Dm o').weak fun b hb=>.inl hb,(KU.tD Dm o').weak fun b hb=>.inl hb,kX⟩,M.trans ⟨⟨?_,fun b hb hf=>?_,fun i p hp=>?_,(mF.out.trans uT.out).trans ⟨rfl,rfl⟩⟩,jk.low,fun i hi hb=>?_,rfl,[mark w.heap.size],rfl,?_⟩⟩
    .have:=uT.size;simp;omega
    .obtain⟨g1,g2⟩:=mF.imm b hb hf;obtain⟨g3,g4⟩:=uT.imm b oG g2;exact⟨(World.putObj_heap_other oG).trans (g3.trans g1),Pla.free_via g4 _⟩
    .have hi:i<nx:=by
      rcases Nat.lt_or_ge i nx with h1|h1
      .exact h1
      .rw[hn i h1] at hp;cases hp
     simp only[Pla.via,jk.id i hi,Option.bind_some];exact(mF.trans uT).keep i p hp
    .have hi:i<nx:=hi;simp only[Pla.via,jk.id i hi,Option.bind_some];exact akC i oG (by rw[up_ne _ _ oG];exact hb)
    .refine⟨w.heap.size,rfl,Nat.le_refl _,?_,?_,?_,trivial⟩
     .have:=uT.size;simp;omega
     .exact(World.putObj_heap_other oG).trans ((uT.imm _ oG QL).1.trans hD1)
     .exact Pla.free_via (uT.imm _ oG QL).2 _
   rcases U0 with⟨g,mc,nc,jk,hZ,hI⟩|⟨c,g,mc,nc,jk,hZ,hj⟩
   .have fD:(Instr.endLoop (w.heap.size+1)).run P w6=.ok none (w6.putObj (w.heap.size+1) (.loop (J .exhausted none))):=by
     have:=run_endLoop (P:=P) (vo.Af hZ).2.1 (by rw[uS];simp);rw[uS] at this ⊢;exact this
    obtain⟨g1,g2⟩:=fin (.loop (J .exhausted none)) jk;exact⟨none,_,fD,⟨env,mc,nc⟩,_,FA mc nc hI,g1,g2⟩
   .have fD:(Instr.endLoop (w.heap.size+1)).run P w6=.ok (some c) (w6.putObj (w.heap.size+1) (.loop (J .exhausted (some c)))):=by
     have:=run_endLoop (P:=P) (vo.Af hZ).2.1 (by rw[uS];simp);rw[uS] at this ⊢;exact this
    obtain⟨g1,g2⟩:=fin (.loop (J .exhausted (some c))) jk;refine⟨some c,_,fD,?_⟩;cases c with
    |ret=>exact wpIn_ret ⟨⟨env,mc,nc⟩,_,hj,g1,g2⟩
    |exit id=>exact wpIn_exit ⟨⟨env,mc,nc⟩,_,hj,g1,g2⟩
    |_=>exact hj.elim
 |_=>intro F r n Y rf N₀ β₀ w₀ a₀ U X ao Q st β w a h;exact h.elim
end
section
variable{P:Program}{F:Nat->Prop}{fn:Func}
def As(tmps:Array Value):ResultVar->Sem Value
 | .tmp t=>pure (tmps.getD t undef)
 | .cell x t=>do loadVar t (<- asAddr (tmps.getD x undef))
theorem YJ(fn:Func)(tmps:Array Value):results fn tmps=(do
 let vs<- fn.results.mapM (As tmps)
 pure (if h:vs.size=1 then vs[0] else .tuple vs)):=by
 unfold results;congr 1
theorem aca{st:St}{β:Pla}{w:World}{a:Act}(C:eK P F st β w a){r:ResultVar}{p:Prop}{d:D}(h:resD P st r=some (p,d))(hp:p):
 ∃ v,(As a.tmps r).run P w=.ok v w/\R F β w d v:=by
 unfold resD at h;split at h
 .cases h;exact⟨_,by simp[As],C.e _⟩
 .rename_i x t;have hx:=C.e x;split at h
  .rename_i i off M;rw[M] at hx;split at h
   .rename_i cs e hm;cases h;obtain⟨b,o,room,sz,X,hv,aA⟩:=hx.rp_inv C.m hm;obtain⟨u,J,hr⟩:=run_load_rd (P:=P) hp.1 (aA.rd.1.drop off) oP;refine⟨u,?_,hr⟩;simp only[As,hv,Sem.run_bind];simp[asAddr,J]
   .cases h
  .rename_i cs M;rw[M] at hx;cases h;obtain⟨b,o,hv,_,_,_,U⟩:=hx.pt_inv;obtain⟨u,J,hr⟩:=run_load_rd (P:=P) hp.1 U hp.2;refine⟨u,?_,hr⟩;simp only[As,hv,Sem.run_bind];simp[asAddr,J]
  .cases h
theorem NZ{st:St}{β:Pla}{w:World}{a:Act}(J:eK P F st β w a){K:List D->Prop}:∀ (rs:List ResultVar) (C:List D),retL P st rs C K->
 ∃ vs ds,(rs.mapM (As a.tmps)).run P w=.ok vs w/\vs.length=ds.length/\K (C++ds)/\
  ∀ (k:Nat) (d:D) (v:Value),ds[k]? =some d->vs[k]? =some v->R F β w d v
 |[],C,h=>⟨[],[],by simp,rfl,by simpa[retL] using h,by simp⟩
 |r::rs,C,h=>by
  simp only[retL] at h;split at h
  .rename_i p d hr;obtain⟨v,h1,h2⟩:=aca J hr h.1;obtain⟨vs,ds,h3,h4,h5,M⟩:=NZ J rs _ h.2;refine⟨v::vs,d::ds,?_,by simp[h4],by simpa using h5,fun k d' U hd hv=>?_⟩
   .rw[List.mapM_cons];simp only[Sem.run_bind];rw[h1];simp only[Result.andThen_ok,Sem.run_bind];rw[h3];simp
   .cases k with
    |zero=>simp at hd hv;subst hd;subst hv;exact h2
    |succ k=>exact M k d' U (by simpa using hd) (by simpa using hv)
  .exact h.elim
theorem Yv{st:St}{β:Pla}{w:World}{a:Act}(C:eK P F st β w a){K:D->Prop}(h:retL P st fn.results.toList [] fun ds=>K (one1 ds)):
 ∃ v d,(results fn a.tmps).run P w=.ok v w/\K d/\R F β w d v:=by
 obtain⟨vs,ds,h1,h2,h3,h4⟩:=NZ C _ _ h;simp only[List.nil_append] at h3;refine⟨if h:vs.toArray.size=1 then vs.toArray[0] else .tuple vs.toArray,one1 ds,?_,h3,?_⟩
 .rw[YJ,Array.mapM_eq_mapM_toList];simp only[Sem.run_bind,map_eq_pure_bind,bind_assoc];rw[h1];simp
 .split
  .rename_i bX;simp only[List.size_toArray] at bX;obtain⟨v,rfl⟩:=List.length_eq_one_iff.1 bX;obtain⟨d,rfl⟩:=List.length_eq_one_iff.1 (show ds.length=1 by simpa using h2.symm);exact h4 0 d v rfl rfl
  .rename_i bX;simp only[List.size_toArray] at bX
   have:one1 ds=.tup ds:=by
    unfold one1;split
    .rename_i d;simp at h2;exact absurd h2 bX
    .rfl
   rw[this];exact .tup ds vs h2 h4
theorem Yg{w:World}{b:Nat}{x:Option (List Deferred)}(h:w.heap[b]? =some (.deferred x))(o:Nat):w.cell? ⟨b,o,none⟩=none:=by
 simp[World.cell?,h]
theorem R.N2{w:World}{b:Nat}{x:Option (List Deferred)}(hb:w.heap[b]? =some (.deferred x))(o:Obj)(J:Nat):SameB w (w.putObj b o) J:=by
 refine⟨fun k u M=>?_,fun ms c hm=>?_⟩
 .have C:J≠b:=fun e=>by rw[e,Yg hb] at M;cases M
  exact(cell_of_heap (World.putObj_heap_other C)).trans M
 .have C:J≠b:=fun e=>by rw[e,hb] at hm;cases hm
  exact(World.putObj_heap_other C).trans hm
theorem eK.putD{st:St}{β:Pla}{w:World}{a:Act}{b:Nat}{x:Option (List Deferred)}(hb:w.heap[b]? =some (.deferred x))(hf:β.free b)(o:Obj)(h:eK P F st β w a):eK P F st β (w.putObj b o) a:=
 ⟨fun t=>(h.e t).gen oS (fun C _ h1 h2=>⟨R.N2 hb o C,h2,h1⟩) fun _ _ _ h=>.inl h,⟨fun i r hi=>by
  obtain⟨p,hp,hr⟩:=h.m.row i r hi;exact⟨p,hp,hr.gen oS (fun C _ h1 h2=>⟨R.N2 hb o C,h2,h1⟩) (fun _ _ _ h=>.inl h) fun c hc=>World.putObj_heap_other fun e=>hf i p hp (e▸hc)⟩,
  h.m.inj,fun i p c hp hc=>by simpa using h.m.lt i p c hp hc,h.m.nf,fun c hc=>by simpa using h.m.fb c hc⟩,h.n⟩
theorem Marks.put{β:Pla}{w:World}{lo b:Nat}(o:Obj):∀ {ds:List Deferred} {hi:Nat},hi<=b->Marks β w lo ds hi->Marks β (w.putObj b o) lo ds hi
 |[],_,_,_=>trivial
 |_::_,_,hle,⟨c,h1,h2,h3,h4,h5,h6⟩=>⟨c,h1,h2,h3,(World.putObj_heap_other oG).trans h4,h5,Marks.put o oG h6⟩
theorem Mp{n:Nat}{tmps:Array Value}{R:Ending->World->Prop}{st:St}{β₀ β:Pla}{w₀:World}{a:Act}:∀ (ds:List Deferred) (hi:Nat) (w:World),Marks β w w₀.heap.size ds hi->eK P F st β w a->Step β₀ w₀ β w->
 (∀ w',eK P F st β w' a->Step β₀ w₀ β w'->∃ v,(results fn tmps).run P w'=.ok v w'/\R (.returned v) w')->LeavesInM (Fe none) n P fn tmps R ds .returning w
 |[],_,w,_,hs,aU,K=>K w hs aU
 |d::ds,hi,w,⟨b,h1,h2,h3,h4,h5,h6⟩,hs,aU,K=>by
  subst h1;refine⟨by simp,.inl ⟨b,_,rfl,run_takeDeferred h4,Mp ds b _ (h6.put _ (Nat.le_refl _)) (hs.putD h4 h5 _) ?_ K⟩⟩;refine⟨by simpa using aU.size,fun c hc hf=>?_,aU.keep,aU.out.trans ⟨rfl,rfl⟩⟩;obtain⟨C,J⟩:=aU.imm c hc hf;exact⟨(World.putObj_heap_other oG).trans C,J⟩
theorem BD(ng:P.follows .mixedOrders=true){Y:YSpec}{f:FuncId}{c:Code}(hf:P.funcs[f]? =some fn)(hb:fn.body=some c)(ao:j5 fn.ntmps c=true){args:List D}(hn:Nat.ble args.length fn.ntmps=true){m:Mem}{nx:Nat}{K:D->St->Prop}
 (h:AW P Y true c (retQ P fn.results.toList K) ⟨envOf args,m,nx⟩) {β:Pla} {w:World} {vs:Array Value} (hY:∀ l args m nx K,Y l args m nx K->YCall P F β w l args m nx K) (hm:MSim P F m β w) (dM:∀ i,nx<=i->β i=none) (hR:Rs F β w args vs):
 Calls P f vs w fun e w'=>∃ v d st' β',e=.returned v/\K d st'/\R F β' w' d v/\MSim P F st'.mem β' w'/\(∀ i,st'.nx<=i->β' i=none)/\Step β w β' w'/\nx<=st'.nx/\∀ i,i<nx->β i=none->β' i=none:=by
 have hle:args.length<=fn.ntmps:=by simpa using hn
 refine(callsIn_wide (n:=0)).1 (callsIn_of_wp_marks hf hb trivial ?_)
 have bX:(vs++Array.replicate (fn.ntmps - vs.size) undef).size=fn.ntmps:=by
  simp only[Array.size_append,Array.size_replicate,hR.1];omega
 let a₀:Act:={ tmps:=vs++Array.replicate (fn.ntmps - vs.size) undef,defers:=[] }
 have hE:ESim F β w (envOf args) a₀:=fun t=>by
  unfold envOf;rcases Nat.lt_or_ge t args.length with ao|X
  .have h1:args.getD t .u=args[t]:=by simp[ao]
   have h2:a₀.tmps.getD t undef=vs[t]'(by rw[hR.1];exact ao):=by
    show(vs++Array.replicate (fn.ntmps - vs.size) undef).getD t undef=_;have h3:t<vs.size:=by rw[hR.1];exact ao
    simp[Array.getD_eq_getD_getElem?,Array.getElem?_append_left h3,h3]
   rw[h1,h2];exact hR.2 t _ _ (by simp[ao]) (by simp[hR.1,ao])
  .have h1:args.getD t .u=.u:=by simp[X]
   rw[h1];exact .u _
 have:=aaL ng c F none 0 Y true nx β w a₀ (fun _=>rfl) hY (by show j5 (vs++Array.replicate (fn.ntmps - vs.size) undef).size c=true;rw[bX];exact ao) _ ⟨envOf args,m,nx⟩ β w a₀ h ⟨hE,hm,dM⟩ (gV.refl ⟨envOf args,m,nx⟩ β w a₀).Gt;refine wpIn_mono this fun e a' w' hp=>?_;obtain⟨st',β',hq,dH,C⟩:=hp
 have U:(retL P st' fn.results.toList [] fun ds=>K (one1 ds) st')->LeavesInM (Fe none) 0 P fn a'.tmps (fun e w'=>∃ v d st' β',e=.returned v/\K d st'/\R F β' w' d v/\MSim P F st'.mem β' w'/\(∀ i,st'.nx<=i->β' i=none)/\Step β w β' w'/\nx<=st'.nx/\∀ i,i<nx->β i=none->β' i=none) a'.defers .returning w':=fun hq=>by
  obtain⟨ds,h1,h2⟩:=C.defers;rw[h1,show a₀.defers=[] from rfl,List.append_nil];refine Mp ds _ w' h2 dH C.step fun w'' M J=>?_;obtain⟨v,d,g1,g2,g3⟩:=Yv (K:=fun d=>K d st') M hq;exact⟨v,g1,v,d,st',β',rfl,g2,g3,M.m,M.n,J,C.le,C.grow⟩
 cases e with
 |normal=>exact U hq
 |ret=>exact U hq
 |_=>exact hq.elim
theorem Hz{w:World}(C:∀ b,F b->b<w.heap.size):MSim P F (fun _=>none) noRows w:=
 ⟨fun i r h=>oH,fun i j p q b h=>oH,fun i p b h=>oH,fun i p b h=>oH,C⟩
theorem He{β':Pla}{w w':World}(h:Step noRows w β' w'):Kept w w':=
 ⟨h.size,fun b hb=>(h.imm b hb fun i p hp=>by cases hp).1,h.out⟩
theorem Tr.CA{d:D}(h:Tr d){β:Pla}{w:World}{v:Value}(hv:R F β w d v):R F noRows w d v:=
 (h F β w v hv).lift fun b hb=>⟨fun e=>hb (.inl e),fun i p hp=>by cases hp⟩
structure qu(P:Program)(f:FuncId)(fn:Func)(c:Code):Prop where
 hf:P.funcs[f]? =some fn
 hb:fn.body=some c
 ao:j5 fn.ntmps c=true
 he:enterOk P f=true
theorem pX(X:P.follows .mixedOrders=true){f:FuncId}{c:Code}(hf:qu P f fn c){args:List D}(hn:Nat.ble args.length fn.ntmps=true){m:Mem}{nx:Nat}{ep:D->Mem->Nat->Prop}
 (h:AW P noY true c (retQ P fn.results.toList fun d st=>ep d st.mem st.nx) ⟨envOf args,m,nx⟩):ACalls P f args m nx ep:=
 ⟨hf.he,fun F β w vs hm C hR=>(BD X hf.hf hf.hb hf.ao hn h (fun _ _ _ _ _ h=>h.elim) hm C hR).mono fun e w' ⟨v,d,st',β',h1,h2,h3,h4,h5,J,M,U⟩=>⟨v,d,st'.mem,st'.nx,β',h1,h2,h4,h5,h3,J,M,U⟩⟩
theorem a9(M:P.follows .mixedOrders=true){f:FuncId}{c:Code}(hf:qu P f fn c){args:List D}(hn:Nat.ble args.length fn.ntmps=true)(ht:∀ a∈args,Tr a){r:D}(hr:Tr r)
 (h:AW P noY true c (retQ P fn.results.toList fun d _=>d=r) ⟨envOf args,fun _=>none,0⟩):PCall P f args r:=
 ⟨hf.he,ht,fun F w vs J hR=>(BD M hf.hf hf.hb hf.ao hn h (fun _ _ _ _ _ h=>h.elim) (Hz J) (fun _ _=>rfl) hR).mono fun e w' hp=>by
  obtain⟨v,d,st',β',h1,rfl,h3,h4,h5,C,U,X⟩:=hp
  exact⟨v,h1,hr.CA h3,He C⟩⟩
theorem uu (ng:P.follows .mixedOrders=true){f:FuncId}{c:Code}(hf:qu P f fn c){args:List D}(hn:Nat.ble args.length fn.ntmps=true)(ht:∀ a∈args,Tr a){es:List D}(lU:∀ a∈es,Tr a){k:Nat}{t:TypeId}
 (h:AW P noY true c (retQ P fn.results.toList fun d st=>∃ i,d=.rs i 0 k/\st.mem i=some (.cells es t)) ⟨envOf args,fun _=>none,0⟩):OCall P f args es k t:=
 ⟨hf.he,ht,fun F w vs hF hR=>(BD ng hf.hf hf.hb hf.ao hn h (fun _ _ _ _ _ h=>h.elim) (Hz hF) (fun _ _=>rfl) hR).mono fun e w' hp=>by
  obtain⟨v,d,st',β',h1,⟨i,rfl,hi⟩,h3,h4,h5,J,h7,h8⟩:=hp;obtain⟨p,hp,aA⟩:=h4.row i _ hi;refine⟨v,p,h1,?_,fun b hb=>⟨?_,h4.lt i p b hp hb⟩,?_,?_,He J⟩
  .rintro rfl;cases aA
  .rcases Nat.lt_or_ge b w.heap.size with ao|M
   .exact absurd hb ((J.imm b ao fun i p hp=>by cases hp).2 i p hp)
   .exact M
  .have lift:∀ d∈es,∀ u,R F β' w' d u->R (fun x=>F x\/p.blk=some x) noRows w' d u:=fun d hd u hu=>
    (lU d hd F β' w' u hu).lift fun b hb=>⟨fun e=>hb (by
     rcases e with e|e
     .exact .inl e
     .exact .inr fun mu=>mu i p hp e),fun i p hp=>by cases hp⟩
   cases aA with
   |nil _=>exact .nil _
   |cells _ _ b o room sz c q1 q2 q3 q4 q5=>
    refine .cells es t b o room sz c q1 q2 q3 q4 fun j d hd=>?_;obtain⟨u,u1,u2,u3⟩:=q5 j d hd;exact⟨u,u1,lift d (List.mem_of_getElem? hd) u u2,u3⟩
  .cases h3 with
   |rsd _ _ _ _ C _=>rw[C] at hp;cases hp;cases aA
   |rsn _ a C=>rw[C] at hp;cases hp;exact .rsn 0 a (up_same _ _ _)
   |rsz _ _ a b o len room sz C=>rw[C] at hp;cases hp;exact .rsz 0 0 a b o len room sz (up_same _ _ _)
   |rs _ _ _ cap b o len room sz C U X g3 g4=>rw[C] at hp;cases hp;exact .rs 0 0 k cap b o len room sz (up_same _ _ _) U X g3 g4⟩
def U4(C:Nat)(xs:List (List D))(I:Nat->Mem->Nat->Prop)(Stop:Mem->Nat->Prop):YSpec:=fun l args m nx ep=>
 l=C/\∃ k,xs[k]? =some args/\I k m nx/\∀ d m' nx',SeqPost I Stop k d m' nx'->ep d m' nx'
theorem YCall.mono{β:Pla}{w:World}{l:Nat}{args:List D}{m:Mem}{nx:Nat}{K K':D->Mem->Nat->Prop}(hk:∀ d m nx,K d m nx->K' d m nx)(h:YCall P F β w l args m nx K):YCall P F β w l args m nx K':=
 fun β' w' us h1 h2 h3 h4=>by
  obtain⟨f,tmps,assign,body,C,J⟩:=h β' w' us h1 h2 h3 h4;exact⟨f,tmps,assign,body,C,fun n=>RoundIn.mono (F:=Fence.wide) (J n) fun e w' ⟨v,d,m',nx',β',M,U,X⟩=>⟨v,d,m',nx',β',M,hk _ _ _ U,X⟩⟩
theorem IX(ng:P.follows .mixedOrders=true){f:FuncId}{c:Code}(hf:qu P f fn c){fs cs:List D}(hn:Nat.ble (fs.length+1+cs.length) fn.ntmps=true){xs:List (List D)}
 (h:∀ (l:Nat) (I:Nat->Mem->Nat->Prop) (Stop:Mem->Nat->Prop) (m:Mem) (nx:Nat),(∀ k,Closed (I k))->Closed Stop->I 0 m nx->
  AW P (U4 l xs I Stop) true c (retQ P fn.results.toList fun _ st=>I xs.length st.mem st.nx\/Stop st.mem st.nx) ⟨envOf (fs++[.fn (.yield l) [] []]++cs),m,nx⟩):SeqA P f fs cs xs:=
 ⟨hf.he,fun F l I Stop m nx β w vs hI C hm J hR hy h0=>
  (BD ng hf.hf hf.hb hf.ao (by simpa[Nat.add_assoc,Nat.add_comm,Nat.add_left_comm] using hn) (h l I Stop m nx hI C h0) (fun l' args m' nx' K hK=>by
   obtain⟨rfl,k,h1,h2,h3⟩:=hK
   exact(hy k args m' nx' h1 h2).mono h3) hm J hR).mono fun e w' ⟨v,d,st',β',h1,h2,h3,h4,h5,M,U,X⟩=>⟨v,d,st'.mem,st'.nx,β',h1,h2,h4,h5,h3,M,U,X⟩⟩
end
section
variable{P:Program}{Y:YSpec}{rf:Bool}{Q:Exit->St->Prop}{st:St}
theorem OS(c a b):AW P Y rf (.cond c a b) Q st=((opd st.env c).ask/\match (opd st.env c).core with
 | .s (.bool t)=>(t=true->AW P Y rf a Q st)/\(t=false->AW P Y rf b Q st)
 | .ub=>AW P Y rf a Q st/\AW P Y rf b Q st
 |_=>False):=rfl
theorem Iw{b:Code}(I:St->Prop)(μ:St->Nat)(h0:I st)(h:∀ st',I st'->AW P Y rf b (seqQ (fun J=>∃ C,Ghost P J C/\I C/\μ C<μ st') Q) st'):AW P Y rf (.loop b) Q st:=⟨I,μ,h0,h⟩
theorem ACalls.mono{f:FuncId}{args:List D}{m:Mem}{nx:Nat}{ep C:D->Mem->Nat->Prop}(h:ACalls P f args m nx ep)(hp:∀ d m' nx',ep d m' nx'->C d m' nx'):ACalls P f args m nx C:=
 ⟨h.1,fun F β w vs hm hn hR=>(h.2 F β w vs hm hn hR).mono fun e w' ⟨v,d,m',nx',β',h1,h2,h3⟩=>⟨v,d,m',nx',β',h1,hp _ _ _ h2,h3⟩⟩
theorem CallOp.mono{dr:Bool}{f:FuncId}{args:List D}{K K':D->Mem->Nat->List Nat->List Nat->Prop}(hk:∀ d m nx rd wr,K d m nx rd wr->K' d m nx rd wr)(h:CallOp P dr st f args K):CallOp P dr st f args K':=by
 rcases h with⟨r,h1,h2⟩|⟨args',rds,r,h1,h2,h3,h4⟩|⟨es,n,t,h1,h2⟩|⟨h1,h2⟩|⟨r,ups,rds,h1,h2,h3⟩|⟨es,n,t,ups,rds,h1,h2,h3,h4⟩
 .exact .inl ⟨r,h1,hk _ _ _ _ _ h2⟩
 .exact .inr (.inl ⟨args',rds,r,h1,h2,h3,hk _ _ _ _ _ h4⟩)
 .exact .inr (.inr (.inl ⟨es,n,t,h1,hk _ _ _ _ _ h2⟩))
 .exact .inr (.inr (.inr (.inl ⟨h1,h2.mono fun d m nx h=>hk _ _ _ _ _ h⟩)))
 .exact .inr (.inr (.inr (.inr (.inl ⟨r,ups,rds,h1,h2,hk _ _ _ _ _ h3⟩))))
 .exact .inr (.inr (.inr (.inr (.inr ⟨es,n,t,ups,rds,h1,h2,h3,hk _ _ _ _ _ h4⟩))))
class dG(Y:YSpec):Prop where
 mono:∀ l args m nx K K',(∀ d m nx,K d m nx->K' d m nx)->Y l args m nx K->Y l args m nx K'
instance:dG noY:=⟨fun _ _ _ _ _ _ _ h=>h⟩
instance{l:Nat}{xs:List (List D)}{I:Nat->Mem->Nat->Prop}{Stop:Mem->Nat->Prop}:dG (U4 l xs I Stop):=⟨fun _ _ _ _ _ _ hk ⟨h1,k,h2,h3,h4⟩=>⟨h1,k,h2,h3,fun d m nx h=>hk _ _ _ (h4 d m nx h)⟩⟩
theorem AOp.mono[dG Y]{ops:Array Oper}{dr:Bool}{o:Oper}{K K':St->List Nat->List Nat->Prop}(hk:∀ st rd wr,K st rd wr->K' st rd wr)(h:AOp P Y ops dr o st K):AOp P Y ops dr o st K':=by
 unfold AOp at h ⊢;split at h
 .refine⟨h.1,?_⟩;have h:=h.2;split at h
  .exact h.mono fun _ _ _ _ _ h=>hk _ _ _ h
  .split at h
   .exact⟨h.1,dG.mono _ _ _ _ _ _ (fun _ _ _ h=>hk _ _ _ h) h.2⟩
   .split at h
    .exact⟨h.1,hk _ _ _ h.2⟩
    .exact h
 .split at h
  .exact h
  .split at h
   .rcases h with⟨r,h1,h2⟩|⟨h1,h2⟩
    .exact .inl ⟨r,h1,hk _ _ _ h2⟩
    .exact .inr ⟨fun hc=>⟨(h1 hc).1,(h1 hc).2.mono fun _ _ _ _ _ h=>hk _ _ _ h⟩,fun hc=>hk _ _ _ (h2 hc)⟩
   .split at h
    .exact⟨fun hc=>⟨(h.1 hc).1,(h.1 hc).2.1,dG.mono _ _ _ _ _ _ (fun _ _ _ h=>hk _ _ _ h) (h.1 hc).2.2⟩,fun hc=>hk _ _ _ (h.2 hc)⟩
    split at h
    .split at h
     .rename_i hc;rw[if_pos hc];exact⟨h.1,hk _ _ _ h.2⟩
     .rename_i hc;rw[if_neg hc];exact⟨fun hc=>⟨(h.1 hc).1,(h.1 hc).2.1,hk _ _ _ (h.1 hc).2.2⟩,fun hc=>hk _ _ _ (h.2 hc)⟩
    .exact⟨h.1,hk _ _ _ h.2⟩
theorem AOps.mono[dG Y]{ops:Array Oper}{dr:Bool}{cf:List (Nat×Nat)}{Q C:Exit->St->Prop}(hq:∀ st,Q .normal st->C .normal st):∀ (l:List Oper) (st:St) (tr:Tra),AOps P Y ops dr cf Q l st tr->AOps P Y ops dr cf C l st tr
 |[],st,tr,h=>⟨h.1,hq _ h.2⟩
 |o::l,st,tr,h=>AOp.mono (fun st' rd wr h=>AOps.mono hq l st' _ h) h
theorem sZ:∀ (c:Code) {Y:YSpec} [dG Y] {rf:Bool} {Q C:Exit->St->Prop} {st:St},(∀ e st,Q e st->C e st)->AW P Y rf c Q st->AW P Y rf c C st:=by
 intro c
 induction c with
 |skip=>intro Y _ rf;exact fun hq h=>hq _ _ h
 |ret=>intro Y _ rf;exact fun hq h=>hq _ _ h
 |exit id=>intro Y _ rf;exact fun hq h=>hq _ _ h
 |region id ops draw=>
  intro Y _ rf Q C st hq h;cases draw with
  |false=>exact AOps.mono (hq .normal) _ _ _ h
  |true=>
   simp only[AW] at h ⊢;split at h
   .exact AOps.mono (hq .normal) _ _ _ h
   .exact h
 |seq a b J M=>
  intro Y _ rf Q C st hq h;refine J (fun e st' h=>?_) h;cases e with
  |normal=>obtain⟨U,hg,hb⟩:=h;exact⟨U,hg,M hq hb⟩
  |_=>exact hq _ _ h
 |cond c a b J M=>
  intro Y _ rf Q C st hq h;refine⟨h.1,?_⟩;have h:=h.2;split at h
  .exact⟨fun ht=>J hq (h.1 ht),fun ht=>M hq (h.2 ht)⟩
  .exact⟨J hq h.1,M hq h.2⟩
  .exact h
 |block id b ih=>
  intro Y _ rf Q C st hq h;refine ih (fun e st' h=>?_) h;cases e with
  |exit i=>
   simp only[blockQ] at h ⊢;split at h
   .rename_i hi;rw[if_pos hi];exact hq _ _ h
   .rename_i hi;rw[if_neg hi];exact hq _ _ h
  |_=>exact hq _ _ h
 |scope b ih=>
  intro Y _ rf Q C st hq h;refine ih (fun e st' h=>?_) h;cases e with
  |goto l=>exact h
  |_=>exact hq _ _ h
 |loop b ih=>
  intro Y _ rf Q C st hq h;obtain⟨I,μ,h0,h1⟩:=h;refine⟨I,μ,h0,fun st' hi=>ih (fun e U h=>?_) (h1 st' hi)⟩;cases e with
  |normal=>exact h
  |_=>exact hq _ _ h
 |label l=>intro Y _ rf;exact fun hq h=>hq _ _ h
 |rangeFunc g ps assign body J M=>
  intro Y _ rf Q C st hq h;obtain⟨J0,nZ,f,fs,cs,xs,I,X,FV,Fz,Gw,z5,FA⟩:=h;refine⟨J0,nZ,f,fs,cs,xs,I,X,FV,Fz,Gw,fun k m nx x hx hI=>J (fun e s h=>?_) (z5 k m nx x hx hI),fun m nx h=>hq _ _ (FA m nx h)⟩;cases e with
  |normal=>
   refine M (fun e s h=>?_) h;cases e with
   |normal=>exact h
   |ret=>exact hq _ _ h
   |exit id=>exact hq _ _ h
   |_=>exact h
  |_=>exact h
 |_=>intro Y _ rf;exact fun _ h=>h.elim
theorem least{p:Nat->Prop}:∀ j,p j->∃ i,p i/\∀ k,p k->i<=k:=by
 intro j
 induction j using Nat.strongRecOn with
 |_ j ih=>
  intro hj;by_cases h:∃ k,k<j/\p k
  .obtain⟨k,hk,hp⟩:=h;exact ih k hk hp
  .exact⟨j,hj,fun k hk=>Nat.le_of_not_lt fun ao=>h ⟨k,ao,hk⟩⟩
open Classical in
theorem N8[dG Y]{b:Code}(J:Nat->St->Prop){j₀:Nat}(h0:J j₀ st)(h:∀ j st',J j st'->AW P Y rf b (seqQ (fun iQ=>∃ M,Ghost P iQ M/\∃ j',j'<j/\J j' M) Q) st'):AW P Y rf (.loop b) Q st:=by
 have C:∀ st,(∃ j,J j st)->∃ i,J i st/\∀ k,J k st->i<=k:=fun st ⟨j,hj⟩=>least j hj
 let μ:St->Nat:=fun st=>if h:∃ j,J j st then Classical.choose (C st h) else 0
 have X:∀ st,(hj:∃ j,J j st)->J (μ st) st/\∀ k,J k st->μ st<=k:=fun st hj=>by
  have:μ st=Classical.choose (C st hj):=by simp only[μ];rw[dif_pos hj]
  rw[this];exact Classical.choose_spec (C st hj)
 refine Iw (fun st=>∃ j,J j st) μ ⟨j₀,h0⟩ fun st' hj=>sZ b (fun e iQ hq=>?_) (h (μ st') st' (X st' hj).1);cases e with
 |normal=>
  obtain⟨M,hg,j',ao,U⟩:=hq;exact⟨M,hg,⟨j',U⟩,Nat.lt_of_le_of_lt ((X M ⟨j',U⟩).2 j' U) ao⟩
 |_=>exact hq
end
section
variable{P:Program}{F:Nat->Prop}{β:Pla}{w:World}
theorem Tr.opt{c:Bool}{d:D}(h:Tr d):Tr (.opt c d):=fun F β w v hv=>by
 cases hv with
 |opt _ _ _ h1 h2=>exact .opt c d v (fun hc=>h F β w v (h1 hc)) h2
theorem Tr.agg{cs:List D}(h:∀ d∈cs,Tr d):Tr (.agg cs):=fun F β w v hv=>by
 obtain⟨vs,rfl,hl,C⟩:=hv.agg_inv;exact .agg cs vs hl fun k d u hd J=>h d (List.mem_of_getElem? hd) F β w u (C k d u hd J)
theorem Tr.tup{cs:List D}(h:∀ d∈cs,Tr d):Tr (.tup cs):=fun F β w v hv=>by
 obtain⟨vs,rfl,hl,C⟩:=hv.tup_inv;exact .tup cs vs hl fun k d u hd J=>h d (List.mem_of_getElem? hd) F β w u (C k d u hd J)
theorem Tr.sl{cs:List D}{n:Nat}(h:∀ d∈cs,Tr d):Tr (.sl cs n):=fun F β w v hv=>by
 cases hv with
 |sln a cap=>exact .sln a cap
 |sl _ _ b o cap us hf hb ao n1 ej hc C=>
  exact .sl cs n b o cap us (fun e=>e.elim hf fun e=>e hb) (fun i p hp=>by cases hp) ao n1 ej hc fun k d hd=>h d (List.mem_of_getElem? hd) F β w _ (C k d hd)
theorem Tr.pt{cs:List D}(h:∀ d∈cs,Tr d):Tr (.pt cs):=fun F β w v hv=>by
 cases hv with
 |pt _ b o us hf hb ao hc C=>
  exact .pt cs b o us (fun e=>e.elim hf fun e=>e hb) (fun i p hp=>by cases hp) ao hc fun k d hd=>h d (List.mem_of_getElem? hd) F β w _ (C k d hd)
theorem Tr.fn{f:Fn}{fs cs:List D}(h:∀ d∈fs,Tr d)(h':∀ d∈cs,Tr d):Tr (.fn f fs cs):=fun F β w v hv=>by
 cases hv with
 |fn _ _ _ us vs hl iS h1 h2=>
  exact .fn f fs cs us vs hl iS (fun k d u hd C=>h d (List.mem_of_getElem? hd) F β w u (h1 k d u hd C)) fun k d u hd C=>h' d (List.mem_of_getElem? hd) F β w u (h2 k d u hd C)
theorem Tr.im{es:List (Value×D)}(h:∀ x∈es,Tr x.2):Tr (.im es):=fun F β w v hv=>by
 cases hv with
 |im _ r ms clock hf hb hc hl dw hk C=>
  exact .im es r ms clock (fun e=>e.elim hf fun e=>e hb) (fun i p hp=>by cases hp) hc hl dw hk fun k x m hx hm=>h x (List.mem_of_getElem? hx) F β w _ (C k x m hx hm)
theorem Tr.s(x:Value):Tr (.s x):=fun F β w v hv=>by
 obtain⟨rfl,h⟩:=hv.s_inv;exact .s _ h
theorem Tr.ub:Tr .ub:=fun F β w v hv=>by
 obtain⟨b,rfl⟩:=hv.ub_inv;exact .ub b
theorem Tr.u:Tr .u:=fun F β w v _=>.u v
theorem Tr.z:Tr .z:=fun F β w v hv=>by
 obtain⟨a,rfl⟩:=hv.z_inv;exact .z a
theorem Tr.nil:∀ a∈([]:List D),Tr a:=fun _ h=>by cases h
theorem Tr.cons{d:D}{l:List D}(h:Tr d)(hl:∀ a∈l,Tr a):∀ a∈d::l,Tr a:=fun a ha=>by
 cases ha with
 |head=>exact h
 |tail _ ha=>exact hl a ha
theorem Tr.map{α:Type}{f:α->D}{l:List α}(h:∀ x,Tr (f x)):∀ a∈l.map f,Tr a:=fun a ha=>by
 obtain⟨x,_,rfl⟩:=List.mem_map.1 ha;exact h x
theorem Tr.flat{α:Type}{f:α->List D}{l:List α}(h:∀ x,∀ a∈f x,Tr a):∀ a∈l.flatMap f,Tr a:=fun a ha=>by
 obtain⟨x,_,hx⟩:=List.mem_flatMap.1 ha;exact h x a hx
end
instance(d:D):Decidable d.ask:=match d with
 | .opt c _=>inferInstanceAs (Decidable (c=true))
 | .u | .s _ | .ub | .agg _ | .tup _ | .z | .sl _ _ | .pt _ | .rs _ _ _ | .rp _ _ | .mp _ | .im _ | .fn _ _ _=>isTrue trivial
structure eO where
 pre:Prop
 [dec:Decidable pre]
 val:D
 ups:List (Nat×Option Row):=[]
 rd:List Nat:=[]
 new:Nat:=0
structure PD(α:Type) where
 p:Prop
 [dec:Decidable p]
 d:α
def eO.ia(e:eO):Eff:=⟨e.pre,e.val,e.ups,e.rd,e.new⟩
def FD(op:BinOp)(x y:Value):Option (PD Value):=
 match op,x,y with
 | .shl,.int k a,.int _ b=>some ⟨0<=b,.int k (k.wrap (a*2 ^ (min b.toNat k.bits)))⟩
 | .shr,.int k a,.int _ b=>some ⟨0<=b,.int k (a.fdiv (2 ^ (min b.toNat k.bits)))⟩
 | .add,.int k a,.int k' b=>some ⟨k=k',.int k (k.wrap (a+b))⟩
 | .sub,.int k a,.int k' b=>some ⟨k=k',.int k (k.wrap (a - b))⟩
 | .mul,.int k a,.int k' b=>some ⟨k=k',.int k (k.wrap (a*b))⟩
 | .quo,.int k a,.int k' b=>some ⟨k=k'/\b≠0,.int k (k.wrap (a.tdiv b))⟩
 | .rem,.int k a,.int k' b=>some ⟨k=k'/\b≠0,.int k (a.tmod b)⟩
 | .and,.int k a,.int k' b=>some ⟨k=k',.int k (intBitsV .and k a b)⟩
 | .or,.int k a,.int k' b=>some ⟨k=k',.int k (intBitsV .or k a b)⟩
 | .xor,.int k a,.int k' b=>some ⟨k=k',.int k (intBitsV .xor k a b)⟩
 | .andNot,.int k a,.int k' b=>some ⟨k=k',.int k (intBitsV .andNot k a b)⟩
 | .eql,.int k a,.int k' b=>some ⟨k=k',.bool (a==b)⟩
 | .neq,.int k a,.int k' b=>some ⟨k=k',.bool (a !=b)⟩
 | .lss,.int k a,.int k' b=>some ⟨k=k',.bool (decide (a<b))⟩
 | .leq,.int k a,.int k' b=>some ⟨k=k',.bool (decide (a<=b))⟩
 | .gtr,.int k a,.int k' b=>some ⟨k=k',.bool (decide (b<a))⟩
 | .geq,.int k a,.int k' b=>some ⟨k=k',.bool (decide (b<=a))⟩
 | .eql,.string a,.string b=>some ⟨True,.bool (a.toList==b.toList)⟩
 | .neq,.string a,.string b=>some ⟨True,.bool !(a.toList==b.toList)⟩
 | .lss,.string a,.string b=>some ⟨True,.bool (Op.bytesLess a.toList b.toList)⟩
 | .geq,.string a,.string b=>some ⟨True,.bool !(Op.bytesLess a.toList b.toList)⟩
 |_,_,_=>none
def Is(P:Program)(op:BinOp)(t:TypeId)(xs ys:List D):Option (PD D):=
 match op,flatT P t,zipV xs ys with
 | .eql,some ks,some q=>some ⟨q.1.map kindV=ks/\P.eqGuardType P.depth t=false,.s (.bool (veqs q.1 q.2))⟩
 | .neq,some ks,some q=>some ⟨q.1.map kindV=ks/\P.eqGuardType P.depth t=false,.s (.bool !(veqs q.1 q.2))⟩
 |_,_,_=>none
def Jv(P:Program)(op:BinOp)(t:TypeId)(x y:D):Option (PD D):=
 match x,y with
 | .s (.bool a),.s (.bool b)=>match op with
  | .eql=>some ⟨boT P t=true,.s (.bool (a==b))⟩
  | .neq=>some ⟨boT P t=true,.s (.bool !(a==b))⟩
  |_=>none
 | .s a,.s b=>(FD op a b).map fun r=> @PD.mk _ r.p r.dec (.s r.d)
 | .agg xs,.agg ys=>Is P op t xs ys
 |_,_=>none
def FE(P:Program)(m:Mem)(op:BinOp)(t:TypeId)(x:D)(y:Operand):Option eO:=
 match y,op,x with
 | .const (.slice none 0 0),.eql,.sl _ n=>some { pre:=slT P t=true,val:=if n=0 then .ub else .s (.bool false) }
 | .const (.pointer none),.eql,.rp i _=>match m i with
  |some _=>some { pre:=ptT P t=true,val:=.s (.bool false),rd:=[i] }
  |none=>none
 | .const (.pointer none),.neq,.rp i _=>match m i with
  |some _=>some { pre:=ptT P t=true,val:=.s (.bool true),rd:=[i] }
  |none=>none
 |_,_,_=>none
def Jw(P:Program)(m:Mem)(t:TypeId):D->Option eO
 | .sl _ n=>some { pre:=slT P t=true,val:=.s (.int .i64 n) }
 | .rs i _ n=>match m i with
  |some _=>some { pre:=slT P t=true,val:=.s (.int .i64 n),rd:=[i] }
  |none=>none
 | .z=>some { pre:=slT P t=true,val:=.s (.int .i64 0) }
 | .s (.string b)=>some { pre:=stT P t=true,val:=.s (.int .i64 b.size) }
 | .agg _=>some { pre:=arT P t=true,val:=.s (.int .i64 (lenP P t)) }
 |_=>none
def Ek(m:Mem)(sz:Nat):D->Option (PD (List Nat×Nat×List D))
 | .sl es n=>some ⟨n*sz<=es.length,([],n,es.take (n*sz))⟩
 | .z=>some ⟨True,([],0,[])⟩
 | .rs i off n=>match m i with
  |some (.cells cs _)=>some ⟨off+n*sz<=cs.length,([i],n,(cs.drop off).take (n*sz))⟩
  |_=>none
 |_=>none
def HT(P:Program)(m:Mem)(nx:Nat)(t:TypeId)(s x:D):Option eO:=
 let e:=elemP P t
 let sz:=P.cellsOf e
 match Ek m sz x with
 |none=>none
 |some (@PD.mk _ p _ (rd,k,news))=>
  match s with
  | .z=>some { pre:=slT P t=true/\p/\0<sz/\k<=maxLen/\k*P.bytesOf e<=140737488355328,val:=.rs nx 0 k,ups:=[(nx,some (.cells news e))],rd:=rd,new:=1 }
  | .rs i off n=>match m i with
   |some (.cells cs e')=>some { pre:=slT P t=true/\e'=e/\p/\0<sz/\off+n*sz=cs.length/\n+k<=maxLen/\(n+k)*P.bytesOf e<=140737488355328/\i∉rd,val:=.rs nx 0 (n+k),ups:=[(i,none),(nx,some (.cells (cs.drop off++news) e))],rd:=i::rd,new:=1 }
   |_=>none
  |_=>none
def HU(P:Program)(m:Mem)(t:TypeId)(x k:D)(ok:Bool):Option eO:=match keyV k,x with
 |some key,.mp i=>match m i with
  |some (.map es)=>some { pre:=mapT P t=true/\keyP P (mkeyP P t) key=true/\es.all (fun e=>keyP P (mkeyP P t) e.1)=true,val:=gotD P t ok (lookD key es),rd:=[i] }
  |_=>none
 |some key,.im es=>some { pre:=mapT P t=true/\keyP P (mkeyP P t) key=true/\es.all (fun e=>keyP P (mkeyP P t) e.1)=true,val:=gotD P t ok (lookD key es) }
 |some key,.s (.map none)=>some { pre:=mapT P t=true/\keyP P (mkeyP P t) key=true,val:=gotD P t ok none }
 |_,_=>none
def EK(P:Program)(m:Mem)(t:TypeId)(x k v:D):Option eO:=match keyV k,x with
 |some key,.mp i=>match m i with
  |some (.map es)=>some { pre:=mapT P t=true/\keyP P (mkeyP P t) key=true/\es.all (fun e=>keyP P (mkeyP P t) e.1)=true,val:=.tup [],ups:=[(i,some (.map (putD key v es)))],rd:=[i] }
  |_=>none
 |_,_=>none
def HV(P:Program)(m:Mem)(t:TypeId)(x k:D):Option eO:=match keyV k,x with
 |some key,.mp i=>match m i with
  |some (.map es)=>some { pre:=mapT P t=true/\keyP P (mkeyP P t) key=true/\es.all (fun e=>keyP P (mkeyP P t) e.1)=true,val:=.tup [],ups:=[(i,some (.map (delD key es)))],rd:=[i] }
  |_=>none
 |_,_=>none
def Eu(P:Program)(m:Mem)(nx:Nat)(b:Builtin)(ts:Array TypeId)(args:List D):Option eO:=
 match b,args with
 | .len,[x]=>Jw P m (ts.getD 0 0) x
 | .append,[s,x]=>if ts.getD 0 0=ts.getD 1 0 then HT P m nx (ts.getD 0 0) s x else none
 | .min,[.s (.int k a),.s (.int k' b)]=>some { pre:=k=k',val:=.s (.int k (if b<a then b else a)) }
 | .clear,[.rs i off n]=>match m i with
  |some (.cells cs e)=>some { pre:=slT P (ts.getD 0 0)=true/\off+n*P.cellsOf e<=cs.length/\e=elemP P (ts.getD 0 0),val:=.tup [],ups:=[(i,some (.cells (splice cs off (replD n (zeroP P e))) e))],rd:=[i] }
  |_=>none
 | .delete,[x,k]=>HV P m (ts.getD 0 0) x k
 |_,_=>none
def It(P:Program)(m:Mem)(t:TypeId)(x:D)(lo hi C:Option D):Option eO:=
 match x with
 | .sl es n=>match bndD lo 0,bndD hi n,C with
  |some l,some h,none=>some { pre:=slT P t=true/\0<=l/\l<=h/\h<=n,val:=.sl ((es.drop (l.toNat*P.cellsOf (elemP P t))).take ((h - l).toNat*P.cellsOf (elemP P t))) (h - l).toNat }
  |some l,some h,some d=>match d.int? with
   |some k=>some { pre:=slT P t=true/\hi.isSome=true/\0<=l/\l<=h/\h<=k/\k<=n,val:=.sl ((es.drop (l.toNat*P.cellsOf (elemP P t))).take ((h - l).toNat*P.cellsOf (elemP P t))) (h - l).toNat }
   |none=>none
  |_,_,_=>none
 | .rs i off n=>match m i with
  |some (.cells _ e)=>match bndD lo 0,bndD hi n,C with
   |some l,some h,none=>some { pre:=(slT P t=true/\P.cellsOf e=P.cellsOf (elemP P t))/\0<=l/\l<=h/\h<=n,val:=.rs i (off+l.toNat*P.cellsOf (elemP P t)) (h - l).toNat,rd:=[i] }
   |_,_,_=>none
  |_=>none
 | .s (.string b)=>match bndD lo 0,bndD hi b.size,C with
  |some l,some h,none=>some { pre:=stT P t=true/\0<=l/\l<=h/\h<=b.size,val:=.s (.string (b.extract l.toNat h.toNat)) }
  |_,_,_=>none
 |_=>none
def jo(P:Program)(o:Op)(ρ:Operand->D)(m:Mem)(nx:Nat):Option eO:=
 match o with
 | .move x=>some { pre:=True,val:=ρ x }
 | .assign x=>some { pre:=True,val:=ρ x }
 | .pick c a b=>match (ρ c).core.bool? with
  |some t=>some { pre:=(t=true->(ρ a).ask/\(ρ a).core.bool?.isSome=true)/\(t=false->(ρ b).ask/\(ρ b).core.bool?.isSome=true),val:=.s (.bool (if t then(ρ a).core.bool?.getD false else(ρ b).core.bool?.getD false)) }
  |none=>none
 | .alloc t=>some { pre:=tyOk P t=true,val:=.rp nx 0,ups:=[(nx,some (.cells (zeroP P t) t))],new:=1 }
 | .box t x=>some { pre:=(ρ x).cells.all D.one=true,val:=.rp nx 0,ups:=[(nx,some (.cells (ρ x).cells t))],new:=1 }
 | .build t ps=>match P.underlying t with
  |some (.struct fs)=>(fillD (fun i=>(fs[i]?).map fun f=>(f.offset,P.cellsOf f.type)) (zeroP P t) (ps.toList.map fun q=>(q.1,ρ q.2))).map fun cs=>{ pre:=tyOk P t=true/\fs.toList.all (fun f=>(P.info? f.type).isSome)=true,val:=.agg cs }
  |some (.array _ e)=>(fillD (fun i=>some (i*P.cellsOf e,P.cellsOf e)) (zeroP P t) (ps.toList.map fun q=>(q.1,ρ q.2))).map fun cs=>{ pre:=tyOk P t=true/\tyOk P e=true,val:=.agg cs }
  |_=>none
 | .buildSlice t n ps=>(fillD (fun i=>some (i*P.cellsOf (elemP P t),P.cellsOf (elemP P t))) (replD n (zeroP P (elemP P t))) (ps.toList.map fun q=>(q.1,ρ q.2))).map fun cs=>
   { pre:=cs.all D.one=true/\n*P.cellsOf (elemP P t)<=2 ^ 24/\slT P t=true/\n<=maxLen,val:=.rs nx 0 n,ups:=[(nx,some (.cells cs (elemP P t)))],new:=1 }
 | .load t a=>match ρ a with
  | .pt cs=>some { pre:=tyOk P t=true/\P.cellsOf t<=cs.length,val:=takeV P t cs }
  | .rp i off=>match m i with
   |some (.cells cs _)=>some { pre:=tyOk P t=true/\off+P.cellsOf t<=cs.length,val:=takeV P t (cs.drop off),rd:=[i] }
   |_=>none
  |_=>none
 | .store t a x=>match ρ a with
  | .rp i off=>match m i with
   |some (.cells cs e)=>some { pre:=tyOk P t=true/\(ρ x).cells.length=P.cellsOf t/\off+P.cellsOf t<=cs.length/\(ρ x).cells.all D.one=true,val:=.tup [],ups:=[(i,some (.cells (splice cs off (ρ x).cells) e))],rd:=[i] }
   |_=>none
  |_=>none
 | .nilCheck x=>match ρ x with
  | .pt cs=>some { pre:=True,val:=.pt cs }
  | .rp i off=>match m i with
   |some _=>some { pre:=True,val:=.rp i off,rd:=[i] }
   |none=>none
  |_=>none
 | .binOp op t x y _=>match FE P m op t (ρ x) y with
  |some e=>some e
  |none=>(Jv P op t (ρ x) (ρ y)).map fun r=> @eO.mk r.p r.dec r.d [] [] 0
 | .unOp op _ x=>match ρ x with
  | .s v=>(unV op v).map fun r=>{ pre:=True,val:=.s r }
  |_=>none
 | .convert src dst x=>match P.underlying dst,ρ x with
  |some (.int k),.s (.int _ n)=>some { pre:=tyOk P src=true,val:=.s (.int k (k.wrap n)) }
  |some (.slice e),.s (.string b)=>match P.underlying e with
   |some (.int .u8)=>some { pre:=stT P src=true/\b.size<=maxLen,val:=.sl (b.data.toList.map fun c=>.s (.int .u8 c.toNat)) b.size }
   |_=>none
  |_,_=>none
 | .makeFunc f fs cs=>some { pre:=True,val:=.fn f (fs.toList.map ρ) (cs.toList.map ρ) }
 | .makeMap _ r=>match r with
  |none=>some { pre:=True,val:=.mp nx,ups:=[(nx,some (.map []))],new:=1 }
  |some _=>none
 | .makeSlice t l c=>match ρ l,ρ c with
  | .s (.int .i64 n),.s (.int .i64 k)=>some { pre:=0<=n/\n=k/\n<=9223372036854775807/\P.bytesOf (elemP P t)*n<=281474976710656/\slT P t=true,val:=.rs nx 0 n.toNat,ups:=[(nx,some (.cells (replD n.toNat (zeroP P (elemP P t))) (elemP P t)))],new:=1 }
  |_,_=>none
 | .lookup t x k ok=>HU P m t (ρ x) (ρ k) ok
 | .mapUpdate t x k v=>EK P m t (ρ x) (ρ k) (ρ v)
 | .insert t x k v=>EK P m t (ρ x) (ρ k) (ρ v)
 | .slice t x lo hi C=>It P m t (ρ x) (lo.map ρ) (hi.map ρ) (C.map ρ)
 | .fieldAddr t x k=>match fieldP P t k,ρ x with
  |some (off,ft),.pt cs=>some { pre:=0<P.cellsOf ft,val:=.pt (cs.drop off) }
  |some (off,ft),.rp i o=>match m i with
   |some _=>some { pre:=0<P.cellsOf ft,val:=.rp i (o+off),rd:=[i] }
   |none=>none
  |_,_=>none
 | .field t x k=>match fieldP P t k,ρ x with
  |some (off,ft),.agg cs=>some { pre:=tyOk P ft=true/\off+P.cellsOf ft<=cs.length,val:=takeV P ft (cs.drop off) }
  |_,_=>none
 | .indexAddr t x i=>match ρ x,ρ i with
  | .sl es n,.s (.int _ k)=>some { pre:=slT P t=true/\0<=k/\k<n/\(k.toNat+1)*P.cellsOf (elemP P t)<=es.length,val:=.pt (es.drop (k.toNat*P.cellsOf (elemP P t))) }
  | .rs j off n,.s (.int _ k)=>match m j with
   |some _=>some { pre:=slT P t=true/\0<=k/\k<n,val:=.rp j (off+k.toNat*P.cellsOf (elemP P t)),rd:=[j] }
   |none=>none
  | .rp j off,.s (.int _ k)=>match m j with
   |some _=>some { pre:=arT P t=true/\0<=k/\k<lenP P t,val:=.rp j (off+k.toNat*P.cellsOf (elemP P t)),rd:=[j] }
   |none=>none
  |_,_=>none
 | .index t x i=>match ρ x,ρ i with
  | .s (.string b),.s (.int _ k)=>some { pre:=stT P t=true/\0<=k/\k<b.size,val:=.s (.int .u8 (b.data.toList.getD k.toNat 0).toNat) }
  | .agg cs,.s (.int _ k)=>some { pre:=arT P t=true/\0<=k/\k<lenP P t/\(k.toNat+1)*P.cellsOf (elemP P t)<=cs.length,val:=takeV P (elemP P t) (cs.drop (k.toNat*P.cellsOf (elemP P t))) }
  |_,_=>none
 | .extract x k=>match ρ x with
  | .tup cs=>some { pre:=k<cs.length,val:=cs.getD k .u }
  |_=>none
 | .call c=>match c.callee with
  | .builtin b=>if c.argTypes.size=c.args.size then Eu P m nx b c.argTypes (c.args.toList.map ρ) else none
  |_=>none
 |_=>none
theorem aaN(op:BinOp)(x y:Value):binV op x y=(FD op x y).map fun r=>(r.p,r.d):=by
 cases op<;>cases x<;>first|rfl|(cases y<;>rfl)
theorem YK(P:Program)(op:BinOp)(t:TypeId)(xs ys:List D):aggEqD P op t xs ys=(Is P op t xs ys).map fun r=>(r.p,r.d):=by
 unfold aggEqD Is;cases op<;>first|rfl|skip
 all_goals cases flatT P t<;>first|rfl|skip
 all_goals cases zipV xs ys<;>rfl
theorem aaO(P:Program)(op:BinOp)(t:TypeId)(x y:D):binD P op t x y=(Jv P op t x y).map fun r=>(r.p,r.d):=by
 have C:∀ a b,(binV op a b).map (fun r=>(r.1,D.s r.2))=((FD op a b).map fun r=> @PD.mk _ r.p r.dec (D.s r.d)).map fun r=>(r.p,r.d):=fun a b=>by
  rw[aaN];cases FD op a b<;>rfl
 cases x with
 |s a=>
  cases y with
  |s b=>
   cases a with
   |bool a=>
    cases b with
    |bool b=>cases op<;>rfl
    |_=>exact C _ _
   |_=>exact C _ _
  |_=>cases a<;>rfl
 |agg xs=>
  cases y with
  |agg ys=>exact YK P op t xs ys
  |_=>rfl
 |_=>rfl
theorem aaP(P:Program)(m:Mem)(op:BinOp)(t:TypeId)(x:D)(y:Operand):nilD P m op t x y=(FE P m op t x y).map eO.ia:=by
 unfold nilD FE;split<;>split<;>simp_all[eO.ia]
 all_goals split<;>simp_all[eO.ia]
theorem aaQ(P:Program)(m:Mem)(t:TypeId)(x:D):lenD P m t x=(Jw P m t x).map eO.ia:=by
 unfold lenD Jw;split<;>first|rfl|skip
 all_goals split<;>simp_all[eO.ia]
theorem X'(m:Mem)(sz:Nat)(x:D):sliceCells m sz x=(Ek m sz x).map fun r=>(r.p,r.d):=by
 unfold sliceCells Ek;split<;>first|rfl|skip
 all_goals split<;>simp_all
theorem Yw(P:Program)(m:Mem)(nx:Nat)(t:TypeId)(s x:D):appendD P m nx t s x=(HT P m nx t s x).map eO.ia:=by
 unfold appendD HT;simp only[X'];cases Ek m (P.cellsOf (elemP P t)) x with
 |none=>rfl
 |some r=>
  obtain⟨p,rd,k,news⟩:=r;simp only[Option.map_some];split<;>first|rfl|skip
  all_goals split<;>simp_all[eO.ia]
theorem Yx(P:Program)(m:Mem)(t:TypeId)(x k:D)(ok:Bool):lookupD P m t x k ok=(HU P m t x k ok).map eO.ia:=by
 unfold lookupD HU;split<;>first|rfl|skip
 all_goals split<;>simp_all[eO.ia]
theorem Mv(P:Program)(m:Mem)(t:TypeId)(x k v:D):mapPutD P m t x k v=(EK P m t x k v).map eO.ia:=by
 unfold mapPutD EK;split<;>first|rfl|skip
 all_goals split<;>simp_all[eO.ia]
theorem Yy(P:Program)(m:Mem)(t:TypeId)(x k:D):mapDelD P m t x k=(HV P m t x k).map eO.ia:=by
 unfold mapDelD HV;split<;>first|rfl|skip
 all_goals split<;>simp_all[eO.ia]
theorem Yj(P:Program)(m:Mem)(nx:Nat)(b:Builtin)(ts:Array TypeId)(args:List D):builtinD P m nx b ts args=(Eu P m nx b ts args).map eO.ia:=by
 cases b with
 |len=>
  match args with
  |[]=>rfl
  |[x]=>exact aaQ _ _ _ _
  |_::_::_=>rfl
 |append=>
  match args with
  |[]=>rfl
  |[x]=>rfl
  |[s,x]=>
   simp only[builtinD,Eu];split
   .exact Yw _ _ _ _ _ _
   .rfl
  |_::_::_::_=>rfl
 |min=>
  match args with
  |[]=>rfl
  |[x]=>
   cases x with
   |s a=>cases a<;>rfl
   |_=>rfl
  |[x,y]=>
   cases x with
   |s a=>
    cases a with
    |int k a=>
     cases y with
     |s b=>cases b<;>rfl
     |_=>rfl
    |_=>rfl
   |_=>rfl
  |x::y::_::_=>
   cases x with
   |s a=>
    cases a with
    |int k a=>
     cases y with
     |s b=>cases b<;>rfl
     |_=>rfl
    |_=>rfl
   |_=>rfl
 |clear=>
  match args with
  |[]=>rfl
  |[x]=>
   cases x with
   |rs i off n=>
    simp only[builtinD,Eu];cases m i with
    |none=>rfl
    |some r=>cases r<;>rfl
   |_=>rfl
  |x::_::_=>cases x<;>rfl
 |delete=>
  match args with
  |[]=>rfl
  |[x]=>rfl
  |[x,k]=>exact Yy _ _ _ _ _
  |_::_::_::_=>rfl
 |_=>rfl
theorem YL(P:Program)(m:Mem)(t:TypeId)(x:D)(lo hi C:Option D):sliceD P m t x lo hi C=(It P m t x lo hi C).map eO.ia:=by
 unfold sliceD It;cases x with
 |sl es n=>
  simp only;cases bndD lo 0<;>first|rfl|skip
  cases bndD hi n<;>first|rfl|skip
  cases C with
  |none=>rfl
  |some d=>
   simp only;cases d.int? <;>rfl
 |rs i off n=>
  simp only;cases m i with
  |none=>rfl
  |some r=>
   cases r<;>first|rfl|skip
   simp only;cases bndD lo 0<;>first|rfl|skip
   cases bndD hi n<;>first|rfl|skip
   cases C<;>rfl
 |s v=>
  cases v<;>first|rfl|skip
  simp only;cases bndD lo 0<;>first|rfl|skip
  rename_i b _;cases bndD hi b.size<;>first|rfl|skip
  cases C<;>rfl
 |_=>rfl
theorem OP(P:Program)(o:Op)(ρ:Operand->D)(m:Mem)(nx:Nat):aop P o ρ m nx=(jo P o ρ m nx).map eO.ia:=by
 cases o with
 |call c=>
  simp only[aop,jo];cases c.callee with
  |builtin b=>
   simp only;split
   .exact Yj _ _ _ _ _ _
   .rfl
  |_=>rfl
 |binOp op t x y _=>
  simp only[aop,jo,aaP,aaO];cases FE P m op t (ρ x) y with
  |some e=>rfl
  |none=>
   cases Jv P op t (ρ x) (ρ y) with
   |some r=>rfl
   |none=>rfl
 |lookup t x k ok=>exact Yx _ _ _ _ _ _
 |mapUpdate t x k v=>exact Mv _ _ _ _ _ _
 |insert t x k v=>exact Mv _ _ _ _ _ _
 |slice t x lo hi J=>exact YL _ _ _ _ _ _ _
 |build t ps=>
  simp only[aop,jo];cases P.underlying t with
  |none=>rfl
  |some u=>
   cases u with
   |struct fs=>simp only;cases fillD _ _ _<;>rfl
   |array n e=>simp only;cases fillD _ _ _<;>rfl
   |_=>rfl
 |buildSlice t n ps=>
  simp only[aop,jo];cases fillD _ _ _<;>rfl
 |unOp op t x=>
  simp only[aop,jo];cases ρ x with
  |s v=>simp only;cases unV op v<;>rfl
  |_=>rfl
 |load t a=>
  simp only[aop,jo];cases ρ a with
  |rp i off=>simp only;cases m i with
   |none=>rfl
   |some r=>cases r<;>rfl
  |_=>rfl
 |store t a x=>
  simp only[aop,jo];cases ρ a with
  |rp i off=>simp only;cases m i with
   |none=>rfl
   |some r=>cases r<;>rfl
  |_=>rfl
 |pick c a b=>
  simp only[aop,jo];cases (ρ c).core.bool? <;>rfl
 |nilCheck x=>
  simp only[aop,jo];cases ρ x with
  |rp i off=>simp only;cases m i<;>rfl
  |_=>rfl
 |makeMap t r=>cases r<;>rfl
 |makeSlice t l c=>
  simp only[aop,jo];cases ρ l with
  |s v=>
   cases v with
   |int k n=>
    cases k with
    |i64=>
     cases ρ c with
     |s v=>cases v with
      |int k n=>cases k<;>rfl
      |_=>rfl
     |_=>rfl
    |_=>rfl
   |_=>rfl
  |_=>rfl
 |convert src dst x=>
  simp only[aop,jo];cases P.underlying dst with
  |none=>rfl
  |some u=>
   cases u with
   |int k=>cases ρ x with
    |s v=>cases v<;>rfl
    |_=>rfl
   |slice e=>cases ρ x with
    |s v=>cases v with
     |string b=>
      simp only;cases P.underlying e with
      |none=>rfl
      |some u=>
       cases u with
       |int k=>cases k<;>rfl
       |_=>rfl
     |_=>rfl
    |_=>rfl
   |_=>rfl
 |fieldAddr t x k=>
  simp only[aop,jo];cases fieldP P t k with
  |none=>rfl
  |some q=>
   obtain⟨off,C⟩:=q;cases ρ x with
   |rp i o=>simp only;cases m i<;>rfl
   |_=>rfl
 |field t x k=>
  simp only[aop,jo];cases fieldP P t k with
  |none=>rfl
  |some q=>
   obtain⟨off,C⟩:=q;cases ρ x<;>rfl
 |indexAddr t x i=>
  simp only[aop,jo];cases ρ x with
  |sl es n=>cases ρ i with
   |s v=>cases v<;>rfl
   |_=>rfl
  |rs j off n=>cases ρ i with
   |s v=>cases v with
    |int k n=>simp only;cases m j<;>rfl
    |_=>rfl
   |_=>rfl
  |rp j off=>cases ρ i with
   |s v=>cases v with
    |int k n=>simp only;cases m j<;>rfl
    |_=>rfl
   |_=>rfl
  |_=>rfl
 |index t x i=>
  simp only[aop,jo];cases ρ x with
  |s v=>cases v with
   |string b=>cases ρ i with
    |s v=>cases v<;>rfl
    |_=>rfl
   |_=>rfl
  |agg cs=>cases ρ i with
   |s v=>cases v<;>rfl
   |_=>rfl
  |_=>rfl
 |extract x k=>
  simp only[aop,jo];cases ρ x<;>rfl
 |_=>rfl
inductive T(α:Type) where
 |leaf
 |node (v:Option α) (l r:T α)
def T.get{α:Type}:T α->Nat->Option α
 | .leaf,_=>none
 | .node v l r,i=>bif Nat.beq i 0 then v else bif Nat.beq (i % 2) 1 then l.get (i / 2) else r.get (i / 2 - 1)
def T.set{α:Type}:Nat->T α->Nat->Option α->T α
 |0,t,_,_=>t
 |f+1,.leaf,i,v=>bif Nat.beq i 0 then .node v .leaf .leaf else bif Nat.beq (i % 2) 1 then .node none (T.set f .leaf (i / 2) v) .leaf else .node none .leaf (T.set f .leaf (i / 2 - 1) v)
 |f+1,.node v0 l r,i,v=>bif Nat.beq i 0 then .node v l r else bif Nat.beq (i % 2) 1 then .node v0 (T.set f l (i / 2) v) r else .node v0 l (T.set f r (i / 2 - 1) v)
theorem T.uv{α:Type}(v:Option α)(l r:T α)(i:Nat):(T.node v l r).get i=if i=0 then v else if i % 2=1 then l.get (i / 2) else r.get (i / 2 - 1):=by
 simp only[T.get,Bool.cond_eq_ite,Nat.beq_eq]
theorem T.BK{α:Type}(v:Option α):∀ (f:Nat) (t:T α) (i j:Nat),i+1<2 ^ f->(T.set f t i v).get j=if j=i then v else t.get j
 |0,t,i,j,h=>by simp at h
 |f+1,t,i,j,h=>by
  have h2:2 ^ (f+1)=2*2 ^ f:=by rw[Nat.pow_succ];omega
  have U:i % 2=1->i / 2+1<2 ^ f:=fun _=>by omega
  have X:i≠0->i % 2≠1->i / 2 - 1+1<2 ^ f:=fun _ _=>by omega
  have M:∀ k,(T.leaf:T α).get k=none:=fun k=>rfl;cases t with
  |leaf=>
   simp only[T.set,Bool.cond_eq_ite,Nat.beq_eq];by_cases h0:i=0
   .subst h0;simp only[if_true,T.uv,M];by_cases hj:j=0<;>simp[hj]
   .rw[if_neg h0];by_cases h1:i % 2=1
    .rw[if_pos h1,T.uv,T.BK v f _ _ _ (U h1)];simp only[M];by_cases hj:j=i
     .subst hj;simp[h0,h1]
     .rw[if_neg hj];by_cases C:j=0
      .rw[if_pos C]
      .rw[if_neg C];by_cases J:j % 2=1
       .rw[if_pos J,if_neg oG]
       .rw[if_neg J]
    .rw[if_neg h1,T.uv,T.BK v f _ _ _ (X h0 h1)];simp only[M];by_cases hj:j=i
     .subst hj;simp[h0,h1]
     .rw[if_neg hj];by_cases C:j=0
      .rw[if_pos C]
      .rw[if_neg C];by_cases J:j % 2=1
       .rw[if_pos J]
       .rw[if_neg J,if_neg oG]
  |node v0 l r=>
   simp only[T.set,Bool.cond_eq_ite,Nat.beq_eq];by_cases h0:i=0
   .subst h0;simp only[if_true,T.uv];by_cases hj:j=0<;>simp[hj]
   .rw[if_neg h0];by_cases h1:i % 2=1
    .rw[if_pos h1,T.uv,T.uv,T.BK v f _ _ _ (U h1)];by_cases hj:j=i
     .subst hj;simp[h0,h1]
     .rw[if_neg hj];by_cases C:j=0
      .rw[if_pos C,if_pos C]
      .rw[if_neg C,if_neg C];by_cases J:j % 2=1
       .rw[if_pos J,if_pos J,if_neg oG]
       .rw[if_neg J,if_neg J]
    .rw[if_neg h1,T.uv,T.uv,T.BK v f _ _ _ (X h0 h1)];by_cases hj:j=i
     .subst hj;simp[h0,h1]
     .rw[if_neg hj];by_cases C:j=0
      .rw[if_pos C,if_pos C]
      .rw[if_neg C,if_neg C];by_cases J:j % 2=1
       .rw[if_pos J,if_pos J]
       .rw[if_neg J,if_neg J,if_neg oG]
def T.put{α:Type}(t:T α)(i:Nat)(v:Option α):Option (T α):=bif Nat.blt i 1000000 then some (T.set 20 t i v) else none
theorem T.OQ{α:Type}{t C:T α}{i:Nat}{v:Option α}(h:t.put i v=some C)(j:Nat):C.get j=if j=i then v else t.get j:=by
 unfold T.put at h;cases hb:Nat.blt i 1000000 with
 |false=>rw[hb] at h;cases h
 |true=>
  rw[hb] at h;simp only[cond_true,Option.some.injEq] at h;subst h;have:i<1000000:=by simpa using hb
  exact T.BK v 20 t i j oG
structure cF where
 env:T D
 mem:T Row
 nx:Nat
def dg(t:T D):Env:=fun i=>(t.get i).getD .u
def fW(t:T Row):Mem:=fun i=>t.get i
def cF.st(c:cF):St:=⟨dg c.env,fW c.mem,c.nx⟩
theorem HW{t C:T D}{i:Nat}{d:D}(h:t.put i (some d)=some C):dg C=up (dg t) i d:=by
 funext j;simp only[dg,T.OQ h,up_apply];split<;>rfl
theorem N5{t C:T Row}{i:Nat}{r:Option Row}(h:t.put i r=some C):fW C=up (fW t) i r:=by
 funext j;simp only[fW,T.OQ h,up_apply]
def At(t:T D):Option Nat->D->Option (T D)
 |none,_=>some t
 |some i,d=>t.put i (some d)
def CK(m:T Row):List (Nat×Option Row)->Option (T Row)
 |[]=>some m
 |(i,r)::us=>match m.put i r with
  |some m'=>CK m' us
  |none=>none
theorem Iu{t C:T D}{dst:Option Nat}{d:D}(h:At t dst d=some C)(m:Mem)(nx:Nat):(⟨dg C,m,nx⟩:St)=St.put ⟨dg t,m,nx⟩ dst d:=by
 cases dst with
 |none=>simp only[At,Option.some.injEq] at h;subst h;rfl
 |some i=>simp only[At] at h;simp only[St.put,HW h]
theorem N6:∀ {us:List (Nat×Option Row)} {m m':T Row},CK m us=some m'->fW m'=upds (fW m) us
 |[],m,m',h=>by simp only[CK,Option.some.injEq] at h;subst h;rfl
 |(i,r)::us,m,m',h=>by
  simp only[CK] at h;cases hp:m.put i r with
  |none=>rw[hp] at h;cases h
  |some m1=>
   rw[hp] at h;simp only at h;rw[N6 h,N5 hp];rfl
def pE:Nat->D->Bool
 |0,_=>false
 |n+1,d=>match d with
  | .rs .. | .rp .. | .mp _=>false
  | .opt _ d=>pE n d
  | .agg cs | .tup cs | .pt cs | .sl cs _=>cs.all (pE n)
  | .fn _ fs cs=>fs.all (pE n)&&cs.all (pE n)
  | .im es=>es.all fun x=>pE n x.2
  |_=>true
section
variable{P:Program}{F:Nat->Prop}{β:Pla}{w:World}
theorem qh:∀ {n:Nat} {d:D},pE n d=true->Tr d
 |0,_,h=>by cases h
 |n+1,d,h=>by
  cases d with
  |rs=>cases h
  |rp=>cases h
  |mp=>cases h
  |opt c d=>exact .opt (qh h)
  |agg cs=>exact .agg fun d hd=>qh (List.all_eq_true.1 h d hd)
  |tup cs=>exact .tup fun d hd=>qh (List.all_eq_true.1 h d hd)
  |sl cs n=>exact .sl fun d hd=>qh (List.all_eq_true.1 h d hd)
  |pt cs=>exact .pt fun d hd=>qh (List.all_eq_true.1 h d hd)
  |fn f fs cs=>
   simp only[pE,Bool.and_eq_true] at h;exact .fn (fun d hd=>qh (List.all_eq_true.1 h.1 d hd)) fun d hd=>qh (List.all_eq_true.1 h.2 d hd)
  |im es=>exact .im fun x hx=>qh (List.all_eq_true.1 h x hx)
  |s v=>exact .s v
  |ub=>exact .ub
  |u=>exact .u
  |z=>exact .z
def gY{α β:Type}(f:α->Option (β×List Nat)):List α->Option (List β×List Nat)
 |[]=>some ([],[])
 |x::xs=>match f x with
  |none=>none
  |some y=>match gY f xs with
   |none=>none
   |some ys=>some (y.1::ys.1,y.2++ys.2)
theorem Ev{α β:Type}{f:α->Option (β×List Nat)}:∀ {xs:List α} {ys:List β} {r:List Nat},gY f xs=some (ys,r)->
 ys.length=xs.length/\(∀ (k:Nat) (y:β),ys[k]? =some y->∃ x r',xs[k]? =some x/\f x=some (y,r')/\∀ i∈r',i∈r)
 |[],ys,r,h=>by simp only[gY,Option.some.injEq,Prod.mk.injEq] at h;obtain⟨rfl,rfl⟩:=h;simp
 |x::xs,ys,r,h=>by
  simp only[gY] at h;cases hx:f x with
  |none=>rw[hx] at h;cases h
  |some y=>
   rw[hx] at h;simp only at h;cases J:gY f xs with
   |none=>rw[J] at h;cases h
   |some M=>
    rw[J] at h;simp only[Option.some.injEq,Prod.mk.injEq] at h;obtain⟨rfl,rfl⟩:=h;obtain⟨h1,h2⟩:=Ev (ys:=M.1) (r:=M.2) J;refine⟨by simp[h1],fun k z C=>?_⟩;cases k with
    |zero=>
     simp only[List.getElem?_cons_zero,Option.some.injEq] at C;subst C;exact⟨x,y.2,rfl,hx,fun i hi=>by simp[hi]⟩
    |succ k=>
     obtain⟨x',r',U,X,g3⟩:=h2 k z (by simpa using C);exact⟨x',r',by simpa using U,X,fun i hi=>by simp[g3 i hi]⟩
def cu(P:Program)(m:Mem):Nat->D->Option (D×List Nat)
 |0,_=>none
 |n+1,d=>match d with
  | .mp i=>match m i with
   |some (.map es)=>(gY (fun x=>(cu P m n x.2).map fun y=>((x.1,y.1),y.2)) es).map fun x=>(.im x.1,i::x.2)
   |_=>none
  | .im es=>(gY (fun x=>(cu P m n x.2).map fun y=>((x.1,y.1),y.2)) es).map fun x=>(.im x.1,x.2)
  | .rs i off k=>match m i with
   |some (.cells cs e)=>(gY (cu P m n) ((cs.drop off).take (k*P.cellsOf e))).map fun x=>(.sl x.1 k,i::x.2)
   |_=>none
  | .rp i off=>match m i with
   |some (.cells cs _)=>(gY (cu P m n) (cs.drop off)).map fun x=>(.pt x.1,i::x.2)
   |_=>none
  | .opt true d=>(cu P m n d).map fun x=>(.opt true x.1,x.2)
  | .opt false _=>some (.opt false .u,[])
  | .agg cs=>(gY (cu P m n) cs).map fun x=>(.agg x.1,x.2)
  | .tup cs=>(gY (cu P m n) cs).map fun x=>(.tup x.1,x.2)
  | .sl cs k=>(gY (cu P m n) cs).map fun x=>(.sl x.1 k,x.2)
  | .pt cs=>(gY (cu P m n) cs).map fun x=>(.pt x.1,x.2)
  | .fn f fs cs=>match gY (cu P m n) fs with
   |none=>none
   |some x=>(gY (cu P m n) cs).map fun y=>(.fn f x.1 y.1,x.2++y.2)
  | .s v=>some (.s v,[])
  | .ub=>some (.ub,[])
  | .u=>some (.u,[])
  | .z=>some (.z,[])
theorem qU{α β:Type}{f:α->Option (β×List Nat)}{xs:List α}{ys:List β}{r:List Nat}(h:gY f xs=some (ys,r)){p:β->Prop}(hp:∀ x y r',f x=some (y,r')->p y):∀ y∈ys,p y:=fun y hy=>by
 obtain⟨k,hk⟩:=List.getElem?_of_mem hy;obtain⟨x,r',_,h2,_⟩:=(Ev h).2 k y hk;exact hp x y r' h2
theorem EZ{m:Mem}:∀ {n:Nat} {d d':D} {r:List Nat},cu P m n d=some (d',r)->Tr d'
 |0,_,_,_,h=>by cases h
 |n+1,d,d',r,h=>by
  have ih:∀ x y r',cu P m n x=some (y,r')->Tr y:=fun x y r' h=>EZ h
  have C:∀ (x:Value×D) (y:Value×D) r',(cu P m n x.2).map (fun y=>((x.1,y.1),y.2))=some (y,r')->Tr y.2:=fun x y r' h=>by
   simp only[Option.map_eq_some_iff,Prod.mk.injEq] at h;obtain⟨z,J,rfl,_⟩:=h;exact EZ (r:=z.2) J
  cases d with
  |mp i=>
   simp only[cu] at h;split at h
   .simp only[Option.map_eq_some_iff,Prod.mk.injEq] at h;obtain⟨x,hx,rfl,_⟩:=h;exact .im (qU (ys:=x.1) (r:=x.2) hx C)
   .cases h
  |im es=>
   simp only[cu,Option.map_eq_some_iff,Prod.mk.injEq] at h;obtain⟨x,hx,rfl,_⟩:=h;exact .im (qU (ys:=x.1) (r:=x.2) hx C)
  |rs i off k=>
   simp only[cu] at h;split at h
   .simp only[Option.map_eq_some_iff,Prod.mk.injEq] at h;obtain⟨x,hx,rfl,_⟩:=h;exact .sl (qU (ys:=x.1) (r:=x.2) hx ih)
   .cases h
  |rp i off=>
   simp only[cu] at h;split at h
   .simp only[Option.map_eq_some_iff,Prod.mk.injEq] at h;obtain⟨x,hx,rfl,_⟩:=h;exact .pt (qU (ys:=x.1) (r:=x.2) hx ih)
   .cases h
  |opt c d=>
   cases c with
   |true=>
    simp only[cu,Option.map_eq_some_iff,Prod.mk.injEq] at h;obtain⟨x,hx,rfl,_⟩:=h;exact .opt (EZ (r:=x.2) hx)
   |false=>simp only[cu,Option.some.injEq,Prod.mk.injEq] at h;obtain⟨rfl,_⟩:=h;exact .opt .u
  |agg cs=>
   simp only[cu,Option.map_eq_some_iff,Prod.mk.injEq] at h;obtain⟨x,hx,rfl,_⟩:=h;exact .agg (qU (ys:=x.1) (r:=x.2) hx ih)
  |tup cs=>
   simp only[cu,Option.map_eq_some_iff,Prod.mk.injEq] at h;obtain⟨x,hx,rfl,_⟩:=h;exact .tup (qU (ys:=x.1) (r:=x.2) hx ih)
  |sl cs k=>
   simp only[cu,Option.map_eq_some_iff,Prod.mk.injEq] at h;obtain⟨x,hx,rfl,_⟩:=h;exact .sl (qU (ys:=x.1) (r:=x.2) hx ih)
  |pt cs=>
   simp only[cu,Option.map_eq_some_iff,Prod.mk.injEq] at h;obtain⟨x,hx,rfl,_⟩:=h;exact .pt (qU (ys:=x.1) (r:=x.2) hx ih)
  |fn f fs cs=>
   simp only[cu] at h;cases hx:gY (cu P m n) fs with
   |none=>rw[hx] at h;cases h
   |some x=>
    rw[hx] at h;simp only[Option.map_eq_some_iff,Prod.mk.injEq] at h;obtain⟨y,hy,rfl,_⟩:=h;exact .fn (qU (ys:=x.1) (r:=x.2) hx ih) (qU (ys:=y.1) (r:=y.2) hy ih)
  |s v=>simp only[cu,Option.some.injEq,Prod.mk.injEq] at h;obtain⟨rfl,_⟩:=h;exact .s v
  |ub=>simp only[cu,Option.some.injEq,Prod.mk.injEq] at h;obtain⟨rfl,_⟩:=h;exact .ub
  |u=>simp only[cu,Option.some.injEq,Prod.mk.injEq] at h;obtain⟨rfl,_⟩:=h;exact .u
  |z=>simp only[cu,Option.some.injEq,Prod.mk.injEq] at h;obtain⟨rfl,_⟩:=h;exact .z
def aee(P:Program)(F:Nat->Prop)(β:Pla)(w:World)(m:Mem)(rds:List Nat):Prop:=∀ i∈rds,∀ r,m i=some r->∃ p,β i=some p/\RowR P F β w r p/\∀ b,p.blk=some b->¬ F b
theorem zy(b:Nat):noRows.free b:=fun i p hp=>by cases hp
theorem Cn{m:Mem}:∀ {n:Nat} {d d':D} {r:List Nat},cu P m n d=some (d',r)->aee P F β w m r->∀ {v:Value},R F β w d v->R F noRows w d' v
 |0,_,_,_,h,_,_,_=>by cases h
 |n+1,d,d',r,h,hl,v,hv=>by
  have many:∀ {xs ys:List D} {r':List Nat},gY (cu P m n) xs=some (ys,r')->(∀ i∈r',i∈r)->ys.length=xs.length/\∀ (k:Nat) (d:D) (u:Value),ys[k]? =some d->(∀ d0,xs[k]? =some d0->R F β w d0 u)->R F noRows w d u:=fun h hr=>by
   obtain⟨h1,h2⟩:=Ev h;refine⟨h1,fun k d u hd hu=>?_⟩;obtain⟨x,r2,C,J,X⟩:=h2 k d hd;exact Cn J (fun i hi=>hl i (hr i (X i hi))) (hu x C)
  have look:∀ {i:Nat} {cs:List D} {e:TypeId},i∈r->m i=some (.cells cs e)->∃ p,β i=some p/\RowR P F β w (.cells cs e) p/\∀ b,p.blk=some b->¬ F b:=fun hi hm=>hl _ hi _ hm
  have U6:∀ {es ys:List (Value×D)} {r':List Nat} {ms:Array MapEntry},gY (fun x=>(cu P m n x.2).map fun y=>((x.1,y.1),y.2)) es=some (ys,r')->(∀ i∈r',i∈r)->ms.size=es.length->(es.map (·.1)).Nodup->
   (∀ (k:Nat) (x:Value×D) (m:MapEntry),es[k]? =some x->ms[k]? =some m->m.key=x.1/\R F β w x.2 m.val)->
   ms.size=ys.length/\(ys.map (·.1)).Nodup/\(∀ (k:Nat) (x:Value×D) (m:MapEntry),ys[k]? =some x->ms[k]? =some m->m.key=x.1)/\∀ (k:Nat) (x:Value×D) (m:MapEntry),ys[k]? =some x->ms[k]? =some m->R F noRows w x.2 m.val:=fun {es ys r' ms} h hr bX dw U=>by
   obtain⟨h1,h2⟩:=Ev h
   have key:∀ (k:Nat) (y:Value×D),ys[k]? =some y->∃ x r2,es[k]? =some x/\y.1=x.1/\cu P m n x.2=some (y.2,r2)/\∀ i∈r2,i∈r':=fun k y hy=>by
    obtain⟨x,r2,C,J,X⟩:=h2 k y hy;simp only[Option.map_eq_some_iff,Prod.mk.injEq] at J;obtain⟨z,hz,rfl,rfl⟩:=J;exact⟨x,z.2,C,rfl,hz,X⟩
   have keys:ys.map (·.1)=es.map (·.1):=by
    refine List.ext_getElem? fun k=>?_;simp only[List.getElem?_map];cases hy:ys[k]? with
    |some y=>
     obtain⟨x,_,C,J,_⟩:=key k y hy;simp[C,J]
    |none=>
     have:es[k]? =none:=by
      rw[List.getElem?_eq_none_iff] at hy ⊢;omega
     simp[this]
   refine⟨by rw[h1];exact bX,by rw[keys];exact dw,fun k y mm hy eQ=>?_,fun k y mm hy eQ=>?_⟩
   .obtain⟨x,r2,C,J,_⟩:=key k y hy;rw[J];exact(U k x mm C eQ).1
   .obtain⟨x,r2,C,_,X,g4⟩:=key k y hy;exact Cn X (fun i hi=>hl i (hr i (g4 i hi))) (U k x mm C eQ).2
  cases d with
  |mp i=>
   simp only[cu] at h;split at h
   .rename_i es hm;simp only[Option.map_eq_some_iff,Prod.mk.injEq] at h;obtain⟨x,hx,rfl,rfl⟩:=h;obtain⟨p,hp,aA,vr⟩:=hl i (List.mem_cons_self ..) _ hm;cases hv with
    |mpd _ _ h1 _=>rw[h1] at hp;cases hp;exact absurd rfl aA.live
    |mp _ b h1=>
     rw[h1] at hp;cases hp;cases aA with
     |map _ _ ms clock C J X g4=>
      obtain⟨k1,k2,k3,k4⟩:=U6 (ys:=x.1) (r':=x.2) hx (fun i hi=>List.mem_cons_of_mem _ hi) J X g4;exact .im x.1 b ms clock (vr b rfl) (zy b) C k1 k2 k3 k4
   .cases h
  |im es=>
   simp only[cu,Option.map_eq_some_iff,Prod.mk.injEq] at h;obtain⟨x,hx,rfl,rfl⟩:=h;cases hv with
   |im _ b ms clock hf hb hc J X g4 g5=>
    obtain⟨k1,k2,k3,k4⟩:=U6 (ys:=x.1) (r':=x.2) hx (fun _ h=>h) J X (fun k x m hx hm=>⟨g4 k x m hx hm,g5 k x m hx hm⟩);exact .im x.1 b ms clock hf (zy b) hc k1 k2 k3 k4
  |rs i off k=>
   simp only[cu] at h;split at h
   .rename_i cs e hm;simp only[Option.map_eq_some_iff,Prod.mk.injEq] at h;obtain⟨x,hx,rfl,rfl⟩:=h;obtain⟨p,hp,aA,vr⟩:=look (List.mem_cons_self ..) hm;obtain⟨C,J⟩:=many (ys:=x.1) (r':=x.2) hx (fun i hi=>List.mem_cons_of_mem _ hi)
    have nil:(cs.drop off).take (k*P.cellsOf e)=[]->x.1=[]:=fun e=>by
     rw[e] at C;exact List.eq_nil_of_length_eq_zero (by simpa using C)
    cases hv with
    |rsd _ _ _ _ h1 _=>
     rw[h1] at hp;cases hp;exact absurd rfl aA.live
    |rsn _ a h1=>
     rw[h1] at hp;cases hp;cases aA;rw[nil oS];exact .sln a 0
    |rsz _ _ a b o len room sz h1=>
     rw[nil oS];exact .sln a 0
    |rs _ _ _ cap b o len room sz h1 hn ej h2 h3=>
     rw[h1] at hp;cases hp;obtain⟨cY,hl,bX,_⟩:=aA.rd;obtain⟨us,u1,u2⟩:=(cY.drop off).take (k*P.cellsOf e)
     have ao:b<w.heap.size:=by
      cases aA with
      |cells _ _ _ _ _ _ c hb=>exact(Array.getElem?_eq_some_iff.1 hb).1
     exact .sl x.1 k b (o+off) cap us (vr b rfl) (zy b) ao hn ej (fun j hj=>u1 j (by rw[<- C];exact hj)) fun j d hd=>J j d _ hd fun d0 M=>u2 j d0 M
   .cases h
  |rp i off=>
   simp only[cu] at h;split at h
   .rename_i cs e hm;simp only[Option.map_eq_some_iff,Prod.mk.injEq] at h;obtain⟨x,hx,rfl,rfl⟩:=h;obtain⟨p,hp,aA,vr⟩:=look (List.mem_cons_self ..) hm;obtain⟨C,J⟩:=many (ys:=x.1) (r':=x.2) hx (fun i hi=>List.mem_cons_of_mem _ hi);cases hv with
    |rpd _ _ _ h1 _=>
     rw[h1] at hp;cases hp;exact absurd rfl aA.live
    |rp _ _ b o len room sz h1=>
     rw[h1] at hp;cases hp;obtain⟨cY,hl,bX,_⟩:=aA.rd;obtain⟨us,u1,u2⟩:=cY.drop off
     have ao:b<w.heap.size:=by
      cases aA with
      |cells _ _ _ _ _ _ c hb=>exact(Array.getElem?_eq_some_iff.1 hb).1
     exact .pt x.1 b (o+off) us (vr b rfl) (zy b) ao (fun j hj=>u1 j (by rw[<- C];exact hj)) fun j d hd=>J j d _ hd fun d0 M=>u2 j d0 M
   .cases h
  |opt c d=>
   cases hv with
   |opt _ _ _ h1 h2=>
   cases c with
   |true=>
    simp only[cu,Option.map_eq_some_iff,Prod.mk.injEq] at h;obtain⟨x,hx,rfl,rfl⟩:=h;exact .opt true _ v (fun _=>Cn (r:=x.2) hx hl (h1 rfl)) oS
   |false=>simp only[cu,Option.some.injEq,Prod.mk.injEq] at h;obtain⟨rfl,_⟩:=h;exact .opt false _ v oS h2
  |agg cs=>
   simp only[cu,Option.map_eq_some_iff,Prod.mk.injEq] at h;obtain⟨x,hx,rfl,rfl⟩:=h;obtain⟨vs,rfl,tV,U⟩:=hv.agg_inv;obtain⟨C,J⟩:=many (ys:=x.1) (r':=x.2) hx (fun _ h=>h);exact .agg _ vs (by rw[C];exact tV) fun k d u hd hu=>J k d u hd fun d0 M=>U k d0 u M hu
  |tup cs=>
   simp only[cu,Option.map_eq_some_iff,Prod.mk.injEq] at h;obtain⟨x,hx,rfl,rfl⟩:=h;obtain⟨vs,rfl,tV,U⟩:=hv.tup_inv;obtain⟨C,J⟩:=many (ys:=x.1) (r':=x.2) hx (fun _ h=>h);exact .tup _ vs (by rw[C];exact tV) fun k d u hd hu=>J k d u hd fun d0 M=>U k d0 u M hu
  |sl cs k=>
   simp only[cu,Option.map_eq_some_iff,Prod.mk.injEq] at h;obtain⟨x,hx,rfl,rfl⟩:=h;obtain⟨C,J⟩:=many (ys:=x.1) (r':=x.2) hx (fun _ h=>h);cases hv with
   |sln a cap=>
    have:x.1=[]:=List.eq_nil_of_length_eq_zero (by simpa using C);rw[this];exact .sln a cap
   |sl _ _ b o cap us hf hb ao n1 ej hc U=>
    exact .sl _ k b o cap us hf (zy b) ao n1 ej (fun j hj=>hc j (by rw[<- C];exact hj)) fun j d hd=>J j d _ hd fun d0 M=>U j d0 M
  |pt cs=>
   simp only[cu,Option.map_eq_some_iff,Prod.mk.injEq] at h;obtain⟨x,hx,rfl,rfl⟩:=h;obtain⟨C,J⟩:=many (ys:=x.1) (r':=x.2) hx (fun _ h=>h);cases hv with
   |pt _ b o us hf hb ao hc U=>
    exact .pt _ b o us hf (zy b) ao (fun j hj=>hc j (by rw[<- C];exact hj)) fun j d hd=>J j d _ hd fun d0 M=>U j d0 M
  |fn f fs cs=>
   simp only[cu] at h;cases hx:gY (cu P m n) fs with
   |none=>rw[hx] at h;cases h
   |some x=>
    rw[hx] at h;simp only[Option.map_eq_some_iff,Prod.mk.injEq] at h;obtain⟨y,hy,rfl,rfl⟩:=h;obtain⟨C,J⟩:=many (ys:=x.1) (r':=x.2) hx (fun _ h=>List.mem_append_left _ h);obtain⟨k1,k2⟩:=many (ys:=y.1) (r':=y.2) hy (fun _ h=>List.mem_append_right _ h);cases hv with
    |fn _ _ _ us vs KS tV h1 h2=>
     exact .fn f _ _ us vs (by rw[C];exact KS) (by rw[k1];exact tV) (fun k d u hd hu=>J k d u hd fun d0 M=>h1 k d0 u M hu) fun k d u hd hu=>k2 k d u hd fun d0 M=>h2 k d0 u M hu
  |s v=>simp only[cu,Option.some.injEq,Prod.mk.injEq] at h;obtain⟨rfl,_⟩:=h;obtain⟨rfl,h⟩:=hv.s_inv;exact .s _ h
  |ub=>simp only[cu,Option.some.injEq,Prod.mk.injEq] at h;obtain⟨rfl,_⟩:=h;obtain⟨b,rfl⟩:=hv.ub_inv;exact .ub b
  |u=>simp only[cu,Option.some.injEq,Prod.mk.injEq] at h;obtain⟨rfl,_⟩:=h;exact .u v
  |z=>simp only[cu,Option.some.injEq,Prod.mk.injEq] at h;obtain⟨rfl,_⟩:=h;obtain⟨a,rfl⟩:=hv.z_inv;exact .z a
end
section
variable(P:Program)
def wk(env:Env)(o:Op):Bool:=match o with
 | .pick c _ _=>decide (opd env c).ask
 |o=>o.operands.toList.all fun x=>decide (opd env x).ask
theorem Hq{env:Env}{o:Op}(h:wk env o=true):asks env o:=by
 unfold wk at h;unfold asks;cases o<;>first|exact of_decide_eq_true h|exact fun x hx=>of_decide_eq_true (List.all_eq_true.1 h x hx)
abbrev tx:=FuncId->List D->Bool->T Row->Nat->Option (D×T Row×Nat×List Nat×List Nat)
def E0(call:tx)(f:FuncId)(args:List D)(dr:Bool)(o:Oper)(c:cF):Option (cF×List Nat×List Nat):=
 bif wk (dg c.env) o.op then match call f args dr c.mem c.nx with
  |some (r,m,nx,rd,wr)=>match At c.env o.dst r with
   |some env=>some (⟨env,m,nx⟩,rd,wr)
   |none=>none
  |none=>none
 else none
def FY(e:eO)(o:Oper)(c:cF):Option (cF×List Nat×List Nat):=
 bif wk (dg c.env) o.op then match e.dec with
  |isTrue _=>match CK c.mem e.ups with
   |some m=>match At c.env o.dst e.val with
    |some env=>some (⟨env,m,c.nx+e.new⟩,e.rd,e.ups.map (·.1))
    |none=>none
   |none=>none
  |isFalse _=>none
 else none
def wl(o:Oper)(d:D)(rd:List Nat)(c:cF):Option (cF×List Nat×List Nat):=match At c.env o.dst d with
 |some env=>some (⟨env,c.mem,c.nx⟩,rd,[])
 |none=>none
def K0(call:tx)(ops:Array Oper)(dr:Bool)(o:Oper)(c:cF):Option (cF×List Nat×List Nat):=
 match o.guard with
 |none=>match callD (rho (dg c.env) o.op) o.op with
  |some (f,args)=>E0 call f args dr o c
  |none=>match yieldD (rho (dg c.env) o.op) o.op with
   |some _=>none
   |none=>match jo P o.op (rho (dg c.env) o.op) (fW c.mem) c.nx with
    |some e=>FY e o c
    |none=>none
 |some (j,b)=>match ((ops[j]?).bind (·.dst)).bind fun t=>guardC (dg c.env t) b with
  |none=>none
  |some g=>match callD (rho (dg c.env) o.op) o.op with
   |some (f,args)=>bif g then E0 call f args dr o c else wl o skipD [] c
   |none=>match yieldD (rho (dg c.env) o.op) o.op with
    |some _=>bif g then none else wl o skipD [] c
    |none=>match jo P o.op (rho (dg c.env) o.op) (fW c.mem) c.nx with
     |some e=>bif e.ups.isEmpty&&Nat.beq e.new 0 then
      bif g then bif wk (dg c.env) o.op then match e.dec with
       |isTrue _=>wl o (.opt true e.val) e.rd c
       |isFalse _=>none
      else none
      else wl o (.opt false e.val) e.rd c
      else bif g then FY e o c else wl o skipD [] c
     |none=>bif g then none else wl o skipD [] c
def Au(call:tx)(ops:Array Oper)(dr:Bool):List Oper->cF->Tra->Option (cF×Tra)
 |[],c,tr=>some (c,tr)
 |o::os,c,tr=>match K0 P call ops dr o c with
  |some (c',rd,wr)=>Au call ops dr os c' (tr++[(rd,wr)])
  |none=>none
def Fm(tr:Tra)(i j:Nat):Bool:=
 let a:=tr.getD i ([],[])
 let b:=tr.getD j ([],[])
 (a.2.all fun x=> !(b.1.any (Nat.beq x))&& !(b.2.any (Nat.beq x)))&&b.2.all fun x=> !(a.1.any (Nat.beq x))
theorem aaR{tr:Tra}{i j:Nat}(h:Fm tr i j=true):apartT tr i j:=by
 unfold Fm at h;simp only[Bool.and_eq_true,List.all_eq_true,Bool.not_eq_true',List.any_eq_false,Nat.beq_eq] at h;obtain⟨h1,h2⟩:=h;exact⟨fun x hx=>⟨fun hb=>(h1 x hx).1 x hb rfl,fun hb=>(h1 x hx).2 x hb rfl⟩,fun x hx ha=>h2 x hx x ha rfl⟩
def Iv(call:tx)(ops:Array Oper)(dr:Bool)(c:cF):Option cF:=
 bif dr then match drawInfo ops with
  |some cf=>match Au P call ops true ops.toList c [] with
   |some (c',tr)=>bif cf.all fun q=>Fm tr q.1 q.2 then some c' else none
   |none=>none
  |none=>none
 else match Au P call ops false ops.toList c [] with
  |some (c',_)=>some c'
  |none=>none
def Co(call:tx):Prop:=∀ f args dr m nx r m' nx' rd wr,call f args dr m nx=some (r,m',nx',rd,wr)->∀ env (K:D->Mem->Nat->List Nat->List Nat->Prop),K r (fW m') nx' rd wr->CallOp P dr ⟨env,fW m,nx⟩ f args K
end
section
variable{P:Program}
theorem MO{call:tx}(hc:Co P call){f:FuncId}{args:List D}{dr:Bool}{o:Oper}{c:cF}{C:cF}{rd wr:List Nat}(h:E0 call f args dr o c=some (C,rd,wr)){K:St->List Nat->List Nat->Prop}(J:K C.st rd wr):
 asks c.st.env o.op/\CallOp P dr c.st f args fun r m nx rd wr=>K (St.put ⟨c.st.env,m,nx⟩ o.dst r) rd wr:=by
 unfold E0 at h;cases ha:wk (dg c.env) o.op with
 |false=>rw[ha] at h;cases h
 |true=>
  rw[ha] at h;simp only[cond_true] at h;refine⟨Hq ha,?_⟩;split at h
  .rename_i r m nx K2 U M;split at h
   .rename_i env X;simp only[Option.some.injEq,Prod.mk.injEq] at h;obtain⟨rfl,rfl,rfl⟩:=h;refine hc _ _ _ _ _ _ _ _ _ _ M _ _ ?_;have:=Iu X (fW m) nx;simp only[cF.st] at J ⊢;rw[<- this];exact J
   .cases h
  .cases h
theorem zB{o:Oper}{d:D}{rd C wr:List Nat}{c J:cF}(h:wl o d rd c=some (J,C,wr)):J.st=St.put c.st o.dst d/\C=rd/\wr=[]:=by
 unfold wl at h;split at h
 .rename_i env M;simp only[Option.some.injEq,Prod.mk.injEq] at h;obtain⟨rfl,rfl,rfl⟩:=h;exact⟨Iu M (fW c.mem) c.nx,rfl,rfl⟩
 .cases h
theorem N7{e:eO}{o:Oper}{c C:cF}{rd wr:List Nat}(h:FY e o c=some (C,rd,wr)){K:St->List Nat->List Nat->Prop}(J:K C.st rd wr):
 asks c.st.env o.op/\e.pre/\K (St.put ⟨c.st.env,upds c.st.mem e.ups,c.st.nx+e.new⟩ o.dst e.val) e.rd (e.ups.map (·.1)):=by
 unfold FY at h;cases ha:wk (dg c.env) o.op with
 |false=>rw[ha] at h;cases h
 |true=>
  rw[ha] at h;simp only[cond_true] at h;refine⟨Hq ha,?_⟩;split at h
  .rename_i hp _;refine⟨hp,?_⟩;split at h
   .rename_i m hm;split at h
    .rename_i env M;simp only[Option.some.injEq,Prod.mk.injEq] at h;obtain⟨rfl,rfl,rfl⟩:=h;have:=Iu M (fW m) (c.nx+e.new);simp only[cF.st] at J ⊢;rw[<- N6 hm, <- this];exact J
    .cases h
   .cases h
  .cases h
theorem M9{o:Op}{ρ:Operand->D}{m:Mem}{nx:Nat}{e:eO}(h:jo P o ρ m nx=some e):aop P o ρ m nx=some e.ia:=by rw[OP,h];rfl
theorem ZB{o:Op}{ρ:Operand->D}{m:Mem}{nx:Nat}(h:jo P o ρ m nx=none):aop P o ρ m nx=none:=by rw[OP,h];rfl
theorem adb{call:tx}(nT:Co P call){ops:Array Oper}{dr:Bool}{o:Oper}{c c':cF}{rd wr:List Nat}(h:K0 P call ops dr o c=some (c',rd,wr)){K:St->List Nat->List Nat->Prop}(C:K c'.st rd wr):
 AOp P noY ops dr o c.st K:=by
 unfold K0 at h;unfold AOp;split at h
 .rename_i hg;simp only[hg];split at h
  .rename_i f args hc;obtain⟨h1,h2⟩:=MO nT h C;refine⟨h1,?_⟩;simp only[cF.st] at h2 ⊢;rw[hc];exact h2
  .rename_i hc;split at h
   .cases h
   .rename_i hy;split at h
    .rename_i e he;obtain⟨h1,h2,h3⟩:=N7 h C;refine⟨h1,?_⟩;have:=M9 he;simp only[cF.st] at h2 h3 ⊢;rw[hc];simp only;rw[hy];simp only;rw[this];exact⟨h2,h3⟩
    .cases h
 .rename_i j b hg;simp only[hg];split at h
  .cases h
  .rename_i g hgc;have U:(((ops[j]?).bind (·.dst)).bind fun t=>guardC (c.st.env t) b)=some g:=hgc;rw[U];simp only;split at h
   .rename_i f args hc;have X:callD (rho c.st.env o.op) o.op=some (f,args):=hc;rw[X];simp only;cases g with
    |true=>
     simp only[cond_true] at h;exact .inr ⟨fun _=>MO nT h C,by simp⟩
    |false=>
     simp only[cond_false] at h;obtain⟨h1,rfl,rfl⟩:=zB h;exact .inr ⟨by simp,fun _=>h1▸C⟩
   .rename_i hc;have X:callD (rho c.st.env o.op) o.op=none:=hc;rw[X];simp only;split at h
    .rename_i y hy;have M:yieldD (rho c.st.env o.op) o.op=some y:=hy;rw[M];obtain⟨l,args⟩:=y;cases g with
     |true=>simp at h
     |false=>
      simp only[cond_false] at h;obtain⟨h1,rfl,rfl⟩:=zB h;exact⟨by simp,fun _=>h1▸C⟩
    .rename_i hy;have M:yieldD (rho c.st.env o.op) o.op=none:=hy;rw[M];simp only;split at h
     .rename_i e he;have gL:aop P o.op (rho c.st.env o.op) c.st.mem c.st.nx=some e.ia:=M9 he;rw[gL];cases J:(e.ups.isEmpty&&Nat.beq e.new 0) with
      |true=>
       have hb:(e.ia.ups.isEmpty&&e.ia.new==0)=true:=by
        have:∀ a:Nat,(a==0)=Nat.beq a 0:=fun a=>by cases a<;>rfl
        simp only[eO.ia,this];exact J
       simp only[hb,if_true];rw[J] at h;simp only[cond_true] at h;cases g with
       |true=>
        simp only[cond_true] at h;cases ha:wk (dg c.env) o.op with
        |false=>rw[ha] at h;cases h
        |true=>
         rw[ha] at h;simp only[cond_true] at h;split at h
         .rename_i hp _;obtain⟨h1,rfl,rfl⟩:=zB h;exact⟨fun _=>⟨Hq ha,hp⟩,h1▸C⟩
         .cases h
       |false=>
        simp only[cond_false] at h;obtain⟨h1,rfl,rfl⟩:=zB h;exact⟨by simp,h1▸C⟩
      |false=>
       have hb:(e.ia.ups.isEmpty&&e.ia.new==0)=false:=by
        have:∀ a:Nat,(a==0)=Nat.beq a 0:=fun a=>by cases a<;>rfl
        simp only[eO.ia,this];exact J
       simp only[hb,Bool.false_eq_true,if_false];rw[J] at h;simp only[cond_false] at h;cases g with
       |true=>
        simp only[cond_true] at h;exact⟨fun _=>N7 h C,by simp⟩
       |false=>
        simp only[cond_false] at h;obtain⟨h1,rfl,rfl⟩:=zB h;exact⟨by simp,fun _=>h1▸C⟩
     .rename_i he;have gL:aop P o.op (rho c.st.env o.op) c.st.mem c.st.nx=none:=ZB he;rw[gL];simp only;cases g with
      |true=>simp at h
      |false=>
       simp only[cond_false] at h;obtain⟨h1,rfl,rfl⟩:=zB h;exact⟨rfl,h1▸C⟩
theorem HX{call:tx}(U:Co P call){ops:Array Oper}{dr:Bool}{cf:List (Nat×Nat)}{Q:Exit->St->Prop}:∀ (M:List Oper) (c C:cF) (tr J:Tra),Au P call ops dr M c tr=some (C,J)->(∀ q∈cf,apartT J q.1 q.2)->Q .normal C.st->
 AOps P noY ops dr cf Q M c.st tr
 |[],c,C,tr,J,h,sb,hQ=>by
  simp only[Au,Option.some.injEq,Prod.mk.injEq] at h;obtain⟨rfl,rfl⟩:=h;exact⟨sb,hQ⟩
 |o::M,c,C,tr,J,h,sb,hQ=>by
  simp only[Au] at h;split at h
  .rename_i X rd wr h1;exact adb U h1 (HX U M X C _ J h sb hQ)
  .cases h
theorem YM{call:tx}(U:Co P call){ops:Array Oper}{dr:Bool}{c J:cF}(h:Iv P call ops dr c=some J){id:Nat}{rf:Bool}{Q:Exit->St->Prop}(M:Q .normal J.st):AW P noY rf (.region id ops dr) Q c.st:=by
 unfold Iv at h;cases dr with
 |true=>
  simp only[cond_true] at h;split at h
  .rename_i cf sb;split at h
   .rename_i X tr h1;cases C:cf.all fun q=>Fm tr q.1 q.2 with
    |false=>rw[C] at h;cases h
    |true=>
     rw[C] at h;simp only[cond_true,Option.some.injEq] at h;subst h
     show match drawInfo ops with
      |some cf=>AOps P noY ops true cf Q ops.toList c.st []
      |none=>False
     rw[sb];exact HX U _ _ _ _ _ h1 (fun q hq=>aaR (List.all_eq_true.1 C q hq)) M
   .cases h
  .cases h
 |false=>
  simp only[cond_false] at h;split at h
  .rename_i X tr h1;simp only[Option.some.injEq] at h;subst h;exact HX (cf:=[]) U _ _ _ _ _ h1 oS M
  .cases h
end
structure Ctx where
 GC:FuncId->Option (Func×Code)
 iter:FuncId->List D->List D->Option (List (List D))
 known:FuncId->List D->Option D
structure Ctx.Ok(P:Program)(x:Ctx):Prop where
 mix:P.follows .mixedOrders=true
 GC:∀ f fn c,x.GC f=some (fn,c)->qu P f fn c
 iter:∀ f fs cs xs,x.iter f fs cs=some xs->SeqA P f fs cs xs/\∀ y∈xs,∀ d∈y,Tr d
 known:∀ f args r,x.known f args=some r->PCall P f args r
def z6:Nat->List D->T D->Option (T D)
 |_,[],t=>some t
 |k,d::ds,t=>match t.put k (some d) with
  |some C=>z6 (k+1) ds C
  |none=>none
theorem MP:∀ {ds:List D} {k:Nat} {t C:T D},z6 k ds t=some C->∀ j,dg C j=if k<=j/\j<k+ds.length then ds.getD (j - k) .u else dg t j
 |[],k,t,C,h,j=>by
  simp only[z6,Option.some.injEq] at h;subst h;rw[if_neg oS]
 |d::ds,k,t,C,h,j=>by
  simp only[z6] at h;split at h
  .rename_i J h1;rw[MP h j,HW h1];by_cases hj:j=k
   .subst hj;rw[if_neg oG,up_same,if_pos oS];simp
   .rw[up_ne _ _ hj];by_cases ao:k+1<=j/\j<k+1+ds.length
    .rw[if_pos ao,if_pos oP];have:j - k=(j - (k+1))+1:=by omega
     rw[this];simp
    .rw[if_neg ao,if_neg oP]
  .cases h
theorem YN{args:List D}{t:T D}(h:z6 0 args .leaf=some t):dg t=envOf args:=by
 funext j;rw[MP h j];unfold envOf;split
 .simp
 .rename_i hj;have:args.length<=j:=by omega
  simp[dg,T.get,this]
def zN:T D->List Tmp->List D->Option (T D)
 |t,p::ps,d::ds=>match t.put p (some d) with
  |some C=>zN C ps ds
  |none=>none
 |t,_,_=>some t
theorem Mw:∀ {ps:List Tmp} {ds:List D} {t C:T D},zN t ps ds=some C->dg C=setAll (dg t) ps ds
 |[],ds,t,C,h=>by simp only[zN,Option.some.injEq] at h;subst h;rfl
 |_::_,[],t,C,h=>by simp only[zN,Option.some.injEq] at h;subst h;rfl
 |p::ps,d::ds,t,C,h=>by
  simp only[zN] at h;split at h
  .rename_i J h1;rw[Mw h,HW h1];rfl
  .cases h
section
variable(P:Program)
def J4(c:cF):ResultVar->Option D
 | .tmp t=>some (dg c.env t)
 | .cell a t=>match dg c.env a with
  | .rp i off=>match c.mem.get i with
   |some (.cells cs _)=>bif tyOk P t&&Nat.ble (off+P.cellsOf t) cs.length then some (takeV P t (cs.drop off)) else none
   |_=>none
  | .pt cs=>bif tyOk P t&&Nat.ble (P.cellsOf t) cs.length then some (takeV P t cs) else none
  |_=>none
def Aw(c:cF):List ResultVar->Option (List D)
 |[]=>some []
 |r::rs=>match J4 P c r with
  |some d=>match Aw c rs with
   |some ds=>some (d::ds)
   |none=>none
  |none=>none
def CL(x:Ctx)(C:Bool->Code->cF->Option (Exit×cF))(f:FuncId)(args:List D)(m:T Row)(nx:Nat):Option (D×T Row×Nat):=
 match x.GC f with
 |none=>none
 |some (fn,c)=>bif Nat.ble args.length fn.ntmps then
  match z6 0 args .leaf with
  |none=>none
  |some t=>match C true c ⟨t,m,nx⟩ with
   |some (.normal,s)=>match Aw P s fn.results.toList with
    |some ds=>some (one1 ds,s.mem,s.nx)
    |none=>none
   |some (.ret,s)=>match Aw P s fn.results.toList with
    |some ds=>some (one1 ds,s.mem,s.nx)
    |none=>none
   |_=>none
  else none
def depth:Nat:=12
def yk(x:Ctx)(C:Bool->Code->cF->Option (Exit×cF))(f:FuncId)(args:List D):Option (D ⊕ (List D×Nat×TypeId)):=
 match CL P x C f args .leaf 0 with
 |none=>none
 |some (d,m,_)=>match d with
  | .rs i 0 k=>match m.get i with
   |some (.cells es t)=>bif es.all (pE depth) then some (.inr (es,k,t)) else match cu P (fW m) depth (.rs i 0 k) with
    |some (r,_)=>some (.inl r)
    |none=>none
   |_=>none
  |d=>match cu P (fW m) depth d with
   |some (r,_)=>some (.inl r)
   |none=>none
def Jx(x:Ctx)(C:Bool->Code->cF->Option (Exit×cF)):tx:=fun f args dr m nx=>
 match x.known f args with
 |some r=>some (r,m,nx,[],[])
 |none=>bif args.all (pE depth) then match yk P x C f args with
  |some (.inl r)=>some (r,m,nx,[],[])
  |some (.inr (es,k,t))=>match m.put nx (some (.cells es t)) with
   |some m'=>some (.rs nx 0 k,m',nx+1,[],[nx])
   |none=>none
  |none=>none
  else bif dr then match gY (cu P (fW m) depth) args with
   |none=>none
   |some (args',rds)=>match x.known f args' with
    |some r=>bif r.scal then some (r,m,nx,rds,[]) else none
    |none=>match yk P x C f args' with
     |some (.inl r)=>bif r.scal then some (r,m,nx,rds,[]) else none
     |_=>none
  else match CL P x C f args m nx with
   |some (d,m',nx')=>some (d,m',nx',[],[])
   |none=>none
def BM(C:Bool->Code->cF->Option (Exit×cF))(env:T D)(ps:List Tmp)(assign body:Code):List (List D)->T Row->Nat->Option (Exit×T Row×Nat)
 |[],m,nx=>some (.normal,m,nx)
 |y::ys,m,nx=>match zN env ps y with
  |none=>none
  |some t=>match C false assign ⟨t,m,nx⟩ with
   |some (.normal,s)=>match C false body s with
    |some (.normal,s')=>BM C env ps assign body ys s'.mem s'.nx
    |some (.ret,s')=>some (.ret,s'.mem,s'.nx)
    |some (.exit i,s')=>some (.exit i,s'.mem,s'.nx)
    |_=>none
   |_=>none
def qi(x:Ctx)(C:Bool->Code->cF->Option (Exit×cF))(rf:Bool)(c:Code)(s:cF):Option (Exit×cF):=match c with
 | .skip=>some (.normal,s)
 | .region _ ops dr=>match Iv P (Jx P x C) ops dr s with
  |some s'=>some (.normal,s')
  |none=>none
 | .seq a b=>match C rf a s with
  |some (.normal,s')=>C rf b s'
  |r=>r
 | .cond c a b=>bif decide (opd (dg s.env) c).ask then match (opd (dg s.env) c).core with
   | .s (.bool t)=>bif t then C rf a s else C rf b s
   |_=>none
  else none
 | .block id b=>match C rf b s with
  |some (.exit i,s')=>bif Nat.beq i id then some (.normal,s') else some (.exit i,s')
  |r=>r
 | .scope b=>match C rf b s with
  |some (.goto _,_)=>none
  |r=>r
 | .loop b=>match C rf b s with
  |some (.normal,s')=>C rf (.loop b) s'
  |r=>r
 | .rangeFunc g ps assign body=>bif rf&&decide (opd (dg s.env) g).ask then match (opd (dg s.env) g).core with
   | .fn (.func f) fs cs=>match x.iter f fs cs with
    |some ys=>bif ys.all fun y=>Nat.beq y.length ps.size then match BM C s.env ps.toList assign body ys s.mem s.nx with
     |some (e,m,nx)=>some (e,⟨s.env,m,nx⟩)
     |none=>none
     else none
    |none=>none
   |_=>none
  else none
 | .exit id=>some (.exit id,s)
 | .label _=>some (.normal,s)
 | .ret=>some (.ret,s)
 |_=>none
def yX(x:Ctx):Nat->Bool->Code->cF->Option (Exit×cF)
 |0=>fun _ _ _=>none
 |n+1=>qi P x (yX x n)
end
section
variable{P:Program}{x:Ctx}
theorem IY{c:cF}{K:List D->Prop}:∀ {rs:List ResultVar} {ds C:List D},Aw P c rs=some ds->K (C++ds)->retL P c.st rs C K
 |[],ds,C,h,hK=>by
  simp only[Aw,Option.some.injEq] at h;subst h;simpa[retL] using hK
 |r::rs,ds,C,h,hK=>by
  simp only[Aw] at h;split at h
  .rename_i d hd;split at h
   .rename_i X M;simp only[Option.some.injEq] at h;subst h
    have J:∃ p,resD P c.st r=some (p,d)/\p:=by
     cases r with
     |tmp t=>
      simp only[J4,Option.some.injEq] at hd;exact⟨True,by simp only[resD,cF.st,hd],trivial⟩
     |cell a t=>
      simp only[J4] at hd;simp only[resD,cF.st];split at hd
      .rename_i i off ha;rw[ha];simp only;split at hd
       .rename_i cs e hm;have U:fW c.mem i=some (.cells cs e):=hm;rw[U];simp only;cases hb:(tyOk P t&&Nat.ble (off+P.cellsOf t) cs.length) with
        |false=>rw[hb] at hd;cases hd
        |true=>
         rw[hb] at hd;simp only[cond_true,Option.some.injEq] at hd;simp only[Bool.and_eq_true,Nat.ble_eq] at hb;exact⟨_,by rw[hd],hb⟩
       .cases hd
      .rename_i cs ha;rw[ha];simp only;cases hb:(tyOk P t&&Nat.ble (P.cellsOf t) cs.length) with
       |false=>rw[hb] at hd;cases hd
       |true=>
        rw[hb] at hd;simp only[cond_true,Option.some.injEq] at hd;simp only[Bool.and_eq_true,Nat.ble_eq] at hb;exact⟨_,by rw[hd],hb⟩
      .cases hd
    obtain⟨p,h1,h2⟩:=J;simp only[retL,h1];exact⟨h2,IY M (by simpa using hK)⟩
   .cases h
  .cases h
def CM(P:Program)(C:Bool->Code->cF->Option (Exit×cF)):Prop:=∀ rf c s e s',C rf c s=some (e,s')->∀ Q:Exit->St->Prop,Q e s'.st->AW P noY rf c Q s.st
theorem OR(hx:x.Ok P){U:Bool->Code->cF->Option (Exit×cF)}(lV:CM P U){f:FuncId}{args:List D}{m m':T Row}{nx nx':Nat}{d:D}(h:CL P x U f args m nx=some (d,m',nx')):
 ∃ fn c,qu P f fn c/\Nat.ble args.length fn.ntmps=true/\∀ K:D->St->Prop,(∀ env,K d ⟨env,fW m',nx'⟩)->AW P noY true c (retQ P fn.results.toList K) ⟨envOf args,fW m,nx⟩:=by
 unfold CL at h;split at h
 .cases h
 .rename_i fn c C;cases hb:Nat.ble args.length fn.ntmps with
  |false=>rw[hb] at h;cases h
  |true=>
   rw[hb] at h;simp only[cond_true] at h;split at h
   .cases h
   .rename_i t ht;refine⟨fn,c,hx.GC f fn c C,hb,fun K X=>?_⟩;rw[<- YN ht];split at h
    .rename_i s M;split at h
     .rename_i ds J;simp only[Option.some.injEq,Prod.mk.injEq] at h;obtain⟨rfl,rfl,rfl⟩:=h;exact lV _ _ _ _ _ M _ (IY (K:=fun ds=>K (one1 ds) s.st) J (X _))
     .cases h
    .rename_i s M;split at h
     .rename_i ds J;simp only[Option.some.injEq,Prod.mk.injEq] at h;obtain⟨rfl,rfl,rfl⟩:=h;exact lV _ _ _ _ _ M _ (IY (K:=fun ds=>K (one1 ds) s.st) J (X _))
     .cases h
    .cases h
theorem YO(M:P.follows .mixedOrders=true){fn:Func}{f:FuncId}{c:Code}(hf:qu P f fn c){args:List D}(hn:Nat.ble args.length fn.ntmps=true)(ht:∀ a∈args,Tr a){d r:D}{m:Mem}{n:Nat}{rds:List Nat}(hd:cu P m n d=some (r,rds))
 (h:AW P noY true c (retQ P fn.results.toList fun d' st=>d'=d/\st.mem=m) ⟨envOf args,fun _=>none,0⟩):PCall P f args r:=
 ⟨hf.he,ht,fun F w vs J hR=>(BD M hf.hf hf.hb hf.ao hn h (fun _ _ _ _ _ h=>h.elim) (Hz J) (fun _ _=>rfl) hR).mono fun e w' hp=>by
  obtain⟨v,d',st',β',h1,⟨rfl,rfl⟩,h3,h4,h5,C,U,X⟩:=hp
  exact⟨v,h1,Cn hd (fun i _ r hr=>by
   obtain⟨p,hp,aA⟩:=h4.row i r hr
   exact⟨p,hp,aA,fun b hb=>h4.nf i p b hp hb⟩) h3,He C⟩⟩
theorem Hr(hx:x.Ok P){J:Bool->Code->cF->Option (Exit×cF)}(X:CM P J){f:FuncId}{args:List D}(ht:∀ a∈args,Tr a):
 (∀ r,yk P x J f args=some (.inl r)->PCall P f args r)/\∀ es k t,yk P x J f args=some (.inr (es,k,t))->OCall P f args es k t:=by
 unfold yk;cases U:CL P x J f args .leaf 0 with
 |none=>exact⟨fun r h=>oH,fun es k t h=>oH⟩
 |some q=>
  obtain⟨d,m,nx⟩:=q;obtain⟨fn,c,hf,hn,C⟩:=OR hx X U
  have deep:∀ d r rds,d=d->cu P (fW m) depth d=some (r,rds)->(∀ K:D->St->Prop,(∀ env,K d ⟨env,fW m,nx⟩)->AW P noY true c (retQ P fn.results.toList K) ⟨envOf args,fW .leaf,0⟩)->PCall P f args r:=fun d r rds _ hd C=>
   YO hx.mix hf hn ht hd (C _ fun env=>⟨rfl,rfl⟩)
  simp only;split
  .rename_i i k;split
   .rename_i es t hm;cases M:es.all (pE depth) with
    |true=>
     simp only[cond_true];refine⟨fun r h=>(by simp at h),fun es' k' t' h=>?_⟩;simp only[Option.some.injEq,Sum.inr.injEq,Prod.mk.injEq] at h;obtain⟨rfl,rfl,rfl⟩:=h;exact uu hx.mix hf hn ht (fun a ha=>qh (List.all_eq_true.1 M a ha)) (C _ fun env=>⟨i,rfl,hm⟩)
    |false=>
     simp only[cond_false];split
     .rename_i r rds hd;exact⟨fun r' h=>(by simp only[Option.some.injEq,Sum.inl.injEq] at h;subst h;exact deep _ _ _ rfl hd C),fun es k t h=>(by simp at h)⟩
     .exact⟨fun r h=>oH,fun es k t h=>oH⟩
   .exact⟨fun r h=>oH,fun es k t h=>oH⟩
  .split
   .rename_i r rds hd;exact⟨fun r' h=>(by simp only[Option.some.injEq,Sum.inl.injEq] at h;subst h;exact deep _ _ _ rfl hd C),fun es k t h=>(by simp at h)⟩
   .exact⟨fun r h=>oH,fun es k t h=>oH⟩
theorem Mx{m:Mem}{n:Nat}{rds:List Nat}:∀ {aS bs:List D} {r:List Nat},gY (cu P m n) aS=some (bs,r)->(∀ i∈r,i∈rds)->Sns P rds m aS bs
 |[],bs,r,h,_=>by
  simp only[gY,Option.some.injEq,Prod.mk.injEq] at h;obtain⟨rfl,_⟩:=h;trivial
 |a::aS,bs,r,h,hr=>by
  simp only[gY] at h;split at h
  .cases h
  .rename_i y hy;split at h
   .cases h
   .rename_i ys C;simp only[Option.some.injEq,Prod.mk.injEq] at h;obtain⟨rfl,rfl⟩:=h;exact⟨fun F β w v hl hv=>Cn (r:=y.2) hy (fun i hi=>hl i (hr i (List.mem_append_left _ hi))) hv,Mx (r:=ys.2) C fun i hi=>hr i (List.mem_append_right _ hi)⟩
theorem aaS(hx:x.Ok P){ev:Bool->Code->cF->Option (Exit×cF)}(U:CM P ev):Co P (Jx P x ev):=by
 intro f args dr m nx r m' nx' rd wr h env K C;unfold Jx at h;split at h
 .rename_i r' hk;simp only[Option.some.injEq,Prod.mk.injEq] at h;obtain⟨rfl,rfl,rfl,rfl,rfl⟩:=h;exact .inl ⟨_,hx.known _ _ _ hk,C⟩
 .cases M:args.all (pE depth) with
  |true=>
   rw[M] at h;simp only[cond_true] at h;obtain⟨h1,h2⟩:=Hr hx U (f:=f) (args:=args) fun a ha=>qh (List.all_eq_true.1 M a ha);split at h
   .rename_i r' hp;simp only[Option.some.injEq,Prod.mk.injEq] at h;obtain⟨rfl,rfl,rfl,rfl,rfl⟩:=h;exact .inl ⟨_,h1 _ hp,C⟩
   .rename_i es k t hp;split at h
    .rename_i m1 hm;simp only[Option.some.injEq,Prod.mk.injEq] at h;obtain⟨rfl,rfl,rfl,rfl,rfl⟩:=h;rw[N5 hm] at C;exact .inr (.inr (.inl ⟨es,k,t,h2 _ _ _ hp,C⟩))
    .cases h
   .cases h
  |false=>
   rw[M] at h;simp only[cond_false] at h;cases dr with
   |true=>
    simp only[cond_true] at h;split at h
    .cases h
    .rename_i args' rds X;have aW:∀ a∈args',Tr a:=qU X fun x y r' h=>EZ h;have ju:Sns P rds (fW m) args args':=Mx X fun _ h=>h;split at h
     .rename_i r' hk;cases J:r'.scal with
      |false=>rw[J] at h;cases h
      |true=>
       rw[J] at h;simp only[cond_true,Option.some.injEq,Prod.mk.injEq] at h;obtain⟨rfl,rfl,rfl,rfl,rfl⟩:=h;exact .inr (.inl ⟨args',_,_,ju,hx.known _ _ _ hk,J,C⟩)
     .split at h
      .rename_i r' hp;cases J:r'.scal with
       |false=>rw[J] at h;cases h
       |true=>
        rw[J] at h;simp only[cond_true,Option.some.injEq,Prod.mk.injEq] at h;obtain⟨rfl,rfl,rfl,rfl,rfl⟩:=h;exact .inr (.inl ⟨args',_,_,ju,(Hr hx U aW).1 _ hp,J,C⟩)
      .cases h
   |false=>
    simp only[cond_false] at h;split at h
    .rename_i d m1 WM fD;simp only[Option.some.injEq,Prod.mk.injEq] at h;obtain⟨rfl,rfl,rfl,rfl,rfl⟩:=h;obtain⟨fn,c,hf,hn,yY⟩:=OR hx U fD;exact .inr (.inr (.inr (.inl ⟨rfl,pX hx.mix hf hn (yY (fun d st=>K d st.mem st.nx [] []) fun env=>C)⟩)))
    .cases h
theorem MQ{X:Bool->Code->cF->Option (Exit×cF)}(J:CM P X){env:T D}{ps:List Tmp}{assign body:Code}{Q:Exit->St->Prop}:∀ {ys:List (List D)} {m m':T Row} {nx nx':Nat} {e:Exit},BM X env ps assign body ys m nx=some (e,m',nx')->
 Q e ⟨dg env,fW m',nx'⟩->∃ I:Nat->Mem->Nat->Prop,I 0 (fW m) nx/\
  (∀ k m nx y,ys[k]? =some y->I k m nx->AW P noY false assign (assignQ fun s=>AW P noY false body (roundQ (dg env) (I (k+1)) Q) s) ⟨setAll (dg env) ps y,m,nx⟩)/\
  ∀ m nx,I ys.length m nx->Q .normal ⟨dg env,m,nx⟩
 |[],m,m',nx,nx',e,h,hQ=>by
  simp only[BM,Option.some.injEq,Prod.mk.injEq] at h;obtain⟨rfl,rfl,rfl⟩:=h;exact⟨fun _ a b=>a=fW m/\b=nx,⟨rfl,rfl⟩,fun k _ _ y hy=>by simp at hy,fun a b h=>by obtain⟨rfl,rfl⟩:=h;exact hQ⟩
 |y::ys,m,m',nx,nx',e,h,hQ=>by
  simp only[BM] at h;split at h
  .cases h
  .rename_i t ht;have yC:=Mw ht;split at h
   .rename_i s hs
    have done:∀ (I:Nat->Mem->Nat->Prop),AW P noY false body (roundQ (dg env) (I 0) Q) s.st->
     (∀ k m nx y,ys[k]? =some y->I k m nx->AW P noY false assign (assignQ fun s=>AW P noY false body (roundQ (dg env) (I (k+1)) Q) s) ⟨setAll (dg env) ps y,m,nx⟩)->
     (∀ m nx,I ys.length m nx->Q .normal ⟨dg env,m,nx⟩)->
     ∃ I:Nat->Mem->Nat->Prop,I 0 (fW m) nx/\
      (∀ k m nx z,(y::ys)[k]? =some z->I k m nx->AW P noY false assign (assignQ fun s=>AW P noY false body (roundQ (dg env) (I (k+1)) Q) s) ⟨setAll (dg env) ps z,m,nx⟩)/\
      ∀ m nx,I (y::ys).length m nx->Q .normal ⟨dg env,m,nx⟩:=fun I h1 h2 h3=>by
     refine⟨fun k a b=>match k with|0=>a=fW m/\b=nx|k+1=>I k a b,⟨rfl,rfl⟩,fun k a b z U M=>?_,fun a b M=>h3 a b M⟩;cases k with
     |zero=>
      obtain⟨rfl,rfl⟩:=M;simp only[List.getElem?_cons_zero,Option.some.injEq] at U;subst U;rw[<- yC];exact J _ _ _ _ _ hs _ h1
     |succ k=>exact h2 k a b z (by simpa using U) M
    split at h
    .rename_i s' C;obtain⟨I,g1,g2,g3⟩:=MQ J h hQ;exact done I (J _ _ _ _ _ C _ g1) g2 g3
    .rename_i s' C;simp only[Option.some.injEq,Prod.mk.injEq] at h;obtain⟨rfl,rfl,rfl⟩:=h;exact done (fun _ _ _=>False) (J _ _ _ _ _ C _ hQ) (fun _ _ _ _ _ h=>h.elim) fun _ _ h=>h.elim
    .rename_i i s' C;simp only[Option.some.injEq,Prod.mk.injEq] at h;obtain⟨rfl,rfl,rfl⟩:=h;exact done (fun _ _ _=>False) (J _ _ _ _ _ C _ hQ) (fun _ _ _ _ _ h=>h.elim) fun _ _ h=>h.elim
    .cases h
   .cases h
theorem ade(hx:x.Ok P):∀ n,CM P (yX P x n):=by
 intro n
 induction n using Nat.strongRecOn with
 |_ n ih=>
  cases n with
  |zero=>intro rf c s e s' h;cases h
  |succ n=>
   have J:=ih n (Nat.lt_succ_self n);intro rf c s e s' h Q C;simp only[yX] at h;cases c with
   |skip=>
    simp only[qi,Option.some.injEq,Prod.mk.injEq] at h;obtain⟨rfl,rfl⟩:=h;exact C
   |ret=>
    simp only[qi,Option.some.injEq,Prod.mk.injEq] at h;obtain⟨rfl,rfl⟩:=h;exact C
   |label l=>
    simp only[qi,Option.some.injEq,Prod.mk.injEq] at h;obtain⟨rfl,rfl⟩:=h;exact C
   |exit id=>
    simp only[qi,Option.some.injEq,Prod.mk.injEq] at h;obtain⟨rfl,rfl⟩:=h;exact C
   |region id ops dr=>
    simp only[qi] at h;split at h
    .rename_i s1 h1;simp only[Option.some.injEq,Prod.mk.injEq] at h;obtain⟨rfl,rfl⟩:=h;exact YM (aaS hx J) h1 C
    .cases h
   |seq a b=>
    simp only[qi] at h;split at h
    .rename_i s1 h1;exact J _ _ _ _ _ h1 _ ⟨_,.refl _,J _ _ _ _ _ h _ C⟩
    .rename_i U;refine J _ _ _ _ _ h _ ?_;cases e with
     |normal=>exact absurd h (U s')
     |_=>exact C
   |cond c a b=>
    simp only[qi] at h;cases M:decide (opd (dg s.env) c).ask with
    |false=>rw[M] at h;cases h
    |true=>
     rw[M] at h;simp only[cond_true] at h;refine⟨of_decide_eq_true M,?_⟩;split at h
     .rename_i t ht;have ht':(opd s.st.env c).core=.s (.bool t):=ht;rw[ht'];cases t with
      |true=>exact⟨fun _=>J _ _ _ _ _ h _ C,fun h=>by cases h⟩
      |false=>exact⟨fun h=>oH,fun _=>J _ _ _ _ _ h _ C⟩
     .cases h
   |block id b=>
    simp only[qi] at h;split at h
    .rename_i i s1 h1;refine J _ _ _ _ _ h1 (blockQ id Q) ?_;simp only[blockQ];cases hb:Nat.beq i id with
     |true=>
      rw[hb] at h;simp only[cond_true,Option.some.injEq,Prod.mk.injEq] at h;obtain⟨rfl,rfl⟩:=h;rw[if_pos (Nat.eq_of_beq_eq_true hb)];exact C
     |false=>
      rw[hb] at h;simp only[cond_false,Option.some.injEq,Prod.mk.injEq] at h;obtain⟨rfl,rfl⟩:=h;rw[if_neg (Nat.ne_of_beq_eq_false hb)];exact C
    .rename_i U;refine J _ _ _ _ _ h (blockQ id Q) ?_;cases e with
     |exit i=>exact absurd h (U i s')
     |_=>exact C
   |scope b=>
    simp only[qi] at h;split at h
    .cases h
    .rename_i U;refine J _ _ _ _ _ h (scopeQ Q) ?_;cases e with
     |goto l=>exact absurd h (U l s')
     |_=>exact C
   |loop b=>
    refine N8 (fun j st=>j<=n+1/\∃ s,st=s.st/\yX P x j rf (.loop b) s=some (e,s')) (j₀:=n+1) ⟨Nat.le_refl _,s,rfl,h⟩ ?_;rintro j st ⟨hj,s,rfl,X⟩;cases j with
    |zero=>cases X
    |succ j=>
     have WN:=ih j oG;simp only[yX,qi] at X;split at X
     .rename_i s1 h1;exact WN _ _ _ _ _ h1 _ ⟨_,.refl _,j,Nat.lt_succ_self j,by omega,s1,rfl,X⟩
     .rename_i U;refine WN _ _ _ _ _ X _ ?_;cases e with
      |normal=>exact absurd X (U s')
      |_=>exact C
   |rangeFunc g ps assign body=>
    simp only[qi] at h;cases M:(rf&&decide (opd (dg s.env) g).ask) with
    |false=>rw[M] at h;cases h
    |true=>
     rw[M] at h;simp only[cond_true] at h;simp only[Bool.and_eq_true] at M;split at h
     .rename_i f fs cs Ag;split at h
      .rename_i ys K4;cases br:ys.all fun y=>Nat.beq y.length ps.size with
       |false=>rw[br] at h;cases h
       |true=>
        rw[br] at h;simp only[cond_true] at h;split at h
        .rename_i e1 m nx hr;simp only[Option.some.injEq,Prod.mk.injEq] at h;obtain⟨rfl,rfl⟩:=h;obtain⟨I,g1,g2,g3⟩:=MQ J hr C;obtain⟨k1,k2⟩:=hx.iter _ _ _ _ K4;exact⟨M.1,of_decide_eq_true M.2,f,fs,cs,ys,I,Ag,k1,fun y hy=>⟨Nat.eq_of_beq_eq_true (List.all_eq_true.1 br y hy),k2 y hy⟩,g1,g2,g3⟩
        .cases h
      .cases h
     .cases h
   |_=>cases h
theorem jW(hx:x.Ok P)(n:Nat){f:FuncId}{args:List D}{r:D}(ht:args.all (pE depth)=true)(h:yk P x (yX P x n) f args=some (.inl r)):PCall P f args r:=
 (Hr hx (ade hx n) fun a ha=>qh (List.all_eq_true.1 ht a ha)).1 r h
end
def az:List (Nat×D)->Env
 |[],_=>.u
 |(t,d)::l,j=>if j=t then d else az l j
def lz:List (Nat×D)->Env->Prop
 |[],_=>True
 |(t,d)::l,env=>env t=d/\lz l env
theorem oB:∀ {l:List (Nat×D)} {env:Env},lz l env->∀ t,az l t=env t\/az l t=.u
 |[],_,_,_=>.inr rfl
 |(k,d)::l,env,h,t=>by
  simp only[az];by_cases ht:t=k
  .subst ht;rw[if_pos rfl];exact .inl h.1.symm
  .rw[if_neg ht];exact oB h.2 t
def gJ(env:Env):List Operand->Prop
 |[]=>True
 |x::xs=>(opd env x).ask/\gJ env xs
theorem Od{env:Env}:∀ {l:List Operand},gJ env l->∀ x∈l,(opd env x).ask
 |[],_,x,h=>by cases h
 |y::l,h,x,hx=>by
  cases hx with
  |head=>exact h.1
  |tail _ hx=>exact Od h.2 x hx
theorem pW{env:Env}{o:Op}(h:gJ env o.operands.toList):asks env o:=by
 have:=Od h;unfold asks;cases o<;>first|exact this|exact this _ (by simp[Op.operands])
section
variable{P:Program}{Y:YSpec}{rf:Bool}
structure Ef(P:Program)(op:Op)(env:Env)(m:Mem)(nx:Nat)(e:Eff):Prop where
 ok:aop P op (rho env op) m nx=some e
 nc:callD (rho env op) op=none
 ny:yieldD (rho env op) op=none
variable{ops:Array Oper}{dr:Bool}{cf:List (Nat×Nat)}{Q:Exit->St->Prop}{rest:List Oper}{env:Env}{m:Mem}{nx:Nat}{tr:Tra}{t:Nat}{op:Op}{ty:TypeId}{pos:String}{after:Array Edge}
 {pre:Prop} {v:D} {rd:List Nat}
theorem yd{d:Option Nat}{e:Eff}(he:Ef P op env m nx e)(ha:asks env op)(hp:e.pre)(K:AOps P Y ops dr cf Q rest (St.put ⟨env,upds m e.ups,nx+e.new⟩ d e.val) (tr++[(e.rd,e.ups.map (·.1))])):
 AOps P Y ops dr cf Q (⟨d,op,ty,pos,after,none⟩::rest) ⟨env,m,nx⟩ tr:=by
 simp only[AOps,AOp];rw[he.nc,he.ny,he.ok];exact⟨ha,hp,K⟩
theorem aH(he:Ef P op env m nx ⟨pre,v,[],rd,0⟩)(ha:gJ env op.operands.toList)(hp:pre)(K:AOps P Y ops dr cf Q rest ⟨up env t v,m,nx⟩ (tr++[(rd,[])])):
 AOps P Y ops dr cf Q (⟨some t,op,ty,pos,after,none⟩::rest) ⟨env,m,nx⟩ tr:=yd he (pW ha) hp K
theorem zO{c a b:Operand}{g:Bool}(hc:(opd env c).core=.s (.bool g)):Ef P (.pick c a b) env m nx ⟨(g=true->(opd env a).ask/\(opd env a).core.bool?.isSome=true)/\(g=false->(opd env b).ask/\(opd env b).core.bool?.isSome=true),
 .s (.bool (if g then(opd env a).core.bool?.getD false else(opd env b).core.bool?.getD false)),[],[],0⟩:=⟨by simp only[aop,rho,hc,D.bool?],rfl,rfl⟩
theorem ach{c a b:Operand}{g x y:Bool}(hc:opd env c=.s (.bool g))(ha:(opd env a).core=.s (.bool x))(hb:(opd env b).core=.s (.bool y))(h1:g=true->(opd env a).ask)(h2:g=false->(opd env b).ask)
 (K:AOps P Y ops dr cf Q rest ⟨up env t (.s (.bool (if g then x else y))),m,nx⟩ (tr++[([],[])])):
 AOps P Y ops dr cf Q (⟨some t,.pick c a b,ty,pos,after,none⟩::rest) ⟨env,m,nx⟩ tr:=by
 refine yd (zO (g:=g) (by rw[hc];rfl)) (by simp only[asks,hc,D.ask]) ⟨fun h=>⟨h1 h,by rw[ha];rfl⟩,fun h=>⟨h2 h,by rw[hb];rfl⟩⟩ ?_;simp only[ha,hb,D.bool?,Option.getD_some];exact K
theorem aaX{c a b:Operand}{x:Bool}(hc:opd env c=.s (.bool true))(ha:(opd env a).core=.s (.bool x))(h1:(opd env a).ask)
 (K:AOps P Y ops dr cf Q rest ⟨up env t (.s (.bool x)),m,nx⟩ (tr++[([],[])])):
 AOps P Y ops dr cf Q (⟨some t,.pick c a b,ty,pos,after,none⟩::rest) ⟨env,m,nx⟩ tr:=by
 refine yd (zO (g:=true) (by rw[hc];rfl)) (by simp only[asks,hc,D.ask]) ⟨fun _=>⟨h1,by rw[ha];rfl⟩,fun h=>by cases h⟩ ?_;simp only[ha,D.bool?,Option.getD_some,if_true];exact K
theorem aaY{c a b:Operand}{y:Bool}(hc:opd env c=.s (.bool false))(hb:(opd env b).core=.s (.bool y))(h2:(opd env b).ask)
 (K:AOps P Y ops dr cf Q rest ⟨up env t (.s (.bool y)),m,nx⟩ (tr++[([],[])])):
 AOps P Y ops dr cf Q (⟨some t,.pick c a b,ty,pos,after,none⟩::rest) ⟨env,m,nx⟩ tr:=by
 refine yd (zO (g:=false) (by rw[hc];rfl)) (by simp only[asks,hc,D.ask]) ⟨fun h=>oH,fun _=>⟨h2,by rw[hb];rfl⟩⟩ ?_;simp only[hb,D.bool?,Option.getD_some,Bool.false_eq_true,if_false];exact K
theorem b9{i:Nat}{row:Option Row}(he:Ef P op env m nx ⟨pre,v,[(i,row)],rd,0⟩)(ha:gJ env op.operands.toList)(hp:pre)(K:AOps P Y ops dr cf Q rest ⟨env,up m i row,nx⟩ (tr++[(rd,[i])])):
 AOps P Y ops dr cf Q (⟨none,op,ty,pos,after,none⟩::rest) ⟨env,m,nx⟩ tr:=yd he (pW ha) hp K
theorem fX{row:Row}(he:Ef P op env m nx ⟨pre,v,[(nx,some row)],rd,1⟩)(ha:gJ env op.operands.toList)(hp:pre)(K:AOps P Y ops dr cf Q rest ⟨up env t v,up m nx (some row),nx+1⟩ (tr++[(rd,[nx])])):
 AOps P Y ops dr cf Q (⟨some t,op,ty,pos,after,none⟩::rest) ⟨env,m,nx⟩ tr:=yd he (pW ha) hp K
theorem tH{i:Nat}{row:Row}(he:Ef P op env m nx ⟨pre,v,[(i,none),(nx,some row)],rd,1⟩)(ha:gJ env op.operands.toList)(hp:pre)(K:AOps P Y ops dr cf Q rest ⟨up env t v,up (up m i none) nx (some row),nx+1⟩ (tr++[(rd,[i,nx])])):
 AOps P Y ops dr cf Q (⟨some t,op,ty,pos,after,none⟩::rest) ⟨env,m,nx⟩ tr:=yd he (pW ha) hp K
theorem bG{j:Nat}{b c:Bool}{u:Nat}(hj:(ops[j]?).bind (·.dst)=some u)(hg:guardC (env u) b=some c)(he:Ef P op env m nx ⟨pre,v,[],rd,0⟩)(ha:c=true->gJ env op.operands.toList/\pre)
 (K:AOps P Y ops dr cf Q rest ⟨up env t (.opt c v),m,nx⟩ (tr++[(rd,[])])):AOps P Y ops dr cf Q (⟨some t,op,ty,pos,after,some (j,b)⟩::rest) ⟨env,m,nx⟩ tr:=by
 simp only[AOps,AOp];rw[hj];simp only[Option.bind_some];rw[hg,he.nc,he.ny,he.ok];exact⟨fun hc=>⟨pW (ha hc).1,(ha hc).2⟩,K⟩
theorem aaZ{j:Nat}{b0 C:Bool}{u:Nat}(hj:(ops[j]?).bind (·.dst)=some u)(hg:guardC (env u) b0=some C){c a b:Operand}{g x y:Bool}(hc:(opd env c).core=.s (.bool g))(ha:(opd env a).core=.s (.bool x))(hb:(opd env b).core=.s (.bool y))
 (h0:C=true->(opd env c).ask) (h1:C=true->g=true->(opd env a).ask) (h2:C=true->g=false->(opd env b).ask)
 (K:AOps P Y ops dr cf Q rest ⟨up env t (.opt C (.s (.bool (if g then x else y)))),m,nx⟩ (tr++[([],[])])):
 AOps P Y ops dr cf Q (⟨some t,.pick c a b,ty,pos,after,some (j,b0)⟩::rest) ⟨env,m,nx⟩ tr:=by
 have he:=zO (P:=P) (env:=env) (m:=m) (nx:=nx) (a:=a) (b:=b) hc;simp only[ha,hb,D.bool?,Option.getD_some,Option.isSome_some,and_true] at he;simp only[AOps,AOp];rw[hj];simp only[Option.bind_some];rw[hg,he.nc,he.ny,he.ok];exact⟨fun hc=>⟨by simp only[asks];exact h0 hc,h1 hc,h2 hc⟩,K⟩
theorem ael{j:Nat}{b:Bool}{u:Nat}{d:Option Nat}{e:Eff}(hj:(ops[j]?).bind (·.dst)=some u)(hg:guardC (env u) b=some true)(he:Ef P op env m nx e)(ha:gJ env op.operands.toList)(hp:e.pre)
 (K:e.ups=[]->e.new=0->AOps P Y ops dr cf Q rest (St.put ⟨env,m,nx⟩ d (.opt true e.val)) (tr++[(e.rd,[])]))
 (K':AOps P Y ops dr cf Q rest (St.put ⟨env,upds m e.ups,nx+e.new⟩ d e.val) (tr++[(e.rd,e.ups.map (·.1))])):AOps P Y ops dr cf Q (⟨d,op,ty,pos,after,some (j,b)⟩::rest) ⟨env,m,nx⟩ tr:=by
 simp only[AOps,AOp];rw[hj];simp only[Option.bind_some];rw[hg,he.nc,he.ny,he.ok];simp only;split
 .rename_i h;simp only[Bool.and_eq_true,List.isEmpty_iff,beq_iff_eq] at h;exact⟨fun _=>⟨pW ha,hp⟩,K h.1 h.2⟩
 .exact⟨fun _=>⟨pW ha,hp,K'⟩,by simp⟩
theorem S5{j:Nat}{b:Bool}{u:Nat}{d:Option Nat}(hj:(ops[j]?).bind (·.dst)=some u)(hg:guardC (env u) b=some false)
 (K:∀ (x:D) rd,AOps P Y ops dr cf Q rest (St.put ⟨env,m,nx⟩ d (.opt false x)) (tr++[(rd,[])])):AOps P Y ops dr cf Q (⟨d,op,ty,pos,after,some (j,b)⟩::rest) ⟨env,m,nx⟩ tr:=by
 simp only[AOps,AOp];rw[hj];simp only[Option.bind_some];rw[hg];simp only;split
 .exact .inr ⟨by simp,fun _=>K .u []⟩
 .split
  .exact⟨by simp,fun _=>K .u []⟩
  .split
   .split
    .exact⟨by simp,K _ _⟩
    .exact⟨by simp,fun _=>K .u []⟩
   .exact⟨trivial,K .u []⟩
theorem aqG{j:Nat}{b:Bool}{u t:Nat}(hj:(ops[j]?).bind (·.dst)=some u)(hg:guardC (env u) b=some false)
 (K:∀ (x:D) rd,AOps P Y ops dr cf Q rest ⟨up env t (.opt false x),m,nx⟩ (tr++[(rd,[])])):AOps P Y ops dr cf Q (⟨some t,op,ty,pos,after,some (j,b)⟩::rest) ⟨env,m,nx⟩ tr:=S5 hj hg K
theorem BN{f:FuncId}{args:List D}{d:Option Nat}(hc:callD (rho env op) op=some (f,args))(ha:gJ env op.operands.toList)(h:CallOp P dr ⟨env,m,nx⟩ f args fun r m nx rd wr=>AOps P Y ops dr cf Q rest (St.put ⟨env,m,nx⟩ d r) (tr++[(rd,wr)])):
 AOps P Y ops dr cf Q (⟨d,op,ty,pos,after,none⟩::rest) ⟨env,m,nx⟩ tr:=by
 simp only[AOps,AOp];rw[hc];exact⟨pW ha,h⟩
theorem aem{f:FuncId}{args:List D}{r:D}(h:PCall P f args r)(hc:callD (rho env op) op=some (f,args))(ha:gJ env op.operands.toList)(K:AOps P Y ops dr cf Q rest ⟨up env t r,m,nx⟩ (tr++[([],[])])):
 AOps P Y ops dr cf Q (⟨some t,op,ty,pos,after,none⟩::rest) ⟨env,m,nx⟩ tr:=BN hc ha (.inl ⟨r,h,K⟩)
theorem uM{f:FuncId}{args es:List D}{n:Nat}{C:TypeId}(h:OCall P f args es n C)(hc:callD (rho env op) op=some (f,args))(ha:gJ env op.operands.toList)(K:AOps P Y ops dr cf Q rest ⟨up env t (.rs nx 0 n),up m nx (some (.cells es C)),nx+1⟩ (tr++[([],[nx])])):
 AOps P Y ops dr cf Q (⟨some t,op,ty,pos,after,none⟩::rest) ⟨env,m,nx⟩ tr:=BN hc ha (.inr (.inr (.inl ⟨es,n,C,h,K⟩)))
theorem m7{f:FuncId}{args:List D}{d:Option Nat}{ep:D->Mem->Nat->Prop}(h:ACalls P f args m nx ep)(hc:callD (rho env op) op=some (f,args))(ha:gJ env op.operands.toList)
 (K:∀ r m' nx',ep r m' nx'->AOps P Y ops false cf Q rest (St.put ⟨env,m',nx'⟩ d r) (tr++[([],[])])):
 AOps P Y ops false cf Q (⟨d,op,ty,pos,after,none⟩::rest) ⟨env,m,nx⟩ tr:=BN hc ha (.inr (.inr (.inr (.inl ⟨rfl,h.mono K⟩))))
theorem S6{f:FuncId}{args args':List D}{r:D}{rds:List Nat}(h:PCall P f args' r)(C:r.scal=true)(J:Sns P rds m args args')(hc:callD (rho env op) op=some (f,args))(ha:gJ env op.operands.toList)
 (K:AOps P Y ops dr cf Q rest ⟨up env t r,m,nx⟩ (tr++[(rds,[])])):AOps P Y ops dr cf Q (⟨some t,op,ty,pos,after,none⟩::rest) ⟨env,m,nx⟩ tr:=BN hc ha (.inr (.inl ⟨args',rds,r,J,h,C,K⟩))
theorem Cq{j:Nat}{b c:Bool}{u:Nat}{f:FuncId}{args:List D}{r:D}(hj:(ops[j]?).bind (·.dst)=some u)(hg:guardC (env u) b=some c)(hc:callD (rho env op) op=some (f,args))(h:c=true->gJ env op.operands.toList/\PCall P f args r)
 (K:AOps P Y ops dr cf Q rest ⟨up env t (.opt c r),m,nx⟩ (tr++[([],[])])):AOps P Y ops dr cf Q (⟨some t,op,ty,pos,after,some (j,b)⟩::rest) ⟨env,m,nx⟩ tr:=by
 simp only[AOps,AOp];rw[hj];simp only[Option.bind_some];rw[hg,hc];exact .inl ⟨r,fun C=>⟨pW (h C).1,(h C).2⟩,K⟩
theorem aaV{j:Nat}{b:Bool}{u:Nat}{d:Option Nat}{f:FuncId}{args:List D}(hj:(ops[j]?).bind (·.dst)=some u)(hg:guardC (env u) b=some true)(hc:callD (rho env op) op=some (f,args))(ha:gJ env op.operands.toList)
 (h:CallOp P dr ⟨env,m,nx⟩ f args fun r m nx rd wr=>AOps P Y ops dr cf Q rest (St.put ⟨env,m,nx⟩ d r) (tr++[(rd,wr)])):AOps P Y ops dr cf Q (⟨d,op,ty,pos,after,some (j,b)⟩::rest) ⟨env,m,nx⟩ tr:=by
 simp only[AOps,AOp];rw[hj];simp only[Option.bind_some];rw[hg,hc];exact .inr ⟨fun _=>⟨pW ha,h⟩,by simp⟩
theorem J8{l:Nat}{args:List D}{d:Option Nat}(hc:callD (rho env op) op=none)(hy:yieldD (rho env op) op=some (l,args))(ha:gJ env op.operands.toList)(h:Y l args m nx fun r m' nx'=>AOps P Y ops false cf Q rest (St.put ⟨env,m',nx'⟩ d r) (tr++[([],[])])):
 AOps P Y ops false cf Q (⟨d,op,ty,pos,after,none⟩::rest) ⟨env,m,nx⟩ tr:=by
 simp only[AOps,AOp];rw[hc,hy];exact⟨pW ha,trivial,h⟩
theorem FJ{j:Nat}{b:Bool}{u:Nat}{l:Nat}{args:List D}{d:Option Nat}(hj:(ops[j]?).bind (·.dst)=some u)(hg:guardC (env u) b=some true)(hc:callD (rho env op) op=none)(hy:yieldD (rho env op) op=some (l,args))(ha:gJ env op.operands.toList)
 (h:Y l args m nx fun r m' nx'=>AOps P Y ops false cf Q rest (St.put ⟨env,m',nx'⟩ d r) (tr++[([],[])])):AOps P Y ops false cf Q (⟨d,op,ty,pos,after,some (j,b)⟩::rest) ⟨env,m,nx⟩ tr:=by
 simp only[AOps,AOp];rw[hj];simp only[Option.bind_some];rw[hg,hc,hy];exact⟨fun _=>⟨pW ha,trivial,h⟩,by simp⟩
def fK(K:St->Prop):Exit->St->Prop
 | .normal,st=>K st
 |_,_=>True
theorem ab{K:St->Prop}{st:St}(h:K st):AOps P Y ops dr [] (fK K) [] st tr:=⟨by simp,h⟩
theorem bk{K:St->Prop}{st:St}(hc:∀ q∈cf,apartT tr q.1 q.2)(h:K st):AOps P Y ops dr cf (fK K) [] st tr:=⟨hc,h⟩
variable{st:St}{a b c:Code}
theorem AOps.kQ{cf:List (Nat×Nat)}{K:St->Prop}{Q:Exit->St->Prop}[dG Y]{l:List Oper}(h:AOps P Y ops dr cf (fK K) l st tr)(hk:∀ st,K st->Q .normal st):AOps P Y ops dr cf Q l st tr:=
 AOps.mono (Q:=fK K) (fun st h=>hk st h) l st tr h
theorem sR[dG Y]{id:Nat}(h:AOps P Y ops false [] (fK fun st=>Q .normal st) ops.toList st []):AW P Y rf (.region id ops false) Q st:=AOps.kQ h fun _ h=>h
theorem z7[dG Y]{id:Nat}(hi:drawInfo ops=some cf)(h:AOps P Y ops true cf (fK fun st=>Q .normal st) ops.toList st []):AW P Y rf (.region id ops true) Q st:=by
 show match drawInfo ops with
  |some cf=>AOps P Y ops true cf Q ops.toList st []
  |none=>False
 rw[hi];exact AOps.kQ h fun _ h=>h
theorem aj[dG Y]{id:Nat}(h:AOps P Y ops false [] (fK fun st=>AW P Y rf b Q st) ops.toList st []):AW P Y rf (.seq (.region id ops false) b) Q st:=
 sR (rf:=rf) (id:=id) (AOps.kQ h fun st h=>⟨st,.refl st,h⟩)
theorem dm[dG Y]{id:Nat}(hi:drawInfo ops=some cf)(h:AOps P Y ops true cf (fK fun st=>AW P Y rf b Q st) ops.toList st []):AW P Y rf (.seq (.region id ops true) b) Q st:=
 z7 (rf:=rf) (id:=id) hi (AOps.kQ h fun st h=>⟨st,.refl st,h⟩)
theorem aO{st':St}(hg:Ghost P st st')(h:AW P Y rf b Q st'):∃ C,Ghost P st C/\AW P Y rf b Q C:=⟨st',hg,h⟩
theorem aw[dG Y]{id:Nat}(h:AOps P Y ops false [] (fK fun st=>∃ st',Ghost P st st'/\AW P Y rf b Q st') ops.toList st []):AW P Y rf (.seq (.region id ops false) b) Q st:=
 sR (rf:=rf) (id:=id) (AOps.kQ h fun _ h=>h)
theorem qS[dG Y]{id:Nat}(hi:drawInfo ops=some cf)(h:AOps P Y ops true cf (fK fun st=>∃ st',Ghost P st st'/\AW P Y rf b Q st') ops.toList st []):AW P Y rf (.seq (.region id ops true) b) Q st:=
 z7 (rf:=rf) (id:=id) hi (AOps.kQ h fun _ h=>h)
theorem S0[dG Y](J:St->Prop)(h:AW P Y rf a (seqQ J Q) st)(k:∀ st,J st->AW P Y rf b Q st):AW P Y rf (.seq a b) Q st:=
 sZ a (fun e st h=>by
  cases e with
  |normal=>exact⟨st,.refl st,k st h⟩
  |_=>exact h) h
theorem dE[dG Y](J:St->Prop)(h:AW P Y rf a (seqQ J Q) st)(k:∀ st,J st->∃ st',Ghost P st st'/\AW P Y rf b Q st'):AW P Y rf (.seq a b) Q st:=
 sZ a (fun e st h=>by
  cases e with
  |normal=>exact k st h
  |_=>exact h) h
theorem bS[dG Y](h:AW P Y rf b Q st):AW P Y rf (.seq .skip b) Q st:=⟨st,.refl st,h⟩
theorem cU(h:Q .ret st):AW P Y rf (.seq .ret b) Q st:=h
theorem kF{id:Nat}(h:Q (.exit id) st):AW P Y rf (.seq (.exit id) b) Q st:=h
theorem YA{l:Nat}(h:AW P Y rf b Q st):AW P Y rf (.seq (.label l) b) Q st:=⟨st,.refl st,h⟩
theorem aC[dG Y](h:AW P Y rf (.seq a (.seq b c)) Q st):AW P Y rf (.seq (.seq a b) c) Q st:=by
 refine sZ a (fun e st h=>?_) h;cases e with
 |normal=>
  obtain⟨st',hg,h⟩:=h;refine⟨st',hg,sZ b (fun e st h=>?_) h⟩;cases e<;>exact h
 |_=>exact h
theorem aq{c:Operand}{x y:Code}{g:Bool}(hc:opd st.env c=.s (.bool g))(ht:g=true->AW P Y rf x Q st)(hf:g=false->AW P Y rf y Q st):AW P Y rf (.cond c x y) Q st:=by
 rw[OS];rw[hc];exact⟨trivial,ht,hf⟩
theorem bh{c:Operand}{x y:Code}{g:Bool}(hc:opd st.env c=.s (.bool g))(ht:g=true->AW P Y rf (.seq x b) Q st)(hf:g=false->AW P Y rf (.seq y b) Q st):AW P Y rf (.seq (.cond c x y) b) Q st:=aq hc ht hf
theorem aci{c:Operand}{x y:Code}(hc:opd st.env c=.ub)(ht:AW P Y rf x Q st)(hf:AW P Y rf y Q st):AW P Y rf (.cond c x y) Q st:=by
 rw[OS];rw[hc];exact⟨trivial,ht,hf⟩
theorem ja{id:Nat}(h:AW P Y rf b (blockQ id Q) st):AW P Y rf (.block id b) Q st:=h
theorem OT[dG Y]{α:Type}(S:α->St)(J:α->Prop)(μ:α->Nat)(U:α)(h0:st=S U)(X:J U)(h:∀ x,J x->AW P Y rf b (seqQ (fun st'=>∃ M C,Ghost P st' M/\M=S C/\J C/\μ C<μ x) Q) (S x)):AW P Y rf (.loop b) Q st:=by
 refine N8 (fun j st=>∃ x,st=S x/\J x/\μ x=j) (j₀:=μ U) ⟨U,h0,X,rfl⟩ ?_;rintro j st ⟨x,rfl,hx,rfl⟩;refine sZ b (fun e st' hq=>?_) (h x hx);cases e with
 |normal=>
  obtain⟨M,C,h1,h2,h3,h4⟩:=hq;exact⟨M,h1,μ C,h4,C,h2,h3,rfl⟩
 |_=>exact hq
end
section
variable{P:Program}{env:Env}{m:Mem}{nx:Nat}{t:TypeId}{x y a:Operand}{d v:D}{k:IntKind}{n n':Int}{p q:TypeId}
theorem jH(hx:(opd env x).core=v):Ef P (.move x) env m nx ⟨True,v,[],[],0⟩:=⟨by simp only[aop,rho,hx],rfl,rfl⟩
theorem mP(hx:(opd env x).core=v):Ef P (.assign x) env m nx ⟨True,v,[],[],0⟩:=⟨by simp only[aop,rho,hx],rfl,rfl⟩
theorem QN(op:BinOp)(v:Value)(y:Operand):nilD P m op t (.s v) y=none:=by
 unfold nilD;split<;>first|rfl|(rename_i h;cases h)
theorem ac6{op:BinOp}{v w:Value}(h:∀ a b,v=.bool a->w=.bool b->False):binD P op t (.s v) (.s w)=(binV op v w).map fun r=>(r.1,.s r.2):=by
 cases v<;>cases w<;>first|rfl|exact(h _ _ rfl rfl).elim
theorem lG{op:BinOp}{v w u:Value}{pre:Prop}(hx:(opd env x).core=.s v)(hy:(opd env y).core=.s w)(hn:∀ a b,v=.bool a->w=.bool b->False)(hb:binV op v w=some (pre,u)):Ef P (.binOp op t x y p) env m nx ⟨pre,.s u,[],[],0⟩:=
 ⟨by simp only[aop,rho,hx,hy,QN,ac6 hn,hb,Option.map_some],rfl,rfl⟩
section ints
variable(hx:(opd env x).core=.s (.int k n))(hy:(opd env y).core=.s (.int k n'))
include hx hy
theorem Jl:Ef P (.binOp .lss t x y p) env m nx ⟨k=k,.s (.bool (decide (n<n'))),[],[],0⟩:=lG hx hy oS rfl
theorem Jm:Ef P (.binOp .leq t x y p) env m nx ⟨k=k,.s (.bool (decide (n<=n'))),[],[],0⟩:=lG hx hy oS rfl
theorem Jn:Ef P (.binOp .gtr t x y p) env m nx ⟨k=k,.s (.bool (decide (n'<n))),[],[],0⟩:=lG hx hy oS rfl
theorem Jo:Ef P (.binOp .geq t x y p) env m nx ⟨k=k,.s (.bool (decide (n'<=n))),[],[],0⟩:=lG hx hy oS rfl
theorem Jp:Ef P (.binOp .eql t x y p) env m nx ⟨k=k,.s (.bool (n==n')),[],[],0⟩:=lG hx hy oS rfl
theorem Jq:Ef P (.binOp .neq t x y p) env m nx ⟨k=k,.s (.bool (n !=n')),[],[],0⟩:=lG hx hy oS rfl
theorem ac7:Ef P (.binOp .add t x y p) env m nx ⟨k=k,.s (.int k (k.wrap (n+n'))),[],[],0⟩:=lG hx hy oS rfl
theorem ac8:Ef P (.binOp .sub t x y p) env m nx ⟨k=k,.s (.int k (k.wrap (n - n'))),[],[],0⟩:=lG hx hy oS rfl
theorem ac9:Ef P (.binOp .mul t x y p) env m nx ⟨k=k,.s (.int k (k.wrap (n*n'))),[],[],0⟩:=lG hx hy oS rfl
theorem ac':Ef P (.binOp .quo t x y p) env m nx ⟨k=k/\n'≠0,.s (.int k (k.wrap (n.tdiv n'))),[],[],0⟩:=lG hx hy oS rfl
theorem ad7:Ef P (.binOp .rem t x y p) env m nx ⟨k=k/\n'≠0,.s (.int k (n.tmod n')),[],[],0⟩:=lG hx hy oS rfl
theorem ad8:Ef P (.binOp .and t x y p) env m nx ⟨k=k,.s (.int k (intBitsV .and k n n')),[],[],0⟩:=lG hx hy oS rfl
theorem akF:Ef P (.binOp .or t x y p) env m nx ⟨k=k,.s (.int k (intBitsV .or k n n')),[],[],0⟩:=lG hx hy oS rfl
end ints
theorem ad9{C:IntKind}(hx:(opd env x).core=.s (.int k n))(hy:(opd env y).core=.s (.int C n')):Ef P (.binOp .shl t x y p) env m nx ⟨0<=n',.s (.int k (k.wrap (n*2 ^ (min n'.toNat k.bits)))),[],[],0⟩:=lG hx hy oS rfl
theorem ad'{C:IntKind}(hx:(opd env x).core=.s (.int k n))(hy:(opd env y).core=.s (.int C n')):Ef P (.binOp .shr t x y p) env m nx ⟨0<=n',.s (.int k (n.fdiv (2 ^ (min n'.toNat k.bits)))),[],[],0⟩:=lG hx hy oS rfl
theorem i64_in(n:Int)(h: -9223372036854775808<=n/\n<=9223372036854775807):IntKind.i64.wrap n=n:=Go.IntWalk.i64_in n h
theorem SQ(hx:(opd env x).core=.s (.int .i64 n))(hy:(opd env y).core=.s (.int .i64 n'))(hb: -9223372036854775808<=n+n'/\n+n'<=9223372036854775807):Ef P (.binOp .add t x y p) env m nx ⟨IntKind.i64=IntKind.i64,.s (.int .i64 (n+n')),[],[],0⟩:=by
 have:=ac7 (P:=P) (m:=m) (nx:=nx) (t:=t) (p:=p) hx hy
 rwa[i64_in _ hb] at this
theorem Jr(hx:(opd env x).core=.s (.int .i64 n))(hy:(opd env y).core=.s (.int .i64 n'))(hb: -9223372036854775808<=n - n'/\n - n'<=9223372036854775807):Ef P (.binOp .sub t x y p) env m nx ⟨IntKind.i64=IntKind.i64,.s (.int .i64 (n - n')),[],[],0⟩:=by
 have:=ac8 (P:=P) (m:=m) (nx:=nx) (t:=t) (p:=p) hx hy
 rwa[i64_in _ hb] at this
section strings
variable{s s':ByteArray}(hx:(opd env x).core=.s (.string s))(hy:(opd env y).core=.s (.string s'))
include hx hy
theorem IU:Ef P (.binOp .eql t x y p) env m nx ⟨True,.s (.bool (s.toList==s'.toList)),[],[],0⟩:=lG hx hy oS rfl
theorem QO:Ef P (.binOp .geq t x y p) env m nx ⟨True,.s (.bool !(Op.bytesLess s.toList s'.toList)),[],[],0⟩:=lG hx hy oS rfl
end strings
theorem QP{b C:Bool}(hx:(opd env x).core=.s (.bool b))(hy:(opd env y).core=.s (.bool C)):Ef P (.binOp .eql t x y p) env m nx ⟨boT P t=true,.s (.bool (b==C)),[],[],0⟩:=
 ⟨by simp only[aop,rho,hx,hy,QN,binD,Option.map_some],rfl,rfl⟩
theorem SR{b:Bool}(hx:(opd env x).core=.s (.bool b)):Ef P (.unOp .not t x) env m nx ⟨True,.s (.bool !b),[],[],0⟩:=⟨by simp only[aop,rho,hx,unV,Option.map_some],rfl,rfl⟩
theorem ab8{z:List D}(C:zeroP P t=z):Ef P (.alloc t) env m nx ⟨tyOk P t=true,.rp nx 0,[(nx,some (.cells z t))],[],1⟩:=⟨by simp only[aop,C],rfl,rfl⟩
theorem SU{cs:List D}(hx:(opd env x).core=d)(hc:d.cells=cs):Ef P (.box t x) env m nx ⟨cs.all D.one=true,.rp nx 0,[(nx,some (.cells cs t))],[],1⟩:=⟨by simp only[aop,rho,hx,hc],rfl,rfl⟩
theorem Fk(hx:(opd env x).core=d)(hc:d.cells=[d]):Ef P (.box t x) env m nx ⟨[d].all D.one=true,.rp nx 0,[(nx,some (.cells [d] t))],[],1⟩:=SU hx hc
theorem tk{cs:List D}(hx:(opd env x).core=.agg cs):Ef P (.box t x) env m nx ⟨cs.all D.one=true,.rp nx 0,[(nx,some (.cells cs t))],[],1⟩:=SU hx rfl
theorem QQ{cs:List D}(hx:(opd env x).core=.pt (v::cs))(ha:aggP P t=false):Ef P (.load t x) env m nx ⟨tyOk P t=true/\P.cellsOf t<=(v::cs).length,v,[],[],0⟩:=⟨by simp[aop,rho,hx,takeV,ha],rfl,rfl⟩
theorem mf{cs vs:List D}{n:Nat}(hx:(opd env x).core=.pt cs)(ha:aggP P t=true)(hc:P.cellsOf t=n)(hv:cs.take n=vs):Ef P (.load t x) env m nx ⟨tyOk P t=true/\P.cellsOf t<=cs.length,.agg vs,[],[],0⟩:=⟨by simp[aop,rho,hx,takeV,ha,hc,hv],rfl,rfl⟩
theorem iI{i off:Nat}{cs cs':List D}{e:TypeId}(hx:(opd env x).core=.rp i off)(hm:m i=some (.cells cs e))(hd:cs.drop off=v::cs')(ha:aggP P t=false):Ef P (.load t x) env m nx ⟨tyOk P t=true/\off+P.cellsOf t<=cs.length,v,[],[i],0⟩:=⟨by simp[aop,rho,hx,hm,takeV,ha,hd],rfl,rfl⟩
theorem dU{i off:Nat}{cs vs:List D}{e:TypeId}{n:Nat}(hx:(opd env x).core=.rp i off)(hm:m i=some (.cells cs e))(ha:aggP P t=true)(hc:P.cellsOf t=n)(hv:(cs.drop off).take n=vs):Ef P (.load t x) env m nx ⟨tyOk P t=true/\off+P.cellsOf t<=cs.length,.agg vs,[],[i],0⟩:=⟨by simp[aop,rho,hx,hm,takeV,ha,hc,hv],rfl,rfl⟩
theorem ON{i off:Nat}{cs cs' vs:List D}{e:TypeId}(hx:(opd env x).core=.rp i off)(hy:(opd env y).core=d)(hm:m i=some (.cells cs e))(hv:d.cells=vs)(C:splice cs off vs=cs'):
 Ef P (.store t x y) env m nx ⟨tyOk P t=true/\vs.length=P.cellsOf t/\off+P.cellsOf t<=cs.length/\vs.all D.one=true,.tup [],[(i,some (.cells cs' e))],[i],0⟩:=⟨by simp only[aop,rho,hx,hy,hm,hv,C],rfl,rfl⟩
theorem eS{i off:Nat}{cs cs':List D}{e:TypeId}(hx:(opd env x).core=.rp i off)(hy:(opd env y).core=d)(hm:m i=some (.cells cs e))(hv:d.cells=[d])(C:cs.set off d=cs'):
 Ef P (.store t x y) env m nx ⟨tyOk P t=true/\[d].length=P.cellsOf t/\off+P.cellsOf t<=cs.length/\[d].all D.one=true,.tup [],[(i,some (.cells cs' e))],[i],0⟩:=ON hx hy hm hv C
theorem gR{i off:Nat}{cs cs' vs:List D}{e:TypeId}(hx:(opd env x).core=.rp i off)(hy:(opd env y).core=.agg vs)(hm:m i=some (.cells cs e))(C:splice cs off vs=cs'):
 Ef P (.store t x y) env m nx ⟨tyOk P t=true/\vs.length=P.cellsOf t/\off+P.cellsOf t<=cs.length/\vs.all D.one=true,.tup [],[(i,some (.cells cs' e))],[i],0⟩:=ON hx hy hm rfl C
theorem OO{cs:List D}{j off:Nat}{C:TypeId}(hx:(opd env x).core=.pt cs)(hf:fieldP P t j=some (off,C)):Ef P (.fieldAddr t x j) env m nx ⟨0<P.cellsOf C,.pt (cs.drop off),[],[],0⟩:=⟨by simp only[aop,rho,hx,hf],rfl,rfl⟩
theorem sP{i o:Nat}{j off:Nat}{C:TypeId}{r:Row}(hx:(opd env x).core=.rp i o)(hm:m i=some r)(hf:fieldP P t j=some (off,C)):Ef P (.fieldAddr t x j) env m nx ⟨0<P.cellsOf C,.rp i (o+off),[],[i],0⟩:=⟨by simp only[aop,rho,hx,hf,hm],rfl,rfl⟩
theorem QR{cs:List D}(hx:(opd env x).core=.pt cs):Ef P (.nilCheck x) env m nx ⟨True,.pt cs,[],[],0⟩:=⟨by simp only[aop,rho,hx],rfl,rfl⟩
theorem QS{i o:Nat}{r:Row}(hx:(opd env x).core=.rp i o)(hm:m i=some r):Ef P (.nilCheck x) env m nx ⟨True,.rp i o,[],[i],0⟩:=⟨by simp only[aop,rho,hx,hm],rfl,rfl⟩
theorem Js{es cs:List D}{l sz:Nat}{e:TypeId}(hx:(opd env x).core=.sl es l)(hy:(opd env y).core=.s (.int k n))(he:elemP P t=e)(C:P.cellsOf e=sz)(hd:es.drop (n.toNat*sz)=cs):
 Ef P (.indexAddr t x y) env m nx ⟨slT P t=true/\0<=n/\n<l/\(n.toNat+1)*sz<=es.length,.pt cs,[],[],0⟩:=⟨by simp only[aop,rho,hx,hy,he,C,hd],rfl,rfl⟩
theorem IV{j off l sz:Nat}{e:TypeId}{r:Row}(hx:(opd env x).core=.rs j off l)(hy:(opd env y).core=.s (.int k n))(hm:m j=some r)(he:elemP P t=e)(C:P.cellsOf e=sz):
 Ef P (.indexAddr t x y) env m nx ⟨slT P t=true/\0<=n/\n<l,.rp j (off+n.toNat*sz),[],[j],0⟩:=⟨by simp only[aop,rho,hx,hy,hm,he,C],rfl,rfl⟩
theorem ada{j off sz l:Nat}{e:TypeId}{r:Row}(hx:(opd env x).core=.rp j off)(hy:(opd env y).core=.s (.int k n))(hm:m j=some r)(he:elemP P t=e)(C:P.cellsOf e=sz)(hl:lenP P t=l):
 Ef P (.indexAddr t x y) env m nx ⟨arT P t=true/\0<=n/\n<l,.rp j (off+n.toNat*sz),[],[j],0⟩:=⟨by simp only[aop,rho,hx,hy,hm,he,C,hl],rfl,rfl⟩
section builtins
theorem wj{b:Builtin}{ts:Array TypeId}{args:Array Operand}{aS:List D}{e:Eff}(C:ts.size=args.size)(ha:args.toList.map (fun x=>(opd env x).core)=aS)(hb:builtinD P m nx b ts aS=some e):Ef P (.call { callee:=.builtin b,args:=args,argTypes:=ts }) env m nx e:=
 ⟨by simp only[aop];rw[if_pos C];simp only[rho];rw[ha,hb],rfl,rfl⟩
theorem SV{es:List D}{l:Nat}(hx:(opd env x).core=.sl es l):Ef P (.call { callee:=.builtin .len,args:= #[x],argTypes:= #[t] }) env m nx ⟨slT P t=true,.s (.int .i64 l),[],[],0⟩:=wj (aS:=[.sl es l]) rfl (by simp[hx]) rfl
theorem Fl{i off l:Nat}{r:Row}(hx:(opd env x).core=.rs i off l)(hm:m i=some r):Ef P (.call { callee:=.builtin .len,args:= #[x],argTypes:= #[t] }) env m nx ⟨slT P t=true,.s (.int .i64 l),[],[i],0⟩:=wj (aS:=[.rs i off l]) rfl (by simp[hx]) (by simp[builtinD,lenD,hm])
theorem QT(hx:(opd env x).core=.z):Ef P (.call { callee:=.builtin .len,args:= #[x],argTypes:= #[t] }) env m nx ⟨slT P t=true,.s (.int .i64 0),[],[],0⟩:=wj (aS:=[.z]) rfl (by simp[hx]) rfl
theorem IW{b:ByteArray}(hx:(opd env x).core=.s (.string b)):Ef P (.call { callee:=.builtin .len,args:= #[x],argTypes:= #[t] }) env m nx ⟨stT P t=true,.s (.int .i64 b.size),[],[],0⟩:=wj (aS:=[.s (.string b)]) rfl (by simp[hx]) rfl
theorem SW{k:IntKind}(hx:(opd env x).core=.s (.int k n))(hy:(opd env y).core=.s (.int k n')):Ef P (.call { callee:=.builtin .min,args:= #[x,y],argTypes:= #[t,t] }) env m nx ⟨k=k,.s (.int k (if n'<n then n' else n)),[],[],0⟩:=wj (aS:=[.s (.int k n),.s (.int k n')]) rfl (by simp[hx,hy]) rfl
structure Cells(m:Mem)(sz:Nat)(d:D)(p:Prop)(rd:List Nat)(k:Nat)(news:List D):Prop where
 ok:sliceCells m sz d=some (p,rd,k,news)
theorem NW{es news:List D}{k sz:Nat}(h:es.take (k*sz)=news):Cells m sz (.sl es k) (k*sz<=es.length) [] k news:=⟨by simp[sliceCells,h]⟩
theorem sQ{i off k sz:Nat}{cs news:List D}{e:TypeId}(hm:m i=some (.cells cs e))(h:(cs.drop off).take (k*sz)=news):Cells m sz (.rs i off k) (off+k*sz<=cs.length) [i] k news:=⟨by simp[sliceCells,hm,h]⟩
theorem QU{p:Prop}{rd:List Nat}{c sz:Nat}{news:List D}{e:TypeId}(hx:(opd env x).core=.z)(hy:(opd env y).core=d)(he:elemP P t=e)(C:P.cellsOf e=sz)(hc:Cells m sz d p rd c news):
 Ef P (.call { callee:=.builtin .append,args:= #[x,y],argTypes:= #[t,t] }) env m nx ⟨slT P t=true/\p/\0<sz/\c<=maxLen/\c*P.bytesOf e<=140737488355328,.rs nx 0 c,[(nx,some (.cells news e))],rd,1⟩:=by
 refine wj (aS:=[.z,d]) rfl (by simp[hx,hy]) ?_;simp only[builtinD];rw[if_pos oS];simp only[appendD,Array.getD_eq_getD_getElem?,List.getElem?_toArray,List.getElem?_cons_zero,Option.getD_some,he,C,hc.ok]
theorem tl{p:Prop}{rd:List Nat}{c sz i off l:Nat}{cs cs' news:List D}{e:TypeId}(hx:(opd env x).core=.rs i off l)(hm:m i=some (.cells cs e))(hy:(opd env y).core=d)(he:elemP P t=e)(C:P.cellsOf e=sz)(hc:Cells m sz d p rd c news)(hn:cs.drop off++news=cs'):
 Ef P (.call { callee:=.builtin .append,args:= #[x,y],argTypes:= #[t,t] }) env m nx ⟨slT P t=true/\e=e/\p/\0<sz/\off+l*sz=cs.length/\l+c<=maxLen/\(l+c)*P.bytesOf e<=140737488355328/\i∉rd,.rs nx 0 (l+c),[(i,none),(nx,some (.cells cs' e))],i::rd,1⟩:=by
 refine wj (aS:=[.rs i off l,d]) rfl (by simp[hx,hy]) ?_;simp only[builtinD];rw[if_pos oS];simp only[appendD,Array.getD_eq_getD_getElem?,List.getElem?_toArray,List.getElem?_cons_zero,Option.getD_some,he,C,hc.ok,hm,hn]
end builtins
theorem QV{b:ByteArray}(hx:(opd env x).core=.s (.string b))(hy:(opd env y).core=.s (.int k n)):Ef P (.index t x y) env m nx ⟨stT P t=true/\0<=n/\n<b.size,.s (.int .u8 (b.data.toList.getD n.toNat 0).toNat),[],[],0⟩:=⟨by simp only[aop,rho,hx,hy],rfl,rfl⟩
theorem qT{cs cs':List D}{j:Nat}(hx:(opd env x).core=.tup cs)(hd:cs.drop j=v::cs'):Ef P (.extract x j) env m nx ⟨j<cs.length,v,[],[],0⟩:=by
 have h:cs[j]? =some v:=by
  have:(cs.drop j)[0]? =some v:=by rw[hd];rfl
  simpa using this
 exact⟨by simp[aop,rho,hx,h],rfl,rfl⟩
theorem ab9{ps:Array (Nat×Operand)}{fs:Array Field}{cs z:List D}{C:List (Nat×D)}(J:P.underlying t=some (.struct fs))(M:zeroP P t=z)(hq:(ps.toList.map fun q=>(q.1,(opd env q.2).core))=C)
 (hf:fillD (fun i=>(fs[i]?).map fun f=>(f.offset,P.cellsOf f.type)) z C=some cs):Ef P (.build t ps) env m nx ⟨tyOk P t=true/\fs.toList.all (fun f=>(P.info? f.type).isSome)=true,.agg cs,[],[],0⟩:=
 ⟨by simp only[aop,rho,J,M,hq,hf,Option.map_some],rfl,rfl⟩
theorem HS{ps:Array (Nat×Operand)}{fs:Array Field}{C:List (Nat×Nat)}{cs z:List D}{J:List (Nat×D)}(M:P.underlying t=some (.struct fs))(hp:(fs.toList.map fun(f:Field)=>(f.offset,P.cellsOf f.type))=C)(U:zeroP P t=z)(hq:(ps.toList.map fun q=>(q.1,(opd env q.2).core))=J)
 (hf:fillD (fun i=>C[i]?) z J=some cs):Ef P (.build t ps) env m nx ⟨tyOk P t=true/\fs.toList.all (fun f=>(P.info? f.type).isSome)=true,.agg cs,[],[],0⟩:=by
 refine ab9 M U hq ?_
 have:(fun(i:Nat)=>(fs[i]?).map fun(f:Field)=>(f.offset,P.cellsOf f.type))=fun(i:Nat)=>C[i]? :=by
  funext i;rw[<- hp];simp
 rw[this];exact hf
theorem Bv{ps:Array (Nat×Operand)}{l sz:Nat}{e:TypeId}{cs z:List D}{C:List (Nat×D)}(he:elemP P t=e)(J:P.cellsOf e=sz)(M:zeroP P e=z)(hq:(ps.toList.map fun q=>(q.1,(opd env q.2).core))=C)
 (hf:fillD (fun i=>some (i*sz,sz)) (replD l z) C=some cs):Ef P (.buildSlice t l ps) env m nx ⟨cs.all D.one=true/\l*sz<=2 ^ 24/\slT P t=true/\l<=maxLen,.rs nx 0 l,[(nx,some (.cells cs e))],[],1⟩:=
 ⟨by simp only[aop,rho,he,J,M,hq,hf,Option.map_some],rfl,rfl⟩
theorem QW{f:Fn}{fs cs:Array Operand}{J C:List D}(hf:fs.toList.map (fun x=>(opd env x).core)=J)(hc:cs.toList.map (fun x=>(opd env x).core)=C):Ef P (.makeFunc f fs cs) env m nx ⟨True,.fn f J C,[],[],0⟩:=⟨by simp only[aop,rho,hf,hc],rfl,rfl⟩
theorem aea:Ef P (.makeMap t none) env m nx ⟨True,.mp nx,[(nx,some (.map []))],[],1⟩:=⟨by simp only[aop],rfl,rfl⟩
theorem zH{e:TypeId}{z:List D}(hx:(opd env x).core=.s (.int .i64 n))(hy:(opd env y).core=.s (.int .i64 n'))(he:elemP P t=e)(C:zeroP P e=z):
 Ef P (.makeSlice t x y) env m nx ⟨0<=n/\n=n'/\n<=9223372036854775807/\P.bytesOf e*n<=281474976710656/\slT P t=true,.rs nx 0 n.toNat,[(nx,some (.cells (replD n.toNat z) e))],[],1⟩:=⟨by simp only[aop,rho,hx,hy,he,C],rfl,rfl⟩
theorem QY{src:TypeId}{C:IntKind}(hx:(opd env x).core=.s (.int k n))(J:P.underlying t=some (.int C)):Ef P (.convert src t x) env m nx ⟨tyOk P src=true,.s (.int C (C.wrap n)),[],[],0⟩:=⟨by simp only[aop,rho,hx,J],rfl,rfl⟩
theorem ab'{src e:TypeId}{b:ByteArray}(hx:(opd env x).core=.s (.string b))(C:P.underlying t=some (.slice e))(he:P.underlying e=some (.int .u8)):
 Ef P (.convert src t x) env m nx ⟨stT P src=true/\b.size<=maxLen,.sl (b.data.toList.map fun c=>.s (.int .u8 c.toNat)) b.size,[],[],0⟩:=⟨by simp only[aop,rho,hx,C,he],rfl,rfl⟩
def cA(b:ByteArray):List Int:=b.data.toList.map fun c=>(c.toNat:Int)
theorem X9(b:ByteArray):(cA b).length=b.size:=by unfold cA;rw[List.length_map];rfl
theorem NX{src e:TypeId}{b:ByteArray}(hx:(opd env x).core=.s (.string b))(C:P.underlying t=some (.slice e))(he:P.underlying e=some (.int .u8)):
 Ef P (.convert src t x) env m nx ⟨stT P src=true/\b.size<=maxLen,.sl ((cA b).map fun n=>.s (.int .u8 n)) (cA b).length,[],[],0⟩:=by
 have:=ab' (P:=P) (env:=env) (m:=m) (nx:=nx) (t:=t) (src:=src) hx C he;have h:(cA b).map (fun n=>D.s (.int .u8 n))=b.data.toList.map (fun c=>D.s (.int .u8 c.toNat)):=by rw[cA,List.map_map];rfl
 rw[X9,h];exact this
theorem xQ{es es':List D}{l:Nat}{lo hi:Option Operand}{a b:Int}{e:TypeId}{sz:Nat}(hx:(opd env x).core=.sl es l)(he:elemP P t=e)(C:P.cellsOf e=sz)
 (ha:bndD (lo.map fun x=>(opd env x).core) 0=some a) (hb:bndD (hi.map fun x=>(opd env x).core) l=some b) (hd:(es.drop (a.toNat*sz)).take ((b - a).toNat*sz)=es'):
 Ef P (.slice t x lo hi none) env m nx ⟨slT P t=true/\0<=a/\a<=b/\b<=l,.sl es' (b - a).toNat,[],[],0⟩:=by
 refine⟨?_,rfl,rfl⟩;show sliceD P m t (opd env x).core (lo.map fun x=>(opd env x).core) (hi.map fun x=>(opd env x).core) (Option.map (fun x=>(opd env x).core) none)=_;rw[hx];simp only[sliceD,Option.map_none,ha,hb,he,C,hd]
theorem NY{i off l:Nat}{cs:List D}{lo hi:Option Operand}{a b:Int}{e:TypeId}{sz:Nat}(hx:(opd env x).core=.rs i off l)(hm:m i=some (.cells cs e))(he:elemP P t=e)(C:P.cellsOf e=sz)
 (ha:bndD (lo.map fun x=>(opd env x).core) 0=some a) (hb:bndD (hi.map fun x=>(opd env x).core) l=some b):
 Ef P (.slice t x lo hi none) env m nx ⟨(slT P t=true/\sz=sz)/\0<=a/\a<=b/\b<=l,.rs i (off+a.toNat*sz) (b - a).toNat,[],[i],0⟩:=by
 refine⟨?_,rfl,rfl⟩;show sliceD P m t (opd env x).core (lo.map fun x=>(opd env x).core) (hi.map fun x=>(opd env x).core) (Option.map (fun x=>(opd env x).core) none)=_;rw[hx];simp only[sliceD,hm,Option.map_none,ha,hb,he,C]
theorem EJ{i:Nat}{es:List (Value×D)}{key:Value}{ok:Bool}{kt:TypeId}(hx:(opd env x).core=.mp i)(hm:m i=some (.map es))(hk:keyV (opd env y).core=some key)(ht:mkeyP P t=kt)(hg:gotD P t ok (lookD key es)=v):
 Ef P (.lookup t x y ok) env m nx ⟨mapT P t=true/\keyP P kt key=true/\es.all (fun e=>keyP P kt e.1)=true,v,[],[i],0⟩:=by
 refine⟨?_,rfl,rfl⟩;show lookupD P m t (opd env x).core (opd env y).core ok=_;simp only[lookupD,hk,hx,hm,ht,hg]
theorem M7{es:List (Value×D)}{key:Value}{ok:Bool}{kt:TypeId}(hx:(opd env x).core=.im es)(hk:keyV (opd env y).core=some key)(ht:mkeyP P t=kt)(hg:gotD P t ok (lookD key es)=v):
 Ef P (.lookup t x y ok) env m nx ⟨mapT P t=true/\keyP P kt key=true/\es.all (fun e=>keyP P kt e.1)=true,v,[],[],0⟩:=by
 refine⟨?_,rfl,rfl⟩;show lookupD P m t (opd env x).core (opd env y).core ok=_;simp only[lookupD,hk,hx,ht,hg]
theorem QZ{i:Nat}{es:List (Value×D)}{key:Value}{z:Operand}{kt:TypeId}(hx:(opd env x).core=.mp i)(hm:m i=some (.map es))(hk:keyV (opd env y).core=some key)(C:(opd env z).core=v)(ht:mkeyP P t=kt):
 Ef P (.mapUpdate t x y z) env m nx ⟨mapT P t=true/\keyP P kt key=true/\es.all (fun e=>keyP P kt e.1)=true,.tup [],[(i,some (.map (putD key v es)))],[i],0⟩:=by
 refine⟨?_,rfl,rfl⟩;show mapPutD P m t (opd env x).core (opd env y).core (opd env z).core=_;simp only[mapPutD,hk,hx,hm,ht,C]
end
theorem fu{α:Type}{f:α->D}:∀ {l:List α} {k:Nat} {x:α},l[k]? =some x->(l.map f).drop k=f x::(l.drop (k+1)).map f
 |[],k,x,h=>by simp at h
 |a::l,0,x,h=>by simp at h;subst h;rfl
 |a::l,k+1,x,h=>by simpa using fu (f:=f) (l:=l) (k:=k) (by simpa using h)
theorem M8{α:Type}{f:α->List D}{sz:Nat}(C:∀ x,(f x).length=sz):∀ {l:List α} {k:Nat} {x:α},l[k]? =some x->(l.flatMap f).drop (k*sz)=f x++(l.drop (k+1)).flatMap f
 |[],k,x,h=>by simp at h
 |a::l,0,x,h=>by simp at h;subst h;simp
 |a::l,k+1,x,h=>by
  have h1:(k+1)*sz=(f a).length+k*sz:=by rw[C];rw[Nat.add_mul];omega
  simp only[List.flatMap_cons,h1,List.drop_append,List.drop_succ_cons];rw[List.drop_of_length_le oG];have:(f a).length+k*sz - (f a).length=k*sz:=by omega
  rw[this];simpa using M8 C (l:=l) (k:=k) (by simpa using h)
theorem Ej{α:Type}{f:α->List D}{sz:Nat}(C:∀ x,(f x).length=sz):∀ (l:List α),(l.flatMap f).length=l.length*sz
 |[]=>by simp
 |a::l=>by simp only[List.flatMap_cons,List.length_append,C,Ej C l,List.length_cons,Nat.add_mul];omega
section
variable{P:Program}{env:Env}{m:Mem}{nx:Nat}{t e:TypeId}{x y:Operand}{k:IntKind}
theorem Q1{α:Type}{f:α->D}{l:List α}{i n:Nat}{z:α}(hx:(opd env x).core=.sl (l.map f) n)(hy:(opd env y).core=.s (.int k i))(he:elemP P t=e)(C:P.cellsOf e=1)(J:l[i]? =some z):
 Ef P (.indexAddr t x y) env m nx ⟨slT P t=true/\0<=(i:Int)/\(i:Int)<n/\((i:Int).toNat+1)*1<=(l.map f).length,.pt (f z::(l.drop (i+1)).map f),[],[],0⟩:=
 Js hx hy he C (by rw[Int.toNat_natCast,Nat.mul_one];exact fu J)
theorem Q2{α:Type}{f:α->D}{l:List α}{i:Nat}{z:α}(ht:slT P t=true)(C:l[i]? =some z):slT P t=true/\0<=(i:Int)/\(i:Int)<l.length/\((i:Int).toNat+1)*1<=(l.map f).length:=by
 have:=(List.getElem?_eq_some_iff.1 C).1;exact⟨ht,by omega,by omega,by simp;omega⟩
theorem rz{α:Type}{f:α->List D}{sz:Nat}{l:List α}{i n:Nat}{z:α}(hx:(opd env x).core=.sl (l.flatMap f) n)(hy:(opd env y).core=.s (.int k i))(he:elemP P t=e)(C:P.cellsOf e=sz)(hl:∀ x,(f x).length=sz)(J:l[i]? =some z):
 Ef P (.indexAddr t x y) env m nx ⟨slT P t=true/\0<=(i:Int)/\(i:Int)<n/\((i:Int).toNat+1)*sz<=(l.flatMap f).length,.pt (f z++(l.drop (i+1)).flatMap f),[],[],0⟩:=
 Js hx hy he C (by rw[Int.toNat_natCast];exact M8 hl J)
theorem rA{α:Type}{f:α->List D}{sz:Nat}{l:List α}{i:Nat}{z:α}(ht:slT P t=true)(hl:∀ x,(f x).length=sz)(C:l[i]? =some z):slT P t=true/\0<=(i:Int)/\(i:Int)<l.length/\((i:Int).toNat+1)*sz<=(l.flatMap f).length:=by
 have:=(List.getElem?_eq_some_iff.1 C).1;refine⟨ht,by omega,by omega,?_⟩;rw[Ej hl,Int.toNat_natCast];exact Nat.mul_le_mul_right _ this
theorem Q3{v:D}{cs:List D}(ht:tyOk P t=true)(hc:P.cellsOf t=1):tyOk P t=true/\P.cellsOf t<=(v::cs).length:=⟨ht,by rw[hc];simp⟩
theorem iJ{v:D}{cs cs':List D}{off:Nat}(ht:tyOk P t=true)(hc:P.cellsOf t=1)(hd:cs.drop off=v::cs'):tyOk P t=true/\off+P.cellsOf t<=cs.length:=by
 refine⟨ht,?_⟩;have:(cs.drop off).length=cs'.length+1:=by rw[hd];rfl
 rw[List.length_drop] at this;omega
theorem mg{n:Nat}{cs:List D}(ht:tyOk P t=true)(hc:P.cellsOf t=n)(hl:n<=cs.length):tyOk P t=true/\P.cellsOf t<=cs.length:=⟨ht,by rw[hc];exact hl⟩
theorem dV{n off:Nat}{cs:List D}(ht:tyOk P t=true)(hc:P.cellsOf t=n)(hl:off+n<=cs.length):tyOk P t=true/\off+P.cellsOf t<=cs.length:=⟨ht,by rw[hc];exact hl⟩
theorem qn{n:Nat}(hc:P.cellsOf t=n+1):0<P.cellsOf t:=by omega
theorem cP{n off:Nat}{cs vs:List D}(ht:tyOk P t=true)(hc:P.cellsOf t=n)(hv:vs.length=n/\off+n<=cs.length)(C:vs.all D.one=true):tyOk P t=true/\vs.length=P.cellsOf t/\off+P.cellsOf t<=cs.length/\vs.all D.one=true:=
 ⟨ht,by rw[hc];exact hv.1,by rw[hc];exact hv.2,C⟩
end
section
variable{P:Program}{K:D->St->Prop}{st:St}
theorem qf(h:K (.tup []) st):retQ P [] K .ret st:=h
theorem qg(h:K (.tup []) st):retQ P [] K .normal st:=h
theorem ay{t:Nat}{d:D}(hd:st.env t=d)(h:K d st):retQ P [.tmp t] K .ret st:=⟨trivial,by subst hd;exact h⟩
theorem j6{t u:Nat}{d e:D}(hd:st.env t=d)(he:st.env u=e)(h:K (.tup [d,e]) st):retQ P [.tmp t,.tmp u] K .ret st:=⟨trivial,trivial,by subst hd;subst he;exact h⟩
theorem mL{a i off n:Nat}{ty e:TypeId}{cs vs:List D}(ha:st.env a=.rp i off)(hm:st.mem i=some (.cells cs e))(hg:aggP P ty=true)(hc:P.cellsOf ty=n)(hv:(cs.drop off).take n=vs)(ht:tyOk P ty=true)(hl:off+n<=cs.length):
 ∃ p,resD P st (.cell a ty)=some (p,.agg vs)/\p:=⟨tyOk P ty=true/\off+n<=cs.length,by simp only[resD,ha,hm,takeV,hg,if_true,hc,hv],ht,hl⟩
theorem MN{a i off:Nat}{ty e:TypeId}{cs cs':List D}{v:D}(ha:st.env a=.rp i off)(hm:st.mem i=some (.cells cs e))(hg:aggP P ty=false)(hc:P.cellsOf ty=1)(hv:cs.drop off=v::cs')(ht:tyOk P ty=true):
 ∃ p,resD P st (.cell a ty)=some (p,v)/\p:=by
 have hl:off+1<=cs.length:=by
  have:(cs.drop off).length=cs'.length+1:=by rw[hv];rfl
  rw[List.length_drop] at this;omega
 exact⟨tyOk P ty=true/\off+1<=cs.length,by simp only[resD,ha,hm,takeV,hg,Bool.false_eq_true,if_false,hc,hv,List.headD_cons],ht,hl⟩
theorem mj{a:Nat}{ty:TypeId}{d:D}(hr:∃ p,resD P st (.cell a ty)=some (p,d)/\p)(h:K d st):retQ P [.cell a ty] K .ret st:=by
 obtain⟨p,h1,h2⟩:=hr;simp only[retQ,retL,h1];exact⟨h2,h⟩
theorem YI{a t:Nat}{ty:TypeId}{d e:D}(hr:∃ p,resD P st (.cell a ty)=some (p,d)/\p)(he:st.env t=e)(h:K (.tup [d,e]) st):retQ P [.cell a ty,.tmp t] K .ret st:=by
 obtain⟨p,h1,h2⟩:=hr;simp only[retQ,retL,h1];exact⟨h2,trivial,by subst he;exact h⟩
end
section
variable{P:Program}{Y:YSpec}{rf:Bool}{Q:Exit->St->Prop}{st:St}
theorem av{l:List (Nat×D)}{env:Env}{m:Mem}{nx:Nat}(h:lz l env):Ghost P ⟨env,m,nx⟩ ⟨az l,m,nx⟩:=.forget env _ m nx (oB h)
def J5(P:Program):List (Nat×List D×TypeId)->Mem->Prop
 |[],_=>True
 |(i,cs,e)::fs,m=>m i=some (.cells cs e)/\J5 P fs (fun j=>if j=i then none else(m j).map (Row.sub (fz0 i cs (P.cellsOf e))))
def si(P:Program):List (Nat×List D×TypeId)->D->D
 |[],d=>d
 |(i,cs,e)::fs,d=>si P fs (sub (fz0 i cs (P.cellsOf e)) d)
theorem M':∀ {fs:List (Nat×List D×TypeId)} {env:Env} {m:Mem} {nx:Nat},J5 P fs m->∃ m',Ghost P ⟨env,m,nx⟩ ⟨fun t=>si P fs (env t),m',nx⟩
 |[],env,m,nx,_=>⟨m,.refl _⟩
 |(i,cs,e)::fs,env,m,nx,⟨h1,h2⟩=>by
  obtain⟨m',h⟩:=M' (env:=fun t=>sub (fz0 i cs (P.cellsOf e)) (env t)) (nx:=nx) h2;exact⟨m',(Ghost.freeze env m nx i cs e h1).trans h⟩
theorem bw{env:Env}{m:Mem}{nx:Nat}(fs:List (Nat×List D×TypeId))(hf:J5 P fs m){l:List (Nat×D)}(hl:lz l fun t=>si P fs (env t)):Ghost P ⟨env,m,nx⟩ ⟨az l,fun _=>none,nx⟩:=by
 obtain⟨m',h⟩:=M' (env:=env) (nx:=nx) hf;exact h.trans ((Ghost.forget _ _ _ _ (oB hl)).trans (Ghost.drop _ _ _ _ fun _=>.inr rfl))
def mv(gm id:Nat)(next:St->Prop)(Q:Exit->St->Prop):Exit->St->Prop
 | .normal,s=>next s
 | .exit i,s=>if i=gm then next s else if i=id then Q .normal s else Q (.exit i) s
 |e,s=>Q e s
def uL(P:Program){α:Type}(S:α->St)(J:α->Prop)(μ:α->Nat)(x:α)(s:St):Prop:=∃ C,Ghost P s (S C)/\J C/\μ C<μ x
theorem aJ{α:Type}{S:α->St}{J:α->Prop}{μ:α->Nat}{x:α}{s:St}(C:α)(hg:Ghost P s (S C))(M:J C)(U:μ C<μ x):uL P S J μ x s:=⟨C,hg,M,U⟩
theorem E1[dG Y]{b:Code}{α:Type}(S:α->St)(J:α->Prop)(μ:α->Nat)(C:α)(hg:Ghost P st (S C))(U:J C)(h:∀ x,J x->AW P Y rf b (seqQ (uL P S J μ x) Q) (S x)){a:Code}(ha:∀ st,Q .normal st->Q .normal st):
 ∃ st',Ghost P st st'/\AW P Y rf (.loop b) Q st':=
 ⟨S C,hg,OT S J μ C rfl U fun x hx=>sZ b (fun e st' hq=>by
  cases e with
  |normal=>
   obtain⟨M,h1,h2,h3⟩:=hq;exact⟨S M,M,h1,rfl,h2,h3⟩
  |_=>exact hq) (h x hx)⟩
variable{id gm t i1 i2 i3 i4:Nat}{rc ri:Array Oper}{body rest:Code}{α:Type}
theorem Ix[dG Y]{ri:Array Oper}{next:St->Prop}{s:St}(h:AW P Y rf body (mv gm id (fun s=>AOps P Y ri false [] (fK next) ri.toList s []) Q) s):
 AW P Y rf (.seq (.block gm body) (.region i3 ri false)) (seqQ next (blockQ id Q)) s:=by
 refine sZ body (fun e s h=>?_) h;have hr:∀ s,AOps P Y ri false [] (fK next) ri.toList s []->∃ s',Ghost P s s'/\AW P Y rf (.region i3 ri false) (seqQ next (blockQ id Q)) s':=fun s h=>⟨s,.refl s,sR (rf:=rf) (id:=i3) (AOps.kQ h fun _ h=>h)⟩
 cases e with
 |normal=>exact hr s h
 |exit i=>
  simp only[mv] at h;simp only[blockQ];split at h
  .rename_i hi;rw[if_pos hi];exact hr s h
  .rename_i hi;rw[if_neg hi];simp only[seqQ,blockQ];exact h
 |_=>exact h
theorem dK[dG Y](S:α->St)(J:α->Prop)(μ:α->Nat)(C:α)(hg:Ghost P st (S C))(M:J C)
 (h:∀ x,J x->AOps P Y rc false [] (fK fun s=>∃ g,opd s.env (.tmp t)=.s (.bool g)/\(g=true->AW P Y rf body (mv gm id (fun s=>AOps P Y ri false [] (fK (uL P S J μ x)) ri.toList s []) Q) s)/\(g=false->Q .normal s)) rc.toList (S x) []):
 ∃ st',Ghost P st st'/\AW P Y rf (.block id (.loop (.seq (.region i1 rc false) (.seq (.cond (.tmp t) .skip (.exit id)) (.seq (.block gm body) (.region i3 ri false)))))) Q st':=by
 refine E1 (Q:=blockQ id Q) S J μ C hg M (fun x hx=>?_) (a:=.skip) fun _ h=>h;refine sR (rf:=rf) (id:=i1) (AOps.kQ (h x hx) fun s U=>?_);obtain⟨g,h1,h2,h3⟩:=U;refine⟨s,.refl s,bh h1 (fun X=>?_) fun vt=>?_⟩
 .exact bS (Ix (h2 X))
 .refine kF ?_;simp only[seqQ,blockQ,if_true];exact h3 vt
theorem b8[dG Y](S:α->St)(J:α->Prop)(μ:α->Nat)(C:α)(hg:Ghost P st (S C))(M:J C)
 (h:∀ x,J x->AOps P Y rc false [] (fK fun s=>∃ g,opd s.env (.tmp t)=.s (.bool g)/\(g=true->AW P Y rf body (mv gm id (fun s=>AOps P Y ri false [] (fK (uL P S J μ x)) ri.toList s []) Q) s)/\(g=false->Q .normal s)) rc.toList (S x) []):
 ∃ st',Ghost P st st'/\AW P Y rf (.block id (.loop (.seq (.seq (.region i1 rc false) (.cond (.tmp t) .skip (.exit id))) (.seq (.block gm body) (.region i3 ri false))))) Q st':=by
 refine E1 (Q:=blockQ id Q) S J μ C hg M (fun x hx=>?_) (a:=.skip) fun _ h=>h;refine aC (sR (rf:=rf) (id:=i1) (AOps.kQ (h x hx) fun s U=>?_));obtain⟨g,h1,h2,h3⟩:=U;refine⟨s,.refl s,bh h1 (fun X=>?_) fun vt=>?_⟩
 .exact bS (Ix (h2 X))
 .refine kF ?_;simp only[seqQ,blockQ,if_true];exact h3 vt
theorem N9[dG Y]{next:St->Prop}{s:St}(h:AW P Y rf body (mv gm id next Q) s):AW P Y rf (.block gm body) (seqQ next (blockQ id Q)) s:=by
 refine sZ body (fun e s h=>?_) h;cases e with
 |exit i=>
  simp only[mv] at h;simp only[blockQ];split at h
  .rename_i hi;rw[if_pos hi];exact h
  .rename_i hi;rw[if_neg hi];simp only[seqQ,blockQ];exact h
 |_=>exact h
theorem uA[dG Y](S:α->St)(J:α->Prop)(μ:α->Nat)(C:α)(hg:Ghost P st (S C))(M:J C)
 (h:∀ x,J x->AOps P Y rc false [] (fK fun s=>∃ g,opd s.env (.tmp t)=.s (.bool g)/\(g=true->AW P Y rf body (mv gm id (uL P S J μ x) Q) s)/\(g=false->Q .normal s)) rc.toList (S x) []):
 ∃ st',Ghost P st st'/\AW P Y rf (.block id (.loop (.seq (.seq (.region i1 rc false) (.cond (.tmp t) .skip (.exit id))) (.block gm body)))) Q st':=by
 refine E1 (Q:=blockQ id Q) S J μ C hg M (fun x hx=>?_) (a:=.skip) fun _ h=>h;refine aC (sR (rf:=rf) (id:=i1) (AOps.kQ (h x hx) fun s U=>?_));obtain⟨g,h1,h2,h3⟩:=U;refine⟨s,.refl s,bh h1 (fun X=>?_) fun vt=>?_⟩
 .exact bS (N9 (h2 X))
 .refine kF ?_;simp only[seqQ,blockQ,if_true];exact h3 vt
theorem cg{s:St}(h:Q .normal s):AW P Y rf .skip Q s:=h
theorem aV{s:St}(h:Q .ret s):AW P Y rf .ret Q s:=h
theorem cq{next:St->Prop}{s:St}(h:Q .ret s):mv gm id next Q .ret s:=h
theorem aT{K:St->Prop}{s:St}(h:Q .ret s):seqQ K Q .ret s:=h
theorem bx{s:St}(h:Q .ret s):blockQ id Q .ret s:=h
theorem Iy{s:St}(h:Q .ret s):scopeQ Q .ret s:=h
theorem qj{next:St->Prop}{s:St}(h:next s):mv gm id next Q (.exit gm) s:=by simp only[mv,if_true];exact h
theorem aef{i:Nat}{next:St->Prop}{s:St}(h2:i≠gm)(h1:i≠id)(h:Q (.exit i) s):mv gm id next Q (.exit i) s:=by simp only[mv,if_neg h2,if_neg h1];exact h
theorem mN[dG Y]{a:Code}(h:AW P Y rf a (blockQ id (seqQ (fun st=>AW P Y rf rest Q st) Q)) st):AW P Y rf (.seq (.block id a) rest) Q st:=S0 (fun st=>AW P Y rf rest Q st) (ja h) fun _ h=>h
theorem mn{s:St}(h:AW P Y rf rest Q s):AW P Y rf .skip (blockQ id (seqQ (fun st=>AW P Y rf rest Q st) Q)) s:=h
theorem Q4[dG Y]{a:Code}(h:AW P Y rf a (seqQ (fun st=>AW P Y rf rest Q st) Q) st):AW P Y rf (.seq a rest) Q st:=S0 _ h fun _ h=>h
theorem kK[dG Y]{r:Array Oper}{i:Nat}{J:St->Prop}(h:AOps P Y r false [] (fK J) r.toList st []):AW P Y rf (.region i r false) (seqQ J Q) st:=sR (rf:=rf) (id:=i) (AOps.kQ h fun _ h=>h)
theorem nK[dG Y]{r:Array Oper}{i:Nat}{J:St->Prop}(h:AOps P Y r false [] (fK J) r.toList st []):AW P Y rf (.region i r false) (blockQ id (seqQ J Q)) st:=sR (rf:=rf) (id:=i) (AOps.kQ h fun _ h=>h)
theorem aZ{J:St->Prop}(h:J st):AW P Y rf .skip (seqQ J Q) st:=h
theorem HY{J:St->Prop}(h:J st):AW P Y rf .skip (blockQ id (seqQ J Q)) st:=h
theorem bO[dG Y]{a:Code}(R:St->Prop)(h:∃ st',Ghost P st st'/\AW P Y rf a (seqQ R Q) st')(k:∀ s,R s->∃ s',Ghost P s s'/\AW P Y rf rest Q s'):∃ st',Ghost P st st'/\AW P Y rf (.seq a rest) Q st':=by
 obtain⟨st',hg,h⟩:=h;exact⟨st',hg,dE R h k⟩
end
def Real(d:D):Prop:=∃ F β w v,R F β w d v
theorem Real.sl{es:List D}{n:Nat}(h:Real (.sl es n)):n<=maxLen/\∀ d∈es,Real d:=by
 obtain⟨F,β,w,v,h⟩:=h;cases h with
 |sln=>simp[maxLen]
 |sl _ _ b o cap us hf hb ao n1 ej hc C=>
  refine⟨Nat.le_trans n1 ej,fun d hd=>?_⟩;obtain⟨k,hk⟩:=List.getElem?_of_mem hd;exact⟨F,β,w,_,C k d hk⟩
theorem Real.agg{cs:List D}(h:Real (.agg cs)):∀ d∈cs,Real d:=by
 obtain⟨F,β,w,v,h⟩:=h;obtain⟨vs,rfl,hl,C⟩:=h.agg_inv;intro d hd;obtain⟨k,hk⟩:=List.getElem?_of_mem hd;have:k<vs.length:=by rw[hl];exact(List.getElem?_eq_some_iff.1 hk).1
 exact⟨F,β,w,_,C k d vs[k] hk (by simp[this])⟩
theorem acb{F:Nat->Prop}{β:Pla}{w:World}{args:List D}{vs:Array Value}(h:Rs F β w args vs):∀ a∈args,Real a:=fun a ha=>by
 obtain⟨k,hk⟩:=List.getElem?_of_mem ha;have:k<vs.size:=by rw[h.1];exact(List.getElem?_eq_some_iff.1 hk).1
 exact⟨F,β,w,vs[k],h.2 k a _ hk (by simp[this])⟩
theorem mM{P:Program}{f:FuncId}{args:List D}{r:D}(he:enterOk P f=true)(ht:∀ a∈args,Tr a)(h:(∀ a∈args,Real a)->PCall P f args r):PCall P f args r:=
 ⟨he,ht,fun F w vs C hR=>(h (acb hR)).2.2 F w vs C hR⟩
section
variable{P:Program}{m:Mem}{rds:List Nat}
theorem cD{a:D}(h:Tr a):Sn P rds m a a:=fun _ _ _ _ _ hv=>h.CA hv
theorem FI{i off n:Nat}{cs es:List D}{e:TypeId}(hm:m i=some (.cells cs e))(hi:i∈rds)(J:(cs.drop off).take (n*P.cellsOf e)=es)(ht:∀ a∈es,Tr a):Sn P rds m (.rs i off n) (.sl es n):=fun F β w v hl hv=>by
 subst J;obtain⟨p,hp,hr,U⟩:=hl i hi _ hm;cases hv with
 |rsd _ _ _ _ h1 _=>rw[h1] at hp;cases hp;cases hr
 |rsn _ a h1=>
  rw[h1] at hp;cases hp;cases hr;simp only[List.drop_nil,List.take_nil];exact .sln a 0
 |rsz _ _ a b o len room sz h1=>
  simp only[Nat.zero_mul,List.take_zero];exact .sln a 0
 |rs _ _ _ cap b o len room sz h1 hn ej h2 h3=>
  rw[h1] at hp;cases hp
  have ao:b<w.heap.size:=by
   cases hr with
   |cells _ _ _ _ _ _ c hb _ _ _ _=>exact(Array.getElem?_eq_some_iff.1 hb).1
  obtain⟨C,hl,bX,_⟩:=hr.rd;obtain⟨us,M,u2⟩:=(C.drop off).take (n*P.cellsOf e);exact .sl _ n b (o+off) cap us (U b rfl) (fun k q hq=>by cases hq) ao hn ej M fun k d hk=>(ht d (List.mem_of_getElem? hk)).CA (u2 k d hk)
theorem aek{i off:Nat}{cs es:List D}{e:TypeId}(hm:m i=some (.cells cs e))(hi:i∈rds)(J:cs.drop off=es)(ht:∀ a∈es,Tr a):Sn P rds m (.rp i off) (.pt es):=fun F β w v hl hv=>by
 subst J;obtain⟨p,hp,hr,U⟩:=hl i hi _ hm;cases hv with
 |rpd _ _ _ h1 _=>rw[h1] at hp;cases hp;cases hr
 |rp _ _ b o len room sz h1=>
  rw[h1] at hp;cases hp
  have ao:b<w.heap.size:=by
   cases hr with
   |cells _ _ _ _ _ _ c hb _ _ _ _=>exact(Array.getElem?_eq_some_iff.1 hb).1
  obtain⟨C,hl,bX,_⟩:=hr.rd;obtain⟨us,M,u2⟩:=C.drop off;exact .pt _ b (o+off) us (U b rfl) (fun k q hq=>by cases hq) ao M fun k d hk=>(ht d (List.mem_of_getElem? hk)).CA (u2 k d hk)
variable{Y:YSpec}{rf:Bool}{ops:Array Oper}{dr:Bool}{cf:List (Nat×Nat)}{Q:Exit->St->Prop}{rest:List Oper}{env:Env}{nx:Nat}{tr:Tra}{t:Nat}{op:Op}{ty:TypeId}{pos:String}{after:Array Edge}
 {pre:Prop} {v:D} {rd:List Nat}
theorem adj{j:Nat}{b:Bool}{u:Nat}{row:Row}(hj:(ops[j]?).bind (·.dst)=some u)(hg:guardC (env u) b=some true)(he:Ef P op env m nx ⟨pre,v,[(nx,some row)],rd,1⟩)(ha:gJ env op.operands.toList)(hp:pre)
 (K:AOps P Y ops dr cf Q rest ⟨up env t v,up m nx (some row),nx+1⟩ (tr++[(rd,[nx])])):AOps P Y ops dr cf Q (⟨some t,op,ty,pos,after,some (j,b)⟩::rest) ⟨env,m,nx⟩ tr:=
 ael hj hg he ha hp (fun h=>by cases h) K
theorem Fo{j:Nat}{b:Bool}{u:Nat}{f:FuncId}{args args':List D}{r:D}{rds:List Nat}(h:PCall P f args' r)(C:r.scal=true)(hj:(ops[j]?).bind (·.dst)=some u)(hg:guardC (env u) b=some true)(hc:callD (rho env op) op=some (f,args))(J:Sns P rds m args args')(ha:gJ env op.operands.toList)
 (K:AOps P Y ops dr cf Q rest ⟨up env t r,m,nx⟩ (tr++[(rds,[])])):AOps P Y ops dr cf Q (⟨some t,op,ty,pos,after,some (j,b)⟩::rest) ⟨env,m,nx⟩ tr:=
 aaV hj hg hc ha (.inr (.inl ⟨args',rds,r,J,h,C,K⟩))
end
section
variable{P:Program}{Y:YSpec}{rf:Bool}{ops:Array Oper}{dr:Bool}{cf:List (Nat×Nat)}{Q:Exit->St->Prop}{rest:List Oper}{env:Env}{m:Mem}{nx:Nat}{tr:Tra}{t:Nat}{ty:TypeId}{pos:String}{after:Array Edge}
theorem ZD{j:Nat}{b0 C:Bool}{u:Nat}(hj:(ops[j]?).bind (·.dst)=some u)(hg:guardC (env u) b0=some C){c a b:Operand}{x:Bool}(hc:(opd env c).core=.s (.bool true))(ha:(opd env a).core=.s (.bool x))
 (h0:C=true->(opd env c).ask) (h1:C=true->(opd env a).ask) (K:AOps P Y ops dr cf Q rest ⟨up env t (.opt C (.s (.bool x))),m,nx⟩ (tr++[([],[])])):
 AOps P Y ops dr cf Q (⟨some t,.pick c a b,ty,pos,after,some (j,b0)⟩::rest) ⟨env,m,nx⟩ tr:=by
 have he:=zO (P:=P) (env:=env) (m:=m) (nx:=nx) (a:=a) (b:=b) hc;simp only[ha,D.bool?,Option.getD_some,if_true] at he;simp only[AOps,AOp];rw[hj];simp only[Option.bind_some];rw[hg,he.nc,he.ny,he.ok];exact⟨fun hc=>⟨by simp only[asks];exact h0 hc,fun _=>⟨h1 hc,rfl⟩,fun h=>by cases h⟩,K⟩
theorem ZE{j:Nat}{b0 C:Bool}{u:Nat}(hj:(ops[j]?).bind (·.dst)=some u)(hg:guardC (env u) b0=some C){c a b:Operand}{y:Bool}(hc:(opd env c).core=.s (.bool false))(hb:(opd env b).core=.s (.bool y))
 (h0:C=true->(opd env c).ask) (h1:C=true->(opd env b).ask) (K:AOps P Y ops dr cf Q rest ⟨up env t (.opt C (.s (.bool y))),m,nx⟩ (tr++[([],[])])):
 AOps P Y ops dr cf Q (⟨some t,.pick c a b,ty,pos,after,some (j,b0)⟩::rest) ⟨env,m,nx⟩ tr:=by
 have he:=zO (P:=P) (env:=env) (m:=m) (nx:=nx) (a:=a) (b:=b) hc;simp only[hb,D.bool?,Option.getD_some,Bool.false_eq_true,if_false] at he;simp only[AOps,AOp];rw[hj];simp only[Option.bind_some];rw[hg,he.nc,he.ny,he.ok];exact⟨fun hc=>⟨by simp only[asks];exact h0 hc,fun h=>oH,fun _=>⟨h1 hc,rfl⟩⟩,K⟩
variable{id:Nat}{st:St}
theorem Oc[dG Y]{i:Nat}{J:St->Prop}(hi:drawInfo ops=some cf)(h:AOps P Y ops true cf (fK J) ops.toList st []):AW P Y rf (.region i ops true) (blockQ id (seqQ J Q)) st:=z7 (rf:=rf) (id:=i) hi (AOps.kQ h fun _ h=>h)
theorem aaW{r:Option Row}{i:Nat}(h:m i=r):∀ j,up (fun _=>none) i r j=m j\/up (fun _=>none) i r j=none:=fun j=>by
 by_cases hj:j=i
 .subst hj;left;rw[up_same,h]
 .right;rw[up_ne _ _ hj]
theorem nL[dG Y]{i gm:Nat}{next:St->Prop}(hi:drawInfo ops=some cf)(h:AOps P Y ops true cf (fK next) ops.toList st []):AW P Y rf (.region i ops true) (mv gm id next Q) st:=z7 (rf:=rf) (id:=i) hi (AOps.kQ h fun _ h=>h)
theorem dz[dG Y]{i gm:Nat}{next:St->Prop}(h:AOps P Y ops false [] (fK next) ops.toList st []):AW P Y rf (.region i ops false) (mv gm id next Q) st:=sR (rf:=rf) (id:=i) (AOps.kQ h fun _ h=>h)
def aY:List (Nat×Row)->Mem
 |[],_=>none
 |(i,r)::l,j=>if j=i then some r else aY l j
def Cp:List (Nat×Row)->Mem->Prop
 |[],_=>True
 |(i,r)::l,m=>m i=some r/\Cp l m
theorem Iz:∀ {l:List (Nat×Row)} {m:Mem},Cp l m->∀ i,aY l i=m i\/aY l i=none
 |[],_,_,_=>.inr rfl
 |(k,r)::l,m,h,i=>by
  simp only[aY];by_cases hi:i=k
  .subst hi;rw[if_pos rfl];exact .inl h.1.symm
  .rw[if_neg hi];exact Iz h.2 i
theorem aE{l:List (Nat×D)}{ml:List (Nat×Row)}{m:Mem}{nx:Nat}(h:lz l env)(hm:Cp ml m):Ghost P ⟨env,m,nx⟩ ⟨az l,aY ml,nx⟩:=(Ghost.forget env _ m nx (oB h)).trans (.drop _ _ _ _ (Iz hm))
end
section
variable{P:Program}
theorem OCall.aej{f:FuncId}{args es:List D}{n:Nat}{t:TypeId}(h:OCall P f args es n t)(U:∀ d∈es,d.scal=true)(ht:Tr (.sl (es.take (n*P.cellsOf t)) n)):PCall P f args (.sl (es.take (n*P.cellsOf t)) n):=by
 refine⟨h.1,h.2.1,fun F w vs C hR=>(h.2.2 F w vs C hR).mono ?_⟩;rintro e w' ⟨v,p,h1,h2,h3,h4,h5,J⟩;refine⟨v,h1,?_,J⟩
 have b0:∀ {i q},up noRows 0 (some p) i=some q->i=0/\q=p:=fun {i q} hi=>by
  by_cases e:i=0
  .subst e;rw[up_same] at hi;cases hi;exact⟨rfl,rfl⟩
  .rw[up_ne _ _ e] at hi;cases hi
 have hm:MSim P F (up (fun _=>none) 0 (some (.cells es t))) (up noRows 0 (some p)) w':=by
  refine⟨fun i r hi=>?_,fun i j q X b hq M _ _=>(b0 hq).1.trans (b0 M).1.symm,fun i q b hq e=>?_,fun i q b hq e=>?_,fun b hb=>Nat.lt_of_lt_of_le (C b hb) J.1⟩
  .by_cases e:i=0
   .subst e;rw[up_same] at hi;cases hi;exact⟨p,up_same _ _ _,EL ⟨es,t,rfl,U⟩ h4⟩
   .rw[up_ne _ _ e] at hi;cases hi
  .rw[(b0 hq).2] at e;exact(h3 b e).2
  .rw[(b0 hq).2] at e;intro hb;have:=C b hb;have:=(h3 b e).1;omega
 have:=NR hm (up_same _ _ _) rfl h5;have e:fz0 0 es (P.cellsOf t) (.rs 0 0 n)=.sl (es.take (n*P.cellsOf t)) n:=by simp[fz0]
 rw[e] at this;exact ht.CA this
end
theorem ap{α:Type}{f:Nat->α}{k j:Nat}{v r:α}(h:j≠k)(hf:f j=r):up f k v j=r:=(up_ne f v h).trans hf
theorem m9{i off sz:Nat}{cs:List D}:sub (fz0 i cs sz) (.rp i off)=.pt (cs.drop off):=by simp[sub,sub1,fz0]
theorem yr{i off n sz:Nat}{cs:List D}:sub (fz0 i cs sz) (.rs i off n)=.sl ((cs.drop off).take (n*sz)) n:=by simp[sub,sub1,fz0]
theorem uz{i j off sz:Nat}{cs:List D}(h:j≠i):sub (fz0 i cs sz) (.rp j off)=.rp j off:=by simp[sub,sub1,fz0,h]
theorem zM{i j off n sz:Nat}{cs:List D}(h:j≠i):sub (fz0 i cs sz) (.rs j off n)=.rs j off n:=by simp[sub,sub1,fz0,h]
theorem NC{α:Type}{f:α->List D}{sz:Nat}(C:∀ x,(f x).length=sz):∀ (l:List α) (k:Nat),(l.flatMap f).take (k*sz)=(l.take k).flatMap f
 |[],k=>by simp
 |x::l,0=>by simp
 |x::l,k+1=>by
  rw[List.flatMap_cons,List.take_succ_cons,List.flatMap_cons, <- NC C l k,show(k+1)*sz=(f x).length+k*sz by rw[C x,Nat.add_mul];omega,List.take_length_add_append]
theorem acw{α:Type}{f:α->List D}{sz k:Nat}{l:List α}(C:∀ x,(f x).length=sz)(hk:k<=l.length):
 D.sl (((l.flatMap f).drop ((0:Int).toNat*sz)).take (((k:Int) - 0).toNat*sz)) ((k:Int) - 0).toNat=D.sl ((l.take k).flatMap f) (l.take k).length:=by
 have h1:((k:Int) - 0).toNat=k:=by omega
 have h2:(0:Int).toNat*sz=0:=by simp
 rw[h1,h2,List.drop_zero,NC C,List.length_take,Nat.min_eq_left hk]
section
variable{P:Program}{env:Env}{m:Mem}{nx:Nat}{x y z:Operand}{t:TypeId}{v:D}
theorem Oe{i:Nat}{es:List (Value×D)}{key:Value}{kt:TypeId}(hx:(opd env x).core=.mp i)(hm:m i=some (.map es))(hk:keyV (opd env y).core=some key)(C:(opd env z).core=v)(ht:mkeyP P t=kt):
 Ef P (.insert t x y z) env m nx ⟨mapT P t=true/\keyP P kt key=true/\es.all (fun e=>keyP P kt e.1)=true,.tup [],[(i,some (.map (putD key v es)))],[i],0⟩:=by
 refine⟨?_,rfl,rfl⟩;show mapPutD P m t (opd env x).core (opd env y).core (opd env z).core=_;simp only[mapPutD,hk,hx,hm,ht,C]
variable{n n':Int}{k:IntKind}{c:Bool}{p:TypeId}{n0:Nat}
theorem Ra(hx:(opd env x).core=.s (.int k n))(hy:(opd env y).core=.s (.int k n'))(hd:decide (n'<n)=c):Ef P (.binOp .gtr t x y p) env m nx ⟨k=k,.s (.bool c),[],[],0⟩:=by subst hd;exact Jn hx hy
theorem Q8(hx:(opd env x).core=.s (.int k n))(hy:(opd env y).core=.s (.int k n'))(hd:decide (n<n')=c):Ef P (.binOp .lss t x y p) env m nx ⟨k=k,.s (.bool c),[],[],0⟩:=by subst hd;exact Jl hx hy
theorem adl(hx:(opd env x).core=.s (.int k n))(hy:(opd env y).core=.s (.int k n'))(hd:decide (n<=n')=c):Ef P (.binOp .leq t x y p) env m nx ⟨k=k,.s (.bool c),[],[],0⟩:=by subst hd;exact Jm hx hy
theorem I0(hx:(opd env x).core=.s (.int k n))(hy:(opd env y).core=.s (.int k n'))(hd:(n==n')=c):Ef P (.binOp .eql t x y p) env m nx ⟨k=k,.s (.bool c),[],[],0⟩:=by subst hd;exact Jp hx hy
theorem Q9(hx:(opd env x).core=.s (.int k n))(hy:(opd env y).core=.s (.int k n'))(hd:(n !=n')=c):Ef P (.binOp .neq t x y p) env m nx ⟨k=k,.s (.bool c),[],[],0⟩:=by subst hd;exact Jq hx hy
theorem adm(hx:(opd env x).core=.s (.int k n))(hy:(opd env y).core=.s (.int k n')){r:Int}(hd:k.wrap (n.tdiv n')=r):Ef P (.binOp .quo t x y p) env m nx ⟨k=k/\n'≠0,.s (.int k r),[],[],0⟩:=by subst hd;exact ac' hx hy
theorem adQ(hx:(opd env x).core=.s (.int k n))(hy:(opd env y).core=.s (.int k n')){r:Int}(hd:n.tmod n'=r):Ef P (.binOp .rem t x y p) env m nx ⟨k=k/\n'≠0,.s (.int k r),[],[],0⟩:=by subst hd;exact ad7 hx hy
theorem adk(hx:(opd env x).core=.s (.int k n))(hy:(opd env y).core=.s (.int k n'))(hd:decide (n'<=n)=c):Ef P (.binOp .geq t x y p) env m nx ⟨k=k,.s (.bool c),[],[],0⟩:=by subst hd;exact Jo hx hy
theorem acj{j i l:Nat}{e:TypeId}{r:Row}(hx:(opd env x).core=.rp j 0)(hy:(opd env y).core=.s (.int k (i:Int)))(hm:m j=some r)(he:elemP P t=e)(C:P.cellsOf e=1)(hl:lenP P t=l):
 Ef P (.indexAddr t x y) env m nx ⟨arT P t=true/\i<l,.rp j i,[],[j],0⟩:=by
 have h:=ada (P:=P) (env:=env) (m:=m) (nx:=nx) (t:=t) hx hy hm he C hl;have h1:0+((i:Int)).toNat*1=i:=by simp
 have h2:(arT P t=true/\(0:Int)<=(i:Int)/\(i:Int)<l)=(arT P t=true/\i<l):=by
  apply propext;constructor
  .rintro⟨a,_,b⟩;exact⟨a,by omega⟩
  .rintro⟨a,b⟩;exact⟨a,by omega,by omega⟩
 rw[h1,h2] at h;exact h
theorem mw{l:List D}{n:Nat}(h:l.length=n):(l.drop 0).take n=l:=by rw[List.drop_zero,List.take_of_length_le oG]
theorem Rh{l:List D}{n:Nat}(h:l.length=n):l.take n=l:=List.take_of_length_le oG
theorem IA{z l:List D}(C:z.length=20)(hl:l.length=20):splice z 0 l=l:=by
 unfold splice;split
 .simp at hl
 .rw[List.take_zero,List.nil_append,List.drop_eq_nil_of_le oG,List.append_nil]
theorem adM{es:List D}(hx:(opd env x).core=.sl es 0):Ef P (.binOp .eql t x (.const (.slice none 0 0)) p) env m nx ⟨slT P t=true,.ub,[],[],0⟩:=⟨by simp only[aop,rho,hx,nilD,if_true],rfl,rfl⟩
theorem adN{es:List D}{l:Nat}(hx:(opd env x).core=.sl es l)(hl:l≠0):Ef P (.binOp .eql t x (.const (.slice none 0 0)) p) env m nx ⟨slT P t=true,.s (.bool false),[],[],0⟩:=⟨by simp only[aop,rho,hx,nilD,if_neg hl],rfl,rfl⟩
theorem j7{i off n sz:Nat}{cs es:List D}{e:TypeId}(C:P.cellsOf e=sz)(h:(cs.drop off).take (n*sz)=es):si P [(i,cs,e)] (.rs i off n)=.sl es n:=by subst C h;exact yr
theorem xL(h:env n0=.z):Ghost P ⟨env,m,nx⟩ ⟨az [(n0,.sl [] 0)],fun _=>none,nx+1⟩:=by
 have h1:=Ghost.nilrow (P:=P) env m nx n0 0 h;have h2:=bw (P:=P) (env:=up env n0 (.rs nx 0 0)) (m:=up m nx (some (.cells [] 0))) (nx:=nx+1) [(nx,[],0)] ⟨up_same _ _ _,trivial⟩ (l:=[(n0,.sl [] 0)]) ⟨(congrArg _ (up_same _ _ _)).trans (j7 (sz:=P.cellsOf 0) rfl oS),trivial⟩;exact h1.trans h2
theorem mE{rds:List Nat}:Sn P rds m .z (.sl [] 0):=fun F β w v _ hv=>by
 obtain⟨x,rfl⟩:=hv.z_inv;exact .sln x 0
theorem adI{rds:List Nat}{aS bs:List D}(h:Sns P rds m aS bs):Sn P rds m (.agg aS) (.agg bs):=fun F β w v hl hv=>by
 obtain⟨vs,rfl,hn,C⟩:=hv.agg_inv;obtain⟨h1,h2⟩:=sns_R hl h;refine .agg _ vs oG fun k d u hd J=>?_;have hk:k<aS.length:=by rw[h1];exact(List.getElem?_eq_some_iff.1 hd).1
 exact h2 k aS[k] d (by simp[hk]) hd u (C k aS[k] u (by simp[hk]) J)
theorem Oi{l:List (Nat×D)}{m':Mem}(h:lz l env)(hm:∀ i,m' i=m i\/m' i=none):Ghost P ⟨env,m,nx⟩ ⟨az l,m',nx⟩:=(Ghost.forget env _ m nx (oB h)).trans (.drop _ _ _ _ hm)
def KO:List (Nat×List (Value×D))->Mem->Prop
 |[],_=>True
 |(i,es)::fs,m=>m i=some (.map es)/\KO fs (fun j=>if j=i then none else(m j).map (Row.sub (fm0 i es)))
def Mf:List (Nat×List (Value×D))->D->D
 |[],d=>d
 |(i,es)::fs,d=>Mf fs (sub (fm0 i es) d)
theorem ND:∀ {fs:List (Nat×List (Value×D))} {env:Env} {m:Mem} {nx:Nat},KO fs m->∃ m',Ghost P ⟨env,m,nx⟩ ⟨fun t=>Mf fs (env t),m',nx⟩
 |[],env,m,nx,_=>⟨m,.refl _⟩
 |(i,es)::fs,env,m,nx,⟨h1,h2⟩=>by
  obtain⟨m',h⟩:=ND (env:=fun t=>sub (fm0 i es) (env t)) (nx:=nx) h2;exact⟨m',(Ghost.freezeM env m nx i es h1).trans h⟩
theorem abt(fs:List (Nat×List (Value×D)))(hf:KO fs m){l:List (Nat×D)}(hl:lz l fun t=>Mf fs (env t)):Ghost P ⟨env,m,nx⟩ ⟨az l,fun _=>none,nx⟩:=by
 obtain⟨m',h⟩:=ND (P:=P) (env:=env) (nx:=nx) hf;exact h.trans ((Ghost.forget _ _ _ _ (oB hl)).trans (Ghost.drop _ _ _ _ fun _=>.inr rfl))
end
end Go.Abs
namespace Go.Proofs.Tryz.K
open Go.Abs
theorem a1:aggP prog 1=false:=kr
theorem b1:prog.bytesOf 1=8:=kr
theorem b2:prog.bytesOf 2=8:=kr
theorem a2:aggP prog 2=false:=kr
theorem c3:prog.cellsOf 3=1:=kr
theorem b3:prog.bytesOf 3=8:=kr
theorem a3:aggP prog 3=false:=kr
theorem c4:prog.cellsOf 4=1:=kr
theorem b4:prog.bytesOf 4=1:=kr
theorem a4:aggP prog 4=false:=kr
theorem t4:tyOk prog 4=true:=kr
theorem c5:prog.cellsOf 5=1:=kr
theorem b5:prog.bytesOf 5=1:=kr
theorem a5:aggP prog 5=false:=kr
theorem b6:prog.bytesOf 6=1:=kr
theorem a6:aggP prog 6=false:=kr
theorem D5:elemP prog 15=275:=kr
theorem D6:elemP prog 16=278:=kr
theorem D4:elemP prog 17=287:=kr
theorem W7:elemP prog 22=5:=kr
theorem Vt:slT prog 22=true:=kr
theorem y6:prog.cellsOf 27=1:=kr
theorem WW:prog.bytesOf 27=24:=kr
theorem D3:elemP prog 27=3:=kr
theorem Db:slT prog 27=true:=kr
theorem GX:prog.cellsOf 34=1:=kr
theorem GW:aggP prog 34=false:=kr
theorem t34:tyOk prog 34=true:=kr
theorem XP:prog.cellsOf 52=1:=kr
theorem XO:prog.bytesOf 52=24:=kr
theorem LI:prog.cellsOf 74=2:=kr
theorem GV:prog.bytesOf 74=32:=kr
theorem VY:prog.cellsOf 133=10:=kr
theorem VX:aggP prog 133=true:=kr
theorem t133:tyOk prog 133=true:=kr
theorem lT:prog.cellsOf 158=2:=kr
theorem Wa:prog.bytesOf 158=32:=kr
theorem r6:aggP prog 158=true:=kr
theorem t158:tyOk prog 158=true:=kr
theorem KE:aggP prog 205=true:=kr
theorem KF:zeroP prog 205=[.s (.int .i64 0),.s (.int .i64 0),.s (.int .i64 0),.s (.int .i64 0),.s (.int .i64 0),.s (.int .i64 0)]:=kr
theorem rU:prog.cellsOf 231=20:=kr
theorem Vm:prog.bytesOf 231=160:=kr
theorem uY:aggP prog 231=true:=kr
theorem t231:tyOk prog 231=true:=kr
theorem Vl:zeroP prog 231=[.s (.int .u64 0),.s (.int .u64 0),.s (.int .u64 0),.s (.int .u64 0),.s (.int .u64 0),.s (.int .u64 0),.s (.int .u64 0),.s (.int .u64 0),.s (.int .u64 0),.s (.int .u64 0),.s (.int .u64 0),.s (.int .u64 0),.s (.int .u64 0),.s (.int .u64 0),.s (.int .u64 0),.s (.int .u64 0),.s (.int .u64 0),.s (.int .u64 0),.s (.int .u64 0),.s (.int .u64 0)]:=kr
theorem mixed:prog.follows .mixedOrders=true:=kr
noncomputable def bo(f:Func):Code:=(f.body).getD .skip
abbrev FO(n:FuncId)(f:Func)(c:Code):=qu prog n f c
theorem fo{n:FuncId}{f:Func}{c:Code}(h1:prog.funcs[n]? =some f:=by kernel_rfl)(h2:f.body=some c:=by kernel_rfl)(h3:j5 f.ntmps c=true:=by kernel_rfl)(h4:enterOk prog n=true:=by kernel_rfl):FO n f c:=⟨h1,h2,h3,h4⟩
noncomputable def UL:=bo Tryz.f3
theorem ok3:FO 3 Tryz.f3 UL:=fo
noncomputable def UM:=bo Tryz.f4
theorem ok4:FO 4 Tryz.f4 UM:=fo
noncomputable def UN:=bo Tryz.f5
theorem ok5:FO 5 Tryz.f5 UN:=fo
noncomputable def UO:=bo Tryz.f6
theorem ok6:FO 6 Tryz.f6 UO:=fo
noncomputable def UP:=bo Tryz.f7
theorem ok7:FO 7 Tryz.f7 UP:=fo
noncomputable def UQ:=bo Tryz.f8
theorem ok8:FO 8 Tryz.f8 UQ:=fo
noncomputable def UR:=bo Tryz.f9
theorem ok9:FO 9 Tryz.f9 UR:=fo
noncomputable def oL:=bo Tryz.f10
theorem Wv:FO 10 Tryz.f10 oL:=fo
theorem ank: Tryz.f10.results.toList=[.tmp 2]:=kr
theorem anj: Tryz.f10.ntmps=80:=kr
noncomputable def Rz:=bo Tryz.f11
theorem ano:FO 11 Tryz.f11 Rz:=fo
noncomputable def RA:=bo Tryz.f12
theorem anp:FO 12 Tryz.f12 RA:=fo
noncomputable def RB:=bo Tryz.f13
theorem anq:FO 13 Tryz.f13 RB:=fo
noncomputable def RC:=bo Tryz.f14
theorem anr:FO 14 Tryz.f14 RC:=fo
noncomputable def iu:=bo Tryz.f15
theorem VB:FO 15 Tryz.f15 iu:=fo
theorem ama: Tryz.f15.results.toList=[.tmp 2]:=kr
theorem al': Tryz.f15.ntmps=133:=kr
noncomputable def RD:=bo Tryz.f16
theorem ans:FO 16 Tryz.f16 RD:=fo
noncomputable def RE:=bo Tryz.f17
theorem ant:FO 17 Tryz.f17 RE:=fo
noncomputable def RF:=bo Tryz.f18
theorem anu:FO 18 Tryz.f18 RF:=fo
noncomputable def RG:=bo Tryz.f19
theorem anv:FO 19 Tryz.f19 RG:=fo
noncomputable def RH:=bo Tryz.f20
theorem anw:FO 20 Tryz.f20 RH:=fo
noncomputable def RI:=bo Tryz.f21
theorem anx:FO 21 Tryz.f21 RI:=fo
noncomputable def Cv:=bo Tryz.f22
theorem Wm:FO 22 Tryz.f22 Cv:=fo
theorem amV: Tryz.f22.results.toList=[.tmp 4]:=kr
theorem amU: Tryz.f22.ntmps=8:=kr
noncomputable def RJ:=bo Tryz.f23
theorem anz:FO 23 Tryz.f23 RJ:=fo
noncomputable def RK:=bo Tryz.f24
theorem anA:FO 24 Tryz.f24 RK:=fo
noncomputable def oO:=bo Tryz.f25
theorem KJ:FO 25 Tryz.f25 oO:=fo
theorem am1: Tryz.f25.results.toList=[.tmp 4]:=kr
theorem am0: Tryz.f25.ntmps=27:=kr
noncomputable def RL:=bo Tryz.f26
theorem anB:FO 26 Tryz.f26 RL:=fo
noncomputable def RM:=bo Tryz.f27
theorem anC:FO 27 Tryz.f27 RM:=fo
noncomputable def RN:=bo Tryz.f28
theorem anD:FO 28 Tryz.f28 RN:=fo
noncomputable def RO:=bo Tryz.f29
theorem anE:FO 29 Tryz.f29 RO:=fo
noncomputable def RP:=bo Tryz.f30
theorem anF:FO 30 Tryz.f30 RP:=fo
noncomputable def RQ:=bo Tryz.f31
theorem anG:FO 31 Tryz.f31 RQ:=fo
noncomputable def RS:=bo Tryz.f32
theorem anH:FO 32 Tryz.f32 RS:=fo
noncomputable def RT:=bo Tryz.f33
theorem anI:FO 33 Tryz.f33 RT:=fo
noncomputable def RU:=bo Tryz.f34
theorem anJ:FO 34 Tryz.f34 RU:=fo
noncomputable def RV:=bo Tryz.f35
theorem anK:FO 35 Tryz.f35 RV:=fo
noncomputable def RX:=bo Tryz.f36
theorem anL:FO 36 Tryz.f36 RX:=fo
noncomputable def RY:=bo Tryz.f37
theorem anM:FO 37 Tryz.f37 RY:=fo
noncomputable def RZ:=bo Tryz.f38
theorem anN:FO 38 Tryz.f38 RZ:=fo
noncomputable def fS:=bo Tryz.f39
theorem Kx:FO 39 Tryz.f39 fS:=fo
theorem VO: Tryz.f39.results.toList=[.tmp 2,.tmp 3]:=kr
theorem VN: Tryz.f39.ntmps=100:=kr
noncomputable def gT:=bo Tryz.f40
theorem Vd:FO 40 Tryz.f40 gT:=fo
theorem alr: Tryz.f40.results.toList=[.tmp 2,.tmp 3]:=kr
theorem alq: Tryz.f40.ntmps=85:=kr
noncomputable def eT:=bo Tryz.f41
theorem KC:FO 41 Tryz.f41 eT:=fo
theorem V0: Tryz.f41.results.toList=[.tmp 2,.tmp 3]:=kr
theorem VZ: Tryz.f41.ntmps=90:=kr
noncomputable def dR:=bo Tryz.f42
theorem Wq:FO 42 Tryz.f42 dR:=fo
theorem ana: Tryz.f42.results.toList=[.tmp 2,.tmp 3]:=kr
theorem am': Tryz.f42.ntmps=135:=kr
noncomputable def gU:=bo Tryz.f43
theorem KD:FO 43 Tryz.f43 gU:=fo
theorem V5: Tryz.f43.results.toList=[.cell 2 4,.cell 3 34]:=kr
theorem V4: Tryz.f43.ntmps=84:=kr
noncomputable def ff:=bo Tryz.f44
theorem Wt:FO 44 Tryz.f44 ff:=fo
theorem ane: Tryz.f44.results.toList=[.tmp 2,.tmp 3]:=kr
theorem anc: Tryz.f44.ntmps=83:=kr
noncomputable def oQ:=bo Tryz.f45
theorem KL:FO 45 Tryz.f45 oQ:=fo
theorem am8: Tryz.f45.results.toList=[.tmp 4]:=kr
theorem am7: Tryz.f45.ntmps=42:=kr
noncomputable def R1:=bo Tryz.f46
theorem anO:FO 46 Tryz.f46 R1:=fo
noncomputable def R2:=bo Tryz.f47
theorem anP:FO 47 Tryz.f47 R2:=fo
noncomputable def R3:=bo Tryz.f48
theorem anQ:FO 48 Tryz.f48 R3:=fo
noncomputable def R4:=bo Tryz.f49
theorem anR:FO 49 Tryz.f49 R4:=fo
noncomputable def R5:=bo Tryz.f50
theorem anS:FO 50 Tryz.f50 R5:=fo
noncomputable def gq:=bo Tryz.f51
theorem Kq:FO 51 Tryz.f51 gq:=fo
theorem Vz: Tryz.f51.results.toList=[.tmp 2,.tmp 3]:=kr
theorem Vy: Tryz.f51.ntmps=84:=kr
noncomputable def R6:=bo Tryz.f52
theorem anT:FO 52 Tryz.f52 R6:=fo
noncomputable def R7:=bo Tryz.f53
theorem anU:FO 53 Tryz.f53 R7:=fo
noncomputable def R8:=bo Tryz.f54
theorem anV:FO 54 Tryz.f54 R8:=fo
noncomputable def dF:=bo Tryz.f55
theorem We:FO 55 Tryz.f55 dF:=fo
theorem amI: Tryz.f55.results.toList=[.tmp 2]:=kr
theorem amH: Tryz.f55.ntmps=147:=kr
noncomputable def mY:=bo Tryz.f56
theorem V':FO 56 Tryz.f56 mY:=fo
theorem amD: Tryz.f56.results.toList=[.tmp 2]:=kr
theorem amC: Tryz.f56.ntmps=44:=kr
noncomputable def R9:=bo Tryz.f57
theorem anW:FO 57 Tryz.f57 R9:=fo
noncomputable def Sa:=bo Tryz.f58
theorem anX:FO 58 Tryz.f58 Sa:=fo
noncomputable def tu:=bo Tryz.f59
theorem KK:FO 59 Tryz.f59 tu:=fo
theorem am5: Tryz.f59.results.toList=[.tmp 4]:=kr
theorem am4: Tryz.f59.ntmps=18:=kr
noncomputable def dS:=bo Tryz.f60
theorem VG:FO 60 Tryz.f60 dS:=fo
theorem amk: Tryz.f60.results.toList=[.tmp 2]:=kr
theorem amj: Tryz.f60.ntmps=107:=kr
noncomputable def wg:=bo Tryz.f61
theorem VD:FO 61 Tryz.f61 wg:=fo
theorem amd: Tryz.f61.results.toList=[]:=kr
theorem amc: Tryz.f61.ntmps=24:=kr
noncomputable def Sb:=bo Tryz.f62
theorem anY:FO 62 Tryz.f62 Sb:=fo
noncomputable def Sc:=bo Tryz.f63
theorem anZ:FO 63 Tryz.f63 Sc:=fo
noncomputable def oR:=bo Tryz.f64
theorem KI:FO 64 Tryz.f64 oR:=fo
theorem amS: Tryz.f64.results.toList=[.tmp 4]:=kr
theorem amR: Tryz.f64.ntmps=26:=kr
noncomputable def Sd:=bo Tryz.f65
theorem an0:FO 65 Tryz.f65 Sd:=fo
noncomputable def Se:=bo Tryz.f66
theorem an1:FO 66 Tryz.f66 Se:=fo
noncomputable def Sf:=bo Tryz.f67
theorem an2:FO 67 Tryz.f67 Sf:=fo
noncomputable def Sg:=bo Tryz.f68
theorem an3:FO 68 Tryz.f68 Sg:=fo
noncomputable def Si:=bo Tryz.f69
theorem an4:FO 69 Tryz.f69 Si:=fo
noncomputable def Sj:=bo Tryz.f70
theorem an5:FO 70 Tryz.f70 Sj:=fo
noncomputable def Sk:=bo Tryz.f71
theorem an6:FO 71 Tryz.f71 Sk:=fo
noncomputable def Sl:=bo Tryz.f72
theorem an7:FO 72 Tryz.f72 Sl:=fo
noncomputable def Sm:=bo Tryz.f73
theorem an8:FO 73 Tryz.f73 Sm:=fo
noncomputable def So:=bo Tryz.f74
theorem an9:FO 74 Tryz.f74 So:=fo
noncomputable def iw:=bo Tryz.f75
theorem Wj:FO 75 Tryz.f75 iw:=fo
theorem amO: Tryz.f75.results.toList=[.tmp 4]:=kr
theorem amN: Tryz.f75.ntmps=64:=kr
noncomputable def rE:=bo Tryz.f76
theorem V9:FO 76 Tryz.f76 rE:=fo
theorem amA: Tryz.f76.results.toList=[.tmp 4]:=kr
theorem amz: Tryz.f76.ntmps=28:=kr
noncomputable def Sp:=bo Tryz.f77
theorem an':FO 77 Tryz.f77 Sp:=fo
noncomputable def Sq:=bo Tryz.f78
theorem aoa:FO 78 Tryz.f78 Sq:=fo
noncomputable def Sr:=bo Tryz.f79
theorem aob:FO 79 Tryz.f79 Sr:=fo
noncomputable def Ss:=bo Tryz.f80
theorem aoc:FO 80 Tryz.f80 Ss:=fo
noncomputable def Su:=bo Tryz.f81
theorem aod:FO 81 Tryz.f81 Su:=fo
noncomputable def Sv:=bo Tryz.f82
theorem aoe:FO 82 Tryz.f82 Sv:=fo
noncomputable def Sw:=bo Tryz.f83
theorem aof:FO 83 Tryz.f83 Sw:=fo
noncomputable def wi:=bo Tryz.f84
theorem Vw:FO 84 Tryz.f84 wi:=fo
theorem al0: Tryz.f84.results.toList=[]:=kr
theorem alZ: Tryz.f84.ntmps=28:=kr
noncomputable def rF:=bo Tryz.f85
theorem Vx:FO 85 Tryz.f85 rF:=fo
theorem al3: Tryz.f85.results.toList=[.tmp 2]:=kr
theorem al2: Tryz.f85.ntmps=19:=kr
noncomputable def Sx:=bo Tryz.f86
theorem aog:FO 86 Tryz.f86 Sx:=fo
noncomputable def yh:=bo Tryz.f87
theorem VM:FO 87 Tryz.f87 yh:=fo
theorem amn: Tryz.f87.results.toList=[.tmp 6]:=kr
theorem amm: Tryz.f87.ntmps=21:=kr
noncomputable def Sy:=bo Tryz.f88
theorem aoh:FO 88 Tryz.f88 Sy:=fo
noncomputable def Cw:=bo Tryz.f89
theorem Kg:FO 89 Tryz.f89 Cw:=fo
theorem Vi: Tryz.f89.results.toList=[]:=kr
theorem Vh: Tryz.f89.ntmps=11:=kr
noncomputable def iN:=bo Tryz.f90
theorem F5:FO 90 Tryz.f90 iN:=fo
theorem alz: Tryz.f90.results.toList=[.tmp 2]:=kr
theorem aly: Tryz.f90.ntmps=61:=kr
noncomputable def jJ:=bo Tryz.f91
theorem Wo:FO 91 Tryz.f91 jJ:=fo
theorem amY: Tryz.f91.results.toList=[.tmp 2]:=kr
theorem amX: Tryz.f91.ntmps=66:=kr
noncomputable def rG:=bo Tryz.f92
theorem V8:FO 92 Tryz.f92 rG:=fo
theorem amx: Tryz.f92.results.toList=[.tmp 4]:=kr
theorem amw: Tryz.f92.ntmps=47:=kr
noncomputable def tv:=bo Tryz.f93
theorem KA:FO 93 Tryz.f93 tv:=fo
theorem VS: Tryz.f93.results.toList=[]:=kr
theorem VR: Tryz.f93.ntmps=38:=kr
noncomputable def rH:=bo Tryz.f94
theorem VF:FO 94 Tryz.f94 rH:=fo
theorem amh: Tryz.f94.results.toList=[.tmp 4]:=kr
theorem amg: Tryz.f94.ntmps=20:=kr
noncomputable def uK:=bo Tryz.f95
theorem Vu:FO 95 Tryz.f95 uK:=fo
theorem alS: Tryz.f95.results.toList=[.tmp 2]:=kr
theorem alR: Tryz.f95.ntmps=12:=kr
noncomputable def Cx:=bo Tryz.f96
theorem Vo:FO 96 Tryz.f96 Cx:=fo
theorem alI: Tryz.f96.results.toList=[.tmp 6]:=kr
theorem alH: Tryz.f96.ntmps=15:=kr
noncomputable def mZ:=bo Tryz.f97
theorem Vn:FO 97 Tryz.f97 mZ:=fo
theorem alF: Tryz.f97.results.toList=[.tmp 2]:=kr
theorem alE: Tryz.f97.ntmps=44:=kr
noncomputable def Sz:=bo Tryz.f98
theorem aoi:FO 98 Tryz.f98 Sz:=fo
noncomputable def SA:=bo Tryz.f99
theorem aoj:FO 99 Tryz.f99 SA:=fo
noncomputable def Pf:=bo Tryz.f100
theorem ajj:FO 100 Tryz.f100 Pf:=fo
noncomputable def Pg:=bo Tryz.f101
theorem ajk:FO 101 Tryz.f101 Pg:=fo
noncomputable def Ph:=bo Tryz.f102
theorem ajl:FO 102 Tryz.f102 Ph:=fo
noncomputable def Pj:=bo Tryz.f103
theorem ajm:FO 103 Tryz.f103 Pj:=fo
noncomputable def Pk:=bo Tryz.f104
theorem ajn:FO 104 Tryz.f104 Pk:=fo
noncomputable def vW:=bo Tryz.f105
theorem UH:FO 105 Tryz.f105 vW:=fo
theorem ai': Tryz.f105.results.toList=[.tmp 2]:=kr
theorem ai9: Tryz.f105.ntmps=8:=kr
noncomputable def Pm:=bo Tryz.f106
theorem ajo:FO 106 Tryz.f106 Pm:=fo
noncomputable def Pn:=bo Tryz.f107
theorem ajp:FO 107 Tryz.f107 Pn:=fo
noncomputable def Po:=bo Tryz.f108
theorem ajq:FO 108 Tryz.f108 Po:=fo
noncomputable def Pp:=bo Tryz.f109
theorem ajr:FO 109 Tryz.f109 Pp:=fo
noncomputable def Pq:=bo Tryz.f110
theorem ajs:FO 110 Tryz.f110 Pq:=fo
noncomputable def Pr:=bo Tryz.f111
theorem ajt:FO 111 Tryz.f111 Pr:=fo
noncomputable def Ps:=bo Tryz.f112
theorem aju:FO 112 Tryz.f112 Ps:=fo
noncomputable def Pt:=bo Tryz.f113
theorem ajv:FO 113 Tryz.f113 Pt:=fo
noncomputable def Pu:=bo Tryz.f114
theorem ajw:FO 114 Tryz.f114 Pu:=fo
noncomputable def lx:=bo Tryz.f115
theorem TI:FO 115 Tryz.f115 lx:=fo
theorem age: Tryz.f115.results.toList=[.tmp 2]:=kr
theorem agd: Tryz.f115.ntmps=54:=kr
noncomputable def qY:=bo Tryz.f116
theorem TN:FO 116 Tryz.f116 qY:=fo
theorem agD: Tryz.f116.results.toList=[.tmp 4]:=kr
theorem agC: Tryz.f116.ntmps=21:=kr
noncomputable def Pv:=bo Tryz.f117
theorem ajx:FO 117 Tryz.f117 Pv:=fo
noncomputable def Pw:=bo Tryz.f118
theorem ajy:FO 118 Tryz.f118 Pw:=fo
noncomputable def BW:=bo Tryz.f119
theorem Ta:FO 119 Tryz.f119 BW:=fo
theorem aeK: Tryz.f119.results.toList=[.tmp 4]:=kr
theorem aeJ: Tryz.f119.ntmps=9:=kr
noncomputable def dn:=bo Tryz.f120
theorem Ux:FO 120 Tryz.f120 dn:=fo
theorem aiG: Tryz.f120.results.toList=[.tmp 2]:=kr
theorem aiF: Tryz.f120.ntmps=130:=kr
noncomputable def dp:=bo Tryz.f121
theorem UD:FO 121 Tryz.f121 dp:=fo
theorem aiX: Tryz.f121.results.toList=[.tmp 2]:=kr
theorem aiW: Tryz.f121.ntmps=133:=kr
noncomputable def qZ:=bo Tryz.f122
theorem JQ:FO 122 Tryz.f122 qZ:=fo
theorem ah5: Tryz.f122.results.toList=[.tmp 4]:=kr
theorem ah4: Tryz.f122.ntmps=21:=kr
noncomputable def eE:=bo Tryz.f123
theorem Uo:FO 123 Tryz.f123 eE:=fo
theorem aih: Tryz.f123.results.toList=[.tmp 2]:=kr
theorem aif: Tryz.f123.ntmps=53:=kr
noncomputable def s8:=bo Tryz.f124
theorem Ul:FO 124 Tryz.f124 s8:=fo
theorem ah8: Tryz.f124.results.toList=[.cell 4 158]:=kr
theorem ah7: Tryz.f124.ntmps=21:=kr
noncomputable def fH:=bo Tryz.f125
theorem Um:FO 125 Tryz.f125 fH:=fo
theorem aia: Tryz.f125.results.toList=[.tmp 2]:=kr
theorem ah': Tryz.f125.ntmps=30:=kr
noncomputable def mU:=bo Tryz.f126
theorem UC:FO 126 Tryz.f126 mU:=fo
theorem aiU: Tryz.f126.results.toList=[.cell 8 158]:=kr
theorem aiT: Tryz.f126.ntmps=58:=kr
noncomputable def nO:=bo Tryz.f127
theorem UB:FO 127 Tryz.f127 nO:=fo
theorem aiR: Tryz.f127.results.toList=[.cell 6 158]:=kr
theorem aiQ: Tryz.f127.ntmps=46:=kr
noncomputable def j0:=bo Tryz.f128
theorem Up:FO 128 Tryz.f128 j0:=fo
theorem aik: Tryz.f128.results.toList=[.tmp 2]:=kr
theorem aij: Tryz.f128.ntmps=32:=kr
noncomputable def Px:=bo Tryz.f129
theorem ajz:FO 129 Tryz.f129 Px:=fo
noncomputable def q0:=bo Tryz.f130
theorem JC:FO 130 Tryz.f130 q0:=fo
theorem aeH: Tryz.f130.results.toList=[.tmp 4]:=kr
theorem aeG: Tryz.f130.ntmps=19:=kr
noncomputable def Py:=bo Tryz.f131
theorem ajA:FO 131 Tryz.f131 Py:=fo
noncomputable def Pz:=bo Tryz.f132
theorem ajB:FO 132 Tryz.f132 Pz:=fo
noncomputable def PA:=bo Tryz.f133
theorem ajC:FO 133 Tryz.f133 PA:=fo
noncomputable def PB:=bo Tryz.f134
theorem ajD:FO 134 Tryz.f134 PB:=fo
noncomputable def PC:=bo Tryz.f135
theorem ajE:FO 135 Tryz.f135 PC:=fo
noncomputable def PE:=bo Tryz.f136
theorem ajF:FO 136 Tryz.f136 PE:=fo
noncomputable def kJ:=bo Tryz.f137
theorem UJ:FO 137 Tryz.f137 kJ:=fo
theorem ajf: Tryz.f137.results.toList=[.tmp 2]:=kr
theorem aje: Tryz.f137.ntmps=31:=kr
noncomputable def PF:=bo Tryz.f138
theorem ajG:FO 138 Tryz.f138 PF:=fo
noncomputable def fx:=bo Tryz.f139
theorem UF:FO 139 Tryz.f139 fx:=fo
theorem ai4: Tryz.f139.results.toList=[.tmp 2]:=kr
theorem ai3: Tryz.f139.ntmps=33:=kr
noncomputable def eF:=bo Tryz.f140
theorem UI:FO 140 Tryz.f140 eF:=fo
theorem ajc: Tryz.f140.results.toList=[.tmp 2]:=kr
theorem ajb: Tryz.f140.ntmps=52:=kr
noncomputable def PG:=bo Tryz.f141
theorem ajH:FO 141 Tryz.f141 PG:=fo
noncomputable def PH:=bo Tryz.f142
theorem ajI:FO 142 Tryz.f142 PH:=fo
noncomputable def PI:=bo Tryz.f143
theorem ajJ:FO 143 Tryz.f143 PI:=fo
noncomputable def PJ:=bo Tryz.f144
theorem ajK:FO 144 Tryz.f144 PJ:=fo
noncomputable def mi:=bo Tryz.f145
theorem Uk:FO 145 Tryz.f145 mi:=fo
theorem ah2: Tryz.f145.results.toList=[.tmp 2]:=kr
theorem ah1: Tryz.f145.ntmps=56:=kr
noncomputable def oE:=bo Tryz.f146
theorem Un:FO 146 Tryz.f146 oE:=fo
theorem aid: Tryz.f146.results.toList=[.tmp 2]:=kr
theorem aic: Tryz.f146.ntmps=19:=kr
noncomputable def PK:=bo Tryz.f147
theorem ajL:FO 147 Tryz.f147 PK:=fo
noncomputable def PN:=bo Tryz.f148
theorem ajM:FO 148 Tryz.f148 PN:=fo
noncomputable def q7:=bo Tryz.f149
theorem TO:FO 149 Tryz.f149 q7:=fo
theorem agG: Tryz.f149.results.toList=[]:=kr
theorem agF: Tryz.f149.ntmps=36:=kr
noncomputable def PO:=bo Tryz.f150
theorem ajN:FO 150 Tryz.f150 PO:=fo
noncomputable def eI:=bo Tryz.f151
theorem JD:FO 151 Tryz.f151 eI:=fo
theorem Tq: Tryz.f151.results.toList=[]:=kr
theorem Tp: Tryz.f151.ntmps=134:=kr
noncomputable def PQ:=bo Tryz.f152
theorem ajO:FO 152 Tryz.f152 PQ:=fo
noncomputable def dq:=bo Tryz.f153
theorem TG:FO 153 Tryz.f153 dq:=fo
theorem aga: Tryz.f153.results.toList=[.tmp 2]:=kr
theorem af': Tryz.f153.ntmps=190:=kr
noncomputable def fy:=bo Tryz.f154
theorem TF:FO 154 Tryz.f154 fy:=fo
theorem af7: Tryz.f154.results.toList=[.tmp 2]:=kr
theorem af6: Tryz.f154.ntmps=108:=kr
noncomputable def BX:=bo Tryz.f155
theorem Tu:FO 155 Tryz.f155 BX:=fo
theorem afs: Tryz.f155.results.toList=[.tmp 2]:=kr
theorem afr: Tryz.f155.ntmps=6:=kr
noncomputable def BY:=bo Tryz.f156
theorem Th:FO 156 Tryz.f156 BY:=fo
theorem ae2: Tryz.f156.results.toList=[.tmp 2]:=kr
theorem ae1: Tryz.f156.ntmps=4:=kr
noncomputable def PR:=bo Tryz.f157
theorem ajP:FO 157 Tryz.f157 PR:=fo
noncomputable def PS:=bo Tryz.f158
theorem ajQ:FO 158 Tryz.f158 PS:=fo
noncomputable def PT:=bo Tryz.f159
theorem ajR:FO 159 Tryz.f159 PT:=fo
noncomputable def PU:=bo Tryz.f160
theorem ajS:FO 160 Tryz.f160 PU:=fo
noncomputable def PV:=bo Tryz.f161
theorem ajT:FO 161 Tryz.f161 PV:=fo
noncomputable def PW:=bo Tryz.f162
theorem ajU:FO 162 Tryz.f162 PW:=fo
noncomputable def PX:=bo Tryz.f163
theorem ajV:FO 163 Tryz.f163 PX:=fo
noncomputable def PY:=bo Tryz.f164
theorem ajW:FO 164 Tryz.f164 PY:=fo
noncomputable def PZ:=bo Tryz.f165
theorem ajX:FO 165 Tryz.f165 PZ:=fo
noncomputable def xT:=bo Tryz.f166
theorem T6:FO 166 Tryz.f166 xT:=fo
theorem ahl: Tryz.f166.results.toList=[.tmp 0,.tmp 1]:=kr
theorem ahk: Tryz.f166.ntmps=32:=kr
noncomputable def P':=bo Tryz.f167
theorem ajY:FO 167 Tryz.f167 P':=fo
noncomputable def s9:=bo Tryz.f168
theorem TK:FO 168 Tryz.f168 s9:=fo
theorem agl: Tryz.f168.results.toList=[]:=kr
theorem agk: Tryz.f168.ntmps=37:=kr
noncomputable def io:=bo Tryz.f169
theorem Uq:FO 169 Tryz.f169 io:=fo
theorem ain: Tryz.f169.results.toList=[.tmp 2]:=kr
theorem aim: Tryz.f169.ntmps=147:=kr
noncomputable def BZ:=bo Tryz.f170
theorem Ua:FO 170 Tryz.f170 BZ:=fo
theorem ahB: Tryz.f170.results.toList=[.tmp 4]:=kr
theorem ahA: Tryz.f170.ntmps=12:=kr
noncomputable def cQ:=bo Tryz.f171
theorem JR:FO 171 Tryz.f171 cQ:=fo
theorem aiv: Tryz.f171.results.toList=[.tmp 6]:=kr
theorem aiu: Tryz.f171.ntmps=286:=kr
noncomputable def fI:=bo Tryz.f172
theorem Uw:FO 172 Tryz.f172 fI:=fo
theorem aiD: Tryz.f172.results.toList=[.tmp 4]:=kr
theorem aiC: Tryz.f172.ntmps=247:=kr
noncomputable def mV:=bo Tryz.f173
theorem UA:FO 173 Tryz.f173 mV:=fo
theorem aiO: Tryz.f173.results.toList=[.cell 4 158]:=kr
theorem aiN: Tryz.f173.ntmps=42:=kr
noncomputable def Qa:=bo Tryz.f174
theorem ajZ:FO 174 Tryz.f174 Qa:=fo
noncomputable def oF:=bo Tryz.f175
theorem UG:FO 175 Tryz.f175 oF:=fo
theorem ai7: Tryz.f175.results.toList=[.tmp 2]:=kr
theorem ai6: Tryz.f175.ntmps=19:=kr
noncomputable def xU:=bo Tryz.f176
theorem TJ:FO 176 Tryz.f176 xU:=fo
theorem agi: Tryz.f176.results.toList=[]:=kr
theorem agh: Tryz.f176.ntmps=19:=kr
noncomputable def Qb:=bo Tryz.f177
theorem aj0:FO 177 Tryz.f177 Qb:=fo
noncomputable def qc:=bo Tryz.f178
theorem To:FO 178 Tryz.f178 qc:=fo
theorem afm: Tryz.f178.results.toList=[]:=kr
theorem afl: Tryz.f178.ntmps=49:=kr
noncomputable def Qc:=bo Tryz.f179
theorem aj1:FO 179 Tryz.f179 Qc:=fo
noncomputable def Qd:=bo Tryz.f180
theorem aj2:FO 180 Tryz.f180 Qd:=fo
noncomputable def jd:=bo Tryz.f181
theorem T3:FO 181 Tryz.f181 jd:=fo
theorem ahc: Tryz.f181.results.toList=[.tmp 6,.tmp 7]:=kr
theorem ahb: Tryz.f181.ntmps=57:=kr
noncomputable def Qe:=bo Tryz.f182
theorem aj3:FO 182 Tryz.f182 Qe:=fo
noncomputable def fJ:=bo Tryz.f183
theorem T4:FO 183 Tryz.f183 fJ:=fo
theorem ahg: Tryz.f183.results.toList=[.tmp 6]:=kr
theorem ahf: Tryz.f183.ntmps=133:=kr
noncomputable def B0:=bo Tryz.f184
theorem Tn:FO 184 Tryz.f184 B0:=fo
theorem afj: Tryz.f184.results.toList=[.tmp 4]:=kr
theorem afi: Tryz.f184.ntmps=17:=kr
noncomputable def Qf:=bo Tryz.f185
theorem aj4:FO 185 Tryz.f185 Qf:=fo
noncomputable def Qg:=bo Tryz.f186
theorem aj5:FO 186 Tryz.f186 Qg:=fo
noncomputable def Qh:=bo Tryz.f187
theorem aj6:FO 187 Tryz.f187 Qh:=fo
noncomputable def Qi:=bo Tryz.f188
theorem aj7:FO 188 Tryz.f188 Qi:=fo
noncomputable def zU:=bo Tryz.f189
theorem T7:FO 189 Tryz.f189 zU:=fo
theorem aho: Tryz.f189.results.toList=[.cell 2 133]:=kr
theorem ahn: Tryz.f189.ntmps=13:=kr
noncomputable def B2:=bo Tryz.f190
theorem TA:FO 190 Tryz.f190 B2:=fo
theorem afS: Tryz.f190.results.toList=[.tmp 2]:=kr
theorem afR: Tryz.f190.ntmps=12:=kr
noncomputable def B3:=bo Tryz.f191
theorem TE:FO 191 Tryz.f191 B3:=fo
theorem af4: Tryz.f191.results.toList=[.tmp 4]:=kr
theorem af3: Tryz.f191.ntmps=9:=kr
noncomputable def B4:=bo Tryz.f192
theorem S9:FO 192 Tryz.f192 B4:=fo
theorem aey: Tryz.f192.results.toList=[.tmp 4]:=kr
theorem aex: Tryz.f192.ntmps=9:=kr
noncomputable def B5:=bo Tryz.f193
theorem TC:FO 193 Tryz.f193 B5:=fo
theorem afY: Tryz.f193.results.toList=[.tmp 2]:=kr
theorem afX: Tryz.f193.ntmps=6:=kr
noncomputable def B6:=bo Tryz.f194
theorem TB:FO 194 Tryz.f194 B6:=fo
theorem afV: Tryz.f194.results.toList=[.tmp 2]:=kr
theorem afU: Tryz.f194.ntmps=12:=kr
noncomputable def dZ:=bo Tryz.f195
theorem Uz:FO 195 Tryz.f195 dZ:=fo
theorem aiJ: Tryz.f195.results.toList=[.tmp 4]:=kr
theorem aiI: Tryz.f195.ntmps=252:=kr
noncomputable def ly:=bo Tryz.f196
theorem Uf:FO 196 Tryz.f196 ly:=fo
theorem ahT: Tryz.f196.results.toList=[.tmp 10]:=kr
theorem ahS: Tryz.f196.ntmps=156:=kr
noncomputable def dQ:=bo Tryz.f197
theorem Tx:FO 197 Tryz.f197 dQ:=fo
theorem afI: Tryz.f197.results.toList=[.tmp 2,.tmp 3]:=kr
theorem afH: Tryz.f197.ntmps=122:=kr
noncomputable def iq:=bo Tryz.f198
theorem Tw:FO 198 Tryz.f198 iq:=fo
theorem afy: Tryz.f198.results.toList=[.cell 4 231,.tmp 5]:=kr
theorem afx: Tryz.f198.ntmps=68:=kr
noncomputable def vX:=bo Tryz.f199
theorem Tv:FO 199 Tryz.f199 vX:=fo
theorem afv: Tryz.f199.results.toList=[.cell 6 231]:=kr
theorem afu: Tryz.f199.ntmps=15:=kr
noncomputable def B7:=bo Tryz.f200
theorem Td:FO 200 Tryz.f200 B7:=fo
theorem aeN: Tryz.f200.results.toList=[.tmp 4]:=kr
theorem aeM: Tryz.f200.ntmps=14:=kr
noncomputable def xV:=bo Tryz.f201
theorem Tt:FO 201 Tryz.f201 xV:=fo
theorem afp: Tryz.f201.results.toList=[.tmp 2]:=kr
theorem afo: Tryz.f201.ntmps=9:=kr
noncomputable def qd:=bo Tryz.f202
theorem Ti:FO 202 Tryz.f202 qd:=fo
theorem ae5: Tryz.f202.results.toList=[]:=kr
theorem ae4: Tryz.f202.ntmps=70:=kr
noncomputable def Qj:=bo Tryz.f203
theorem aj8:FO 203 Tryz.f203 Qj:=fo
noncomputable def Qk:=bo Tryz.f204
theorem aj9:FO 204 Tryz.f204 Qk:=fo
noncomputable def Ql:=bo Tryz.f205
theorem aj':FO 205 Tryz.f205 Ql:=fo
noncomputable def Qm:=bo Tryz.f206
theorem aka:FO 206 Tryz.f206 Qm:=fo
noncomputable def Qn:=bo Tryz.f207
theorem akb:FO 207 Tryz.f207 Qn:=fo
noncomputable def Qo:=bo Tryz.f208
theorem akc:FO 208 Tryz.f208 Qo:=fo
noncomputable def Qp:=bo Tryz.f209
theorem akd:FO 209 Tryz.f209 Qp:=fo
noncomputable def Qq:=bo Tryz.f210
theorem ake:FO 210 Tryz.f210 Qq:=fo
noncomputable def tc:=bo Tryz.f211
theorem T9:FO 211 Tryz.f211 tc:=fo
theorem ahv: Tryz.f211.results.toList=[.tmp 2]:=kr
theorem ahu: Tryz.f211.ntmps=23:=kr
noncomputable def B8:=bo Tryz.f212
theorem T8:FO 212 Tryz.f212 B8:=fo
theorem ahs: Tryz.f212.results.toList=[.tmp 6]:=kr
theorem ahr: Tryz.f212.ntmps=15:=kr
noncomputable def td:=bo Tryz.f213
theorem T':FO 213 Tryz.f213 td:=fo
theorem ahy: Tryz.f213.results.toList=[.tmp 2]:=kr
theorem ahx: Tryz.f213.ntmps=35:=kr
noncomputable def j3:=bo Tryz.f214
theorem Uh:FO 214 Tryz.f214 j3:=fo
theorem ahW: Tryz.f214.results.toList=[.tmp 4]:=kr
theorem ahV: Tryz.f214.ntmps=54:=kr
noncomputable def mW:=bo Tryz.f215
theorem Ub:FO 215 Tryz.f215 mW:=fo
theorem ahE: Tryz.f215.results.toList=[.tmp 6]:=kr
theorem ahD: Tryz.f215.ntmps=43:=kr
noncomputable def zV:=bo Tryz.f216
theorem Uc:FO 216 Tryz.f216 zV:=fo
theorem ahH: Tryz.f216.results.toList=[.tmp 6]:=kr
theorem ahG: Tryz.f216.ntmps=30:=kr
noncomputable def qe:=bo Tryz.f217
theorem JN:FO 217 Tryz.f217 qe:=fo
theorem ahK: Tryz.f217.results.toList=[.tmp 4]:=kr
theorem ahJ: Tryz.f217.ntmps=21:=kr
noncomputable def zW:=bo Tryz.f218
theorem Ud:FO 218 Tryz.f218 zW:=fo
theorem ahN: Tryz.f218.results.toList=[.tmp 6]:=kr
theorem ahM: Tryz.f218.ntmps=34:=kr
noncomputable def fR:=bo Tryz.f219
theorem Uj:FO 219 Tryz.f219 fR:=fo
theorem ahZ: Tryz.f219.results.toList=[.tmp 4]:=kr
theorem ahY: Tryz.f219.ntmps=93:=kr
noncomputable def jG:=bo Tryz.f220
theorem Ut:FO 220 Tryz.f220 jG:=fo
theorem ais: Tryz.f220.results.toList=[.tmp 4]:=kr
theorem air: Tryz.f220.ntmps=115:=kr
noncomputable def j4:=bo Tryz.f221
theorem Uu:FO 221 Tryz.f221 j4:=fo
theorem aiz: Tryz.f221.results.toList=[.tmp 4]:=kr
theorem aiy: Tryz.f221.ntmps=67:=kr
noncomputable def Qr:=bo Tryz.f222
theorem akf:FO 222 Tryz.f222 Qr:=fo
noncomputable def Qs:=bo Tryz.f223
theorem akg:FO 223 Tryz.f223 Qs:=fo
noncomputable def Qt:=bo Tryz.f224
theorem akh:FO 224 Tryz.f224 Qt:=fo
noncomputable def B9:=bo Tryz.f225
theorem T2:FO 225 Tryz.f225 B9:=fo
theorem ag': Tryz.f225.results.toList=[.tmp 6]:=kr
theorem ag9: Tryz.f225.ntmps=15:=kr
noncomputable def vY:=bo Tryz.f226
theorem T1:FO 226 Tryz.f226 vY:=fo
theorem ag7: Tryz.f226.results.toList=[.tmp 10]:=kr
theorem ag6: Tryz.f226.ntmps=36:=kr
noncomputable def B':=bo Tryz.f227
theorem Tm:FO 227 Tryz.f227 B':=fo
theorem afg: Tryz.f227.results.toList=[.tmp 2]:=kr
theorem aff: Tryz.f227.ntmps=6:=kr
noncomputable def Ca:=bo Tryz.f228
theorem S8:FO 228 Tryz.f228 Ca:=fo
theorem aes: Tryz.f228.results.toList=[.tmp 4]:=kr
theorem aer: Tryz.f228.ntmps=9:=kr
noncomputable def Cb:=bo Tryz.f229
theorem Ty:FO 229 Tryz.f229 Cb:=fo
theorem afM: Tryz.f229.results.toList=[.tmp 2]:=kr
theorem afL: Tryz.f229.ntmps=9:=kr
noncomputable def Cc:=bo Tryz.f230
theorem TD:FO 230 Tryz.f230 Cc:=fo
theorem af1: Tryz.f230.results.toList=[.tmp 3]:=kr
theorem af0: Tryz.f230.ntmps=11:=kr
noncomputable def q8:=bo Tryz.f231
theorem JA:FO 231 Tryz.f231 q8:=fo
theorem aev: Tryz.f231.results.toList=[.tmp 4]:=kr
theorem aeu: Tryz.f231.ntmps=19:=kr
noncomputable def Cd:=bo Tryz.f232
theorem Tz:FO 232 Tryz.f232 Cd:=fo
theorem afP: Tryz.f232.results.toList=[.tmp 2]:=kr
theorem afO: Tryz.f232.ntmps=17:=kr
noncomputable def Ce:=bo Tryz.f233
theorem JH:FO 233 Tryz.f233 Ce:=fo
theorem ago: Tryz.f233.results.toList=[.tmp 4]:=kr
theorem agn: Tryz.f233.ntmps=12:=kr
noncomputable def xW:=bo Tryz.f234
theorem JI:FO 234 Tryz.f234 xW:=fo
theorem agr: Tryz.f234.results.toList=[.tmp 4]:=kr
theorem agq: Tryz.f234.ntmps=19:=kr
noncomputable def nP:=bo Tryz.f235
theorem TS:FO 235 Tryz.f235 nP:=fo
theorem agN: Tryz.f235.results.toList=[.tmp 6]:=kr
theorem agM: Tryz.f235.ntmps=91:=kr
noncomputable def q9:=bo Tryz.f236
theorem JK:FO 236 Tryz.f236 q9:=fo
theorem ag1: Tryz.f236.results.toList=[.tmp 4]:=kr
theorem ag0: Tryz.f236.ntmps=50:=kr
noncomputable def Cf:=bo Tryz.f237
theorem TM:FO 237 Tryz.f237 Cf:=fo
theorem agx: Tryz.f237.results.toList=[.tmp 4]:=kr
theorem agw: Tryz.f237.ntmps=9:=kr
noncomputable def Cg:=bo Tryz.f238
theorem TY:FO 238 Tryz.f238 Cg:=fo
theorem agV: Tryz.f238.results.toList=[.tmp 2]:=kr
theorem agU: Tryz.f238.ntmps=53:=kr
noncomputable def zX:=bo Tryz.f239
theorem JJ:FO 239 Tryz.f239 zX:=fo
theorem agA: Tryz.f239.results.toList=[.tmp 6]:=kr
theorem agz: Tryz.f239.ntmps=26:=kr
noncomputable def zY:=bo Tryz.f240
theorem Ue:FO 240 Tryz.f240 zY:=fo
theorem ahQ: Tryz.f240.results.toList=[.tmp 4]:=kr
theorem ahP: Tryz.f240.ntmps=10:=kr
noncomputable def Qu:=bo Tryz.f241
theorem aki:FO 241 Tryz.f241 Qu:=fo
noncomputable def vZ:=bo Tryz.f242
theorem Te:FO 242 Tryz.f242 vZ:=fo
theorem aeQ: Tryz.f242.results.toList=[.cell 4 231]:=kr
theorem aeP: Tryz.f242.ntmps=17:=kr
noncomputable def rj:=bo Tryz.f243
theorem Tf:FO 243 Tryz.f243 rj:=fo
theorem aeT: Tryz.f243.results.toList=[.cell 4 231]:=kr
theorem aeS: Tryz.f243.ntmps=19:=kr
noncomputable def Ch:=bo Tryz.f244
theorem UE:FO 244 Tryz.f244 Ch:=fo
theorem ai1: Tryz.f244.results.toList=[.tmp 2]:=kr
theorem ai0: Tryz.f244.ntmps=5:=kr
noncomputable def uD:=bo Tryz.f245
theorem Tg:FO 245 Tryz.f245 uD:=fo
theorem aeW: Tryz.f245.results.toList=[.cell 4 231]:=kr
theorem aeV: Tryz.f245.ntmps=17:=kr
noncomputable def te:=bo Tryz.f246
theorem Tj:FO 246 Tryz.f246 te:=fo
theorem ae8: Tryz.f246.results.toList=[.tmp 4]:=kr
theorem ae7: Tryz.f246.ntmps=23:=kr
noncomputable def Ci:=bo Tryz.f247
theorem Tl:FO 247 Tryz.f247 Ci:=fo
theorem afd: Tryz.f247.results.toList=[.tmp 2]:=kr
theorem afc: Tryz.f247.ntmps=5:=kr
noncomputable def Qv:=bo Tryz.f248
theorem akj:FO 248 Tryz.f248 Qv:=fo
noncomputable def Qw:=bo Tryz.f249
theorem akk:FO 249 Tryz.f249 Qw:=fo
noncomputable def Qx:=bo Tryz.f250
theorem akl:FO 250 Tryz.f250 Qx:=fo
noncomputable def uE:=bo Tryz.f251
theorem T0:FO 251 Tryz.f251 uE:=fo
theorem ag4: Tryz.f251.results.toList=[.tmp 8,.tmp 9]:=kr
theorem ag3: Tryz.f251.ntmps=28:=kr
noncomputable def rk:=bo Tryz.f252
theorem Jz:FO 252 Tryz.f252 rk:=fo
theorem aep: Tryz.f252.results.toList=[.tmp 4]:=kr
theorem aeo: Tryz.f252.ntmps=19:=kr
noncomputable def mX:=bo Tryz.f253
theorem TR:FO 253 Tryz.f253 mX:=fo
theorem agK: Tryz.f253.results.toList=[.tmp 8]:=kr
theorem agJ: Tryz.f253.ntmps=41:=kr
noncomputable def Cj:=bo Tryz.f254
theorem S':FO 254 Tryz.f254 Cj:=fo
theorem aeE: Tryz.f254.results.toList=[.tmp 4]:=kr
theorem aeD: Tryz.f254.ntmps=9:=kr
noncomputable def Ck:=bo Tryz.f255
theorem TZ:FO 255 Tryz.f255 Ck:=fo
theorem agY: Tryz.f255.results.toList=[.tmp 3]:=kr
theorem agX: Tryz.f255.ntmps=9:=kr
noncomputable def Cl:=bo Tryz.f256
theorem TL:FO 256 Tryz.f256 Cl:=fo
theorem agu: Tryz.f256.results.toList=[.tmp 3]:=kr
theorem agt: Tryz.f256.ntmps=14:=kr
noncomputable def Cm:=bo Tryz.f257
theorem TX:FO 257 Tryz.f257 Cm:=fo
theorem agS: Tryz.f257.results.toList=[.tmp 2]:=kr
theorem agR: Tryz.f257.ntmps=32:=kr
noncomputable def v8:=bo Tryz.f258
theorem Tk:FO 258 Tryz.f258 v8:=fo
theorem afa: Tryz.f258.results.toList=[.tmp 4]:=kr
theorem ae': Tryz.f258.ntmps=13:=kr
noncomputable def Qy:=bo Tryz.f259
theorem akm:FO 259 Tryz.f259 Qy:=fo
noncomputable def ru:=bo Tryz.f260
theorem JB:FO 260 Tryz.f260 ru:=fo
theorem aeB: Tryz.f260.results.toList=[.tmp 4]:=kr
theorem aeA: Tryz.f260.ntmps=19:=kr
def ir(P:Program)(t:TypeId):Array Field:=match P.underlying t with|some (.struct fs)=>fs|_=> #[]
theorem u8:prog.underlying 8=some (.struct (ir prog 8)):=kr
theorem wq:mkeyP prog 127=3:=kr
theorem wu:mapT prog 127=true:=kr
theorem JP:melP prog 131=205:=kr
theorem u2:prog.underlying 2=some (.int .i64):=kr
theorem u3:prog.underlying 3=some (.int .i64):=kr
theorem u5:prog.underlying 5=some (.int .u8):=kr
end Go.Proofs.Tryz.K
namespace Go.Argus
open Go.Abs
abbrev I(n:Int):D:=.s (.int .i64 n)
abbrev U8(n:Int):D:=.s (.int .u8 n)
abbrev B(b:Bool):D:=.s (.bool b)
abbrev S(s:ByteArray):D:=.s (.string s)
abbrev ax(l:List Int):D:=.sl (l.map I) l.length
abbrev jX(l:List Int):D:=.sl (l.map U8) l.length
abbrev p7(l:List ByteArray):D:=.sl (l.map S) l.length
structure bt where
 op:Int
 to:Int
 a:Int
 b:Int
 n:Int
 args:List Int
structure jN where
 name:ByteArray
 to:Int
structure End where
 kind:Int
 a:Int
 b:Int
 to:Int
 fm:Int
 name:ByteArray
 ins:bt
 args:List Int
 aI:List jN
 cx:Int
structure bP where
 ins:List bt
 fin:End
structure aF where
 name:ByteArray
 iter:Bool
 args:Int
 result:Int
 ag:List Int
 aR:List Int
 signals:List ByteArray
 blocks:List bP
def bl(x:bt):List D:=[U8 x.op,I x.to,I x.a,I x.b,I x.n,ax x.args]
def lu(w:jN):List D:=[S w.name,I w.to]
def oA(l:List jN):D:=.sl (l.flatMap lu) l.length
def gp(l:List bt):D:=.sl (l.flatMap bl) l.length
def bc(x:End):List D:=[U8 x.kind,I x.a,I x.b,I x.to,I x.fm,S x.name,U8 x.ins.op,I x.ins.to,I x.ins.a,I x.ins.b,I x.ins.n,ax x.ins.args,ax x.args,oA x.aI,I x.cx]
def eC(b:bP):List D:=gp b.ins::bc b.fin
def eZ(l:List bP):D:=.sl (l.flatMap eC) l.length
def aG(f:aF):List D:=[S f.name,B f.iter,I f.args,U8 f.result,jX f.ag,jX f.aR,p7 f.signals,eZ f.blocks]
def bg(p q:D)(f:aF):List D:=[S f.name,B f.iter,I f.args,U8 f.result,jX f.ag,jX f.aR,p7 f.signals,eZ f.blocks,p,q]
@[simp] theorem aqp (p q : D) (x : aF) : (bg p q x).length = 10 := rfl
@[simp] theorem aqt (x : bt) : (bl x).length = 6 := rfl
@[simp] theorem aqq (x : jN) : (lu x).length = 2 := rfl
@[simp] theorem aqu (x : End) : (bc x).length = 15 := rfl
@[simp] theorem aqn (x : bP) : (eC x).length = 16 := rfl
@[simp] theorem aqr (x : aF) : (aG x).length = 8 := rfl
theorem Ew(x:bt):(bl x).length=6:=rfl
theorem Bs(x:jN):(lu x).length=2:=rfl
theorem zD(x:bP):(eC x).length=16:=rfl
def qv{α:Type}(p:α->Bool)(l:List α):Int:=match l.findIdx? p with
 |some i=>i
 |none=> -1
theorem Ex{α:Type}{p:α->Bool}{l:List α}{k:Nat}{x:α}(hx:l[k]? =some x)(hp:p x=true)(h:∀ j y,j<k->l[j]? =some y->p y=false):qv p l=k:=by
 have:l.findIdx? p=some k:=by
  rw[List.findIdx?_eq_some_iff_getElem];obtain⟨hk,he⟩:=List.getElem?_eq_some_iff.1 hx;refine⟨hk,by rw[he];exact hp,fun j hj=>?_⟩;have:=h j l[j] hj (by simp[show j<l.length by omega]);simp[this]
 simp[qv,this]
theorem Ey{α:Type}{p:α->Bool}{l:List α}(h:∀ (j:Nat) y,l[j]? =some y->p y=false):qv p l= -1:=by
 have:l.findIdx? p=none:=by
  rw[List.findIdx?_eq_none_iff];intro x hx;obtain⟨j,hj⟩:=List.getElem?_of_mem hx;exact h j x hj
 simp[qv,this]
theorem EM{α:Type}(p:α->Bool)(l:List α):decide (0<=qv p l)=l.any p:=by
 unfold qv;cases h:l.findIdx? p with
 |none=>
  rw[List.findIdx?_eq_none_iff] at h;have:l.any p=false:=List.any_eq_false.2 fun x hx=>by simp[h x hx]
  simp[this]
 |some i=>
  obtain⟨hi,hp,_⟩:=List.findIdx?_eq_some_iff_getElem.1 h;have:l.any p=true:=List.any_eq_true.2 ⟨l[i],by simp,hp⟩;simp[this]
theorem cB(l:List Int):Tr (ax l):=.sl (.map fun _=>.s _)
theorem pY(l:List Int):Tr (jX l):=.sl (.map fun _=>.s _)
theorem xR(l:List ByteArray):Tr (p7 l):=.sl (.map fun _=>.s _)
theorem p8(x:bt):∀ a∈bl x,Tr a:=.cons (.s _) (.cons (.s _) (.cons (.s _) (.cons (.s _) (.cons (.s _) (.cons (cB _) .nil)))))
theorem EQ(x:jN):∀ a∈lu x,Tr a:=.cons (.s _) (.cons (.s _) .nil)
theorem jD(l:List jN):Tr (oA l):=.sl (.flat EQ)
theorem acO(l:List bt):Tr (gp l):=.sl (.flat p8)
theorem kH(x:End):∀ a∈bc x,Tr a:=.cons (.s _) (.cons (.s _) (.cons (.s _) (.cons (.s _) (.cons (.s _) (.cons (.s _) (.cons (.s _) (.cons (.s _) (.cons (.s _) (.cons (.s _) (.cons (.s _) (.cons (cB _) (.cons (cB _) (.cons (jD _) (.cons (.s _) .nil))))))))))))))
theorem Ng(x:bP):∀ a∈eC x,Tr a:=.cons (acO _) (kH _)
theorem EC(l:List bP):Tr (eZ l):=.sl (.flat Ng)
theorem gn(x:aF):∀ a∈aG x,Tr a:=.cons (.s _) (.cons (.s _) (.cons (.s _) (.cons (.s _) (.cons (pY _) (.cons (pY _) (.cons (xR _) (.cons (EC _) .nil)))))))
theorem BG{p q:D}(hp:Tr p)(hq:Tr q)(x:aF):∀ a∈bg p q x,Tr a:=.cons (.s _) (.cons (.s _) (.cons (.s _) (.cons (.s _) (.cons (pY _) (.cons (pY _) (.cons (xR _) (.cons (EC _) (.cons hp (.cons hq .nil)))))))))
theorem mh{p q:D}(hp:Tr p)(hq:Tr q)(x:aF):Tr (.agg (bg p q x)):=.agg (BG hp hq x)
theorem uw{p q:D}{f:aF}(h1:p.one=true)(h2:q.one=true):(bg p q f).all D.one=true:=by
 simp only[bg,List.all_cons,List.all_nil,h1,h2];rfl
abbrev cz(n:Int):D:=.s (.int .u64 n)
abbrev gk(w:List Int):D:=.agg (w.map cz)
theorem kS(w:List Int):(w.map cz).all D.one=true:=List.all_eq_true.2 fun x hx=>by obtain⟨y,_,rfl⟩:=List.mem_map.1 hx;rfl
theorem H0{w:List Int}{i:Nat}{x:Int}:((w.map cz).set i (cz x)).all D.one=true:=by rw[<- List.map_set];exact kS _
theorem qw(w:List Int):Tr (gk w):=.agg (.map fun _=>.s _)
def pg(a b:Int):Int:=intBitsV .and .u64 a b
def zb(a b:Int):Int:=intBitsV .or .u64 a b
def wo(w:List Int)(m:Nat):List Int:=w.set (m / 64) (zb (w.getD (m / 64) 0) (IntKind.u64.wrap (1*2 ^ (min (m % 64) 64))))
def lR(w:List Int)(m:Nat):Bool:=pg ((w.getD (m / 64) 0).fdiv (2 ^ (min (m % 64) 64))) 1==1
def gu(w:List Int)(n:Int):List Int:=if 0<=n then wo w n.toNat else w
def eJ(w v:List Int):Nat->List Int
 |0=>w
 |k+1=>(eJ w v k).set k (pg ((eJ w v k).getD k 0) (v.getD k 0))
def gv(w v:List Int):List Int:=eJ w v 20
@[simp] theorem NE (w v : List Int) : ∀ k, (eJ w v k).length = w.length
 |0=>rfl
 |k+1=>by simp[eJ,NE w v k]
@[simp] theorem aqz (w : List Int) (m : Nat) : (wo w m).length = w.length := by simp [wo]
@[simp] theorem aqA (w : List Int) (n : Int) : (gu w n).length = w.length := by unfold gu; split <;> simp
@[simp] theorem Nj (w v : List Int) : (gv w v).length = w.length := NE w v 20
theorem wrap_i64{n:Nat}(h:n<2 ^ 62):IntKind.i64.wrap (n:Int)=n:=by
 unfold IntKind.wrap;simp[IntKind.signed,IntKind.bits];omega
theorem Tb{m:Nat}(h:m<2 ^ 62):IntKind.i64.wrap ((m:Int).tdiv 64)=((m / 64:Nat):Int):=by
 rw[show(m:Int).tdiv 64=((m / 64:Nat):Int) from by rw[Int.tdiv_eq_ediv_of_nonneg oG];omega];exact wrap_i64 oG
theorem Tc(m:Nat):(m:Int).tmod 64=((m % 64:Nat):Int):=by rw[Int.tmod_eq_emod_of_nonneg oG];omega
theorem ib(a b:Int):(a==b)=decide (a=b):=rfl
def cJ(n a b:Int):Bool:=decide (a<=n)&&decide (n<=b)
def sU(b:Int):Bool:=decide (b<33)||decide (126<b)
def kL(s:ByteArray):Bool:=cJ s.size 1 120&& !(cA s).any sU
def sV(b:Int):Bool:=(decide (b<97)||decide (122<b))&&(decide (b<48)||decide (57<b))
def isName(s:ByteArray):Bool:=cJ s.size 1 12&& !(cA s).any sV
def ma(C k:Int):Bool:=decide (k<1)||decide (C<k)
def dY(l:List Int)(C:Int):Bool:= !l.any (ma C)
def bZ(l:List Int)(r:Int):Int:=if 0<=r then l.getD r.toNat 0 else 0
theorem sX{l:List Int}{i:Nat}{x:Int}(h:l[i]? =some x):bZ l i=x:=by
 simp[bZ,List.getD_eq_getElem?_getD,h]
theorem HC{l:List Int}{r:Int}(h:¬ (0<=r/\r<l.length)):bZ l r=0:=by
 unfold bZ;split
 .rename_i h0;have:l.length<=r.toNat:=by omega
  simp[List.getD_eq_getElem?_getD,List.getElem?_eq_none this]
 .rfl
theorem jY{n a b:Int}:cJ n a b=true↔a<=n/\n<=b:=by simp[cJ]
theorem ZW{n a b:Int}:cJ n a b=false↔¬ (a<=n/\n<=b):=by
 rw[<- Bool.not_eq_true,jY]
def dO(l:List Int)(r:Int):Bool:=bZ l r==1||bZ l r==2
def fQ(l rs:List Int):Bool:=rs.all (dO l)
def lK(l aR:List Int)(r n:Int):Bool:=cJ n 0 (aR.length - 1)&&(bZ l r==bZ aR n)
def lC(l:List Int)(r want of:Int):Bool:=
 if want=0 then r==0 else if want=1 then bZ l r==1 else if want=2 then bZ l r==2 else if want=3 then dO l r
 else bZ l r !=0&&bZ l r==of
structure Shape where
 to:Int
 a:Int
 b:Int
 args:Int
 low:Int
 high:Int
def iZ(s:Shape):List D:=[I s.to,I s.a,I s.b,I s.args,I s.low,I s.high]
@[simp] theorem aqo (x : Shape) : (iZ x).length = 6 := rfl
theorem Np(x:Shape):∀ a∈iZ x,Tr a:=.cons (.s _) (.cons (.s _) (.cons (.s _) (.cons (.s _) (.cons (.s _) (.cons (.s _) .nil)))))
def p6(l:List Int)(x:bt)(s:Shape):Int:=if s.to=0\/s.to=1 then bZ l x.a else bZ l x.to
def pV(l:List Int)(x:bt)(s:Shape):Bool:=if s.args=5 then cJ x.args.length 1 6&&fQ l x.args else if s.args=6 then decide ((x.args.length:Int)=1)&&fQ l x.args else decide ((x.args.length:Int)=0)
def oD(l:List Int)(x:bt)(s:Shape):Bool:=
 lC l x.to s.to 0&&(lC l x.a s.a (p6 l x s)&&(lC l x.b s.b (p6 l x s)&&(pV l x s&&cJ x.n s.low s.high)))
def qy(l:List (Int×Shape)):List (Value×D):=l.map fun x=>(.int .u8 x.1,.agg (iZ x.2))
def xS:Shape:=⟨0,0,0,0,0,0⟩
def fc(l:List (Int×Shape))(op:Int):Option Shape:=(l.find? fun x=>x.1==op).map (·.2)
def nQ:List (Int×Shape):=[(1,⟨1,0,0,0, -1000000000,1000000000⟩),(2,⟨3,4,0,0,0,0⟩),(3,⟨1,1,1,0,0,0⟩),(4,⟨1,1,1,0,0,0⟩),(5,⟨1,3,4,0,0,0⟩),(6,⟨1,1,1,0,0,0⟩),(7,⟨1,1,1,0,0,0⟩),(8,⟨1,1,0,0,0,0⟩),
 (9,⟨2,0,0,0,0,1⟩),(10,⟨2,0,0,5,0,5⟩),(11,⟨3,2,0,0,0,5⟩),(12,⟨0,2,3,0,0,5⟩),(13,⟨1,2,0,0,0,0⟩),(14,⟨1,2,0,0,0,0⟩),(15,⟨0,1,0,0,0,0⟩)]
def jh:List (Int×Shape):=[(30,⟨1,1,1,0,0,0⟩),(31,⟨1,1,1,0,0,0⟩),(32,⟨1,1,1,0,0,0⟩),(33,⟨1,1,1,0,0,0⟩),(34,⟨1,1,1,0,0,0⟩),(35,⟨0,2,3,0,0,0⟩),(36,⟨3,2,0,0,0,0⟩),(37,⟨3,2,1,0,0,0⟩),(38,⟨0,2,1,6,0,0⟩)]
theorem Am(l:List (Int×Shape)):Tr (.im (qy l)):=.im fun x hx=>by
 obtain⟨y,_,rfl⟩:=List.mem_map.1 hx;exact .agg (Np _)
theorem Pe(op:Int):∀ l:List (Int×Shape),(lookD (.int .u8 op) (qy l)).map (·.2)=(fc l op).map fun s=>.agg (iZ s)
 |[]=>rfl
 |(o,s)::l=>by
  have ih:=Pe op l;unfold qy at ih ⊢;simp only[List.map_cons,lookD,veq,veq1,fc,List.find?_cons] at ih ⊢;by_cases h:o=op
  .subst h;simp
  .have hb:(o==op)=false:=by simpa using h
   simp only[hb,beq_self_eq_true,Bool.and_false,Bool.false_eq_true,if_false,Option.map_map] at ih ⊢;exact ih
theorem Rw{P:Program}{t:TypeId}{C:D}(M:zeroD P (melP P t)=C)(op:Int)(l:List (Int×Shape))(J:C=.agg (iZ xS)):gotD P t true (lookD (.int .u8 op) (qy l))=.tup [.agg (iZ ((fc l op).getD xS)),.s (.bool (fc l op).isSome)]:=by
 have h:=Pe op l;cases h1:lookD (.int .u8 op) (qy l) with
 |none=>
  rw[h1] at h;have:fc l op=none:=by simpa using h.symm
  simp only[gotD,this,M,J,Option.getD_none,Option.isSome_none,if_true]
 |some x=>
  rw[h1] at h;cases h2:fc l op with
  |none=>rw[h2] at h;simp at h
  |some s=>
   rw[h2] at h;obtain⟨i,d⟩:=x;simp only[Option.map_some,Option.some.injEq] at h;subst h;simp[gotD]
theorem O8{P:Program}{kt:TypeId}(hk:P.underlying kt=some (.int .u8))(l:List (Int×Shape)):(qy l).all (fun e=>keyP P kt e.1)=true:=by
 refine List.all_eq_true.2 fun x hx=>?_;obtain⟨y,_,rfl⟩:=List.mem_map.1 hx;simp[keyP,hk]
def aQ(a b:Int):Bool:=decide (a=b)
def jj(x:bt):Bool:=decide ((x.args.length:Int)=0)
def iM(f:aF)(b:Int)(x:bt)(phis:Bool)(ahead:Int):Bool:=
 if x.op=16 then aQ x.to 0&&(aQ (bZ f.ag x.a) 3&&(aQ x.b 0&&(aQ x.n 0&&jj x)))
 else if x.op=17 then aQ x.a 0&&(aQ x.b 0&&(jj x&&lK f.ag f.aR x.to x.n))
 else if x.op=18 then aQ x.to 0&&(aQ x.b 0&&(jj x&&lK f.ag f.aR x.a x.n))
 else if x.op=19 then phis&&(decide (0<b)&&(dO f.ag x.to&&(aQ x.a 0&&(aQ x.b 0&&(aQ x.n 0&&(aQ x.args.length ahead&& !x.args.any fun r=> !aQ (bZ f.ag r) (bZ f.ag x.to)))))))
 else(fc nQ x.op).isSome&&oD f.ag x ((fc nQ x.op).getD xS)
def Cs(x:bt):Bool:=decide (x.op=0)&&(decide (x.to=0)&&(decide (x.a=0)&&(decide (x.b=0)&&(decide (x.n=0)&&decide ((x.args.length:Int)=0)))))
def yq(x:End):Bool:=decide (x.kind=0)&&(decide (x.a=0)&&(decide (x.b=0)&&(decide (x.to=0)&&(decide (x.fm=0)&&(x.name.toList==[]&&(decide (x.cx= -1)&&(decide ((x.args.length:Int)=0)&&(decide ((x.aI.length:Int)=0)&&Cs x.ins))))))))
def bU(f:aF)(n:Int):Bool:=cJ n 0 (f.blocks.length - 1)
def nW(f:aF)(ws:List jN)(i:Nat)(w:jN):Bool:=isName w.name&&(bU f w.to&& !(ws.take i).any fun v=>v.name.toList==w.name.toList)
def Fu(f:aF)(ws:List jN):Bool:=ws.zipIdx.all fun x=>nW f ws x.2 x.1
theorem MA{f:aF}{ws:List jN}(h:∀ (i:Nat) w,ws[i]? =some w->nW f ws i w=true):Fu f ws=true:=by
 refine List.all_eq_true.2 fun x hx=>?_;obtain⟨h1,h2⟩:=List.mem_zipIdx' hx;exact h x.2 x.1 (by rw[h2];simp[h1])
theorem Hh{f:aF}{ws:List jN}{i:Nat}{w:jN}(C:ws[i]? =some w)(h:nW f ws i w=false):Fu f ws=false:=by
 refine Bool.eq_false_iff.2 fun ht=>?_;have hx:(w,i)∈ws.zipIdx:=List.mem_zipIdx_iff_getElem?.2 C;have:=List.all_eq_true.1 ht _ hx;rw[h] at this;cases this
def me(f:aF)(x:End):Bool:=Fu f x.aI&&(decide ((x.aI.length:Int)<=7)&&(decide (x.cx= -1)||bU f x.cx))
def dt:bt:=⟨0,0,0,0,0,[]⟩
def fC(f:aF)(x:End):Bool×End:=
 let r:End:={ x with kind:=0 }
 if x.kind=1 then(bU f x.to,{ r with to:=0 })
 else if x.kind=2 then(aQ (bZ f.ag x.a) 1&&(bU f x.to&&bU f x.fm),{ r with a:=0,to:=0,fm:=0 })
 else if x.kind=3 then(if f.result≠0/\f.iter=false then aQ (bZ f.ag x.a) f.result else aQ x.a (-1),{ r with a:=0 })
 else if x.kind=4 then(isName x.name,{ r with name:=.empty })
 else if x.kind=5 then((fc jh x.ins.op).isSome&&(oD f.ag x.ins ((fc jh x.ins.op).getD xS)&&(bU f x.to&&me f x)),{ r with ins:=dt,to:=0,aI:=[],cx:= -1 })
 else if x.kind=6 then(kL x.name&&(decide ((x.args.length:Int)<=6)&&(fQ f.ag x.args&&((aQ x.a (-1)||dO f.ag x.a)&&(bU f x.to&&me f x)))),{ r with name:=.empty,args:=[],a:=0,to:=0,aI:=[],cx:= -1 })
 else if x.kind=7 then(kL x.name&&(decide ((x.args.length:Int)<=6)&&(fQ f.ag x.args&&(aQ (bZ f.ag x.a) 3&&bU f x.to))),{ r with name:=.empty,args:=[],a:=0,to:=0 })
 else if x.kind=8 then(aQ (bZ f.ag x.a) 3&&(dO f.ag x.b&&(bU f x.to&&(bU f x.fm&&me f x))),{ r with a:=0,b:=0,to:=0,fm:=0,aI:=[],cx:= -1 })
 else if x.kind=9 then(f.iter&&(aQ (bZ f.ag x.a) f.result&&bU f x.to),{ r with a:=0,to:=0 })
 else(false,r)
def aN(l:List Int)(n:Int):Bool:=l.any fun c=>n==c
def jV(n:Int):Int:=1200+n
def mb:List Int:=[1,2,3,4,5,6,7,8,9,10,11,13,14,17,19]
def nJ:List Int:=[30,31,32,33,34,36,37]
def cZ(x:bt):Int:=if aN mb x.op then x.to else if aN nJ x.op then x.to else -1
def dJ(x:End):Int:=if x.kind=5 then cZ x.ins else if aN [6,7] x.kind then x.a else if x.kind=8 then x.b else -1
def nN:List Int:=[2,8,11,13,14,15,16,18,36]
def qX:List Int:=[3,4,5,6,7,12,30,31,32,33,34,35,37]
def cr(x:bt):List Int:=if aN nN x.op then [x.a] else if aN qX x.op then [x.a,x.b] else if x.op=10 then x.args else if x.op=38 then x.a::x.b::x.args else []
def cn(x:End):List Int:=if aN [2,8,9] x.kind then [x.a] else if x.kind=3 then(if x.a≠ -1 then [x.a] else []) else if x.kind=5 then cr x.ins else if aN [6,7] x.kind then x.args else []
def jg(f:aF)(x:End):Bool:=(fC f x).1&&yq (fC f x).2
end Go.Argus
namespace Go.Proofs.Tryz.K
open Go.Abs
def zf(i:Nat):Code->Option (Array Oper)
 | .region j o _=>bif Nat.beq i j then some o else none
 | .seq a b=>match zf i a with
  |some x=>some x
  |none=>zf i b
 | .cond _ a b=>match zf i a with
  |some x=>some x
  |none=>zf i b
 | .block _ b=>zf i b
 | .loop b=>zf i b
 | .scope b=>zf i b
 | .rangeFunc _ _ a b=>match zf i a with
  |some x=>some x
  |none=>zf i b
 |_=>none
def Z(b:Code)(i:Nat):Array Oper:=(zf i b).getD #[]
abbrev G(i:Nat)(o:Array Oper):Code:=.region i o false
abbrev G1(b:Code)(i:Nat):Code:=.region i (Z b i) false
abbrev G2(b:Code)(i:Nat):Code:=.region i (Z b i) true
abbrev S1(a b:Code):Code:=.seq a b
abbrev C1(n:Nat)(a b:Code):Code:=.cond (.tmp n) a b
abbrev B1(n:Nat)(a:Code):Code:=.block n a
abbrev X1(n:Nat):Code:=.exit n
abbrev K1:Code:=.skip
theorem alJ:Cx=(S1 (G1 Cx 0) (S1 (G1 Cx 1) .ret)):=kr
theorem afW:B6=(S1 (G1 B6 0) (S1 (G1 B6 1) .ret)):=kr
theorem aet:Ca=(S1 (G1 Ca 0) (S1 (G1 Ca 1) .ret)):=kr
theorem afQ:Cd=(S1 (G1 Cd 0) (S1 (G1 Cd 1) .ret)):=kr
theorem aeq:rk=(S1 (G1 rk 0) (S1 (S1 (G1 rk 1) (B1 0 (.loop (S1 (G1 rk 2) (S1 (C1 9 K1 (X1 0)) (S1 (B1 1 (S1 (G1 rk 3) (S1 (G1 rk 4) (C1 16 (S1 (G1 rk 5) .ret) K1)))) (G1 rk 6))))))) (S1 (G1 rk 7) .ret))):=kr
theorem ae9:te=(S1 (G1 te 0) (S1 (G1 te 1) (S1 (S1 (G1 te 2) (B1 0 (.rangeFunc (.tmp 8) #[9] (G1 te 3) (B1 1 (S1 (G1 te 4) (C1 12 (G1 te 5) K1)))))) (S1 (G1 te 6) .ret)))):=kr
theorem ae6:qd=(S1 (S1 (G1 qd 0) (C1 19 .ret K1)) (S1 (S1 (G1 qd 1) (C1 34 .ret K1)) (S1 (S1 (G1 qd 2) (B1 0 (.loop (S1 (G1 qd 3) (S1 (C1 39 K1 (X1 0)) (S1 (B1 1 (S1 (G1 qd 4) (S1 (G1 qd 5) (C1 46 .ret K1)))) (G1 qd 6))))))) (S1 (G1 qd 7) (C1 65 (G1 qd 8) K1))))):=kr
theorem ae3:BY=(S1 (G1 BY 0) (S1 (G1 BY 1) .ret)):=kr
theorem aew:q8=(S1 (G1 q8 0) (S1 (S1 (G1 q8 1) (B1 0 (.loop (S1 (G1 q8 2) (S1 (C1 9 K1 (X1 0)) (S1 (B1 1 (S1 (G1 q8 3) (S1 (G1 q8 4) (C1 16 (S1 (G1 q8 5) .ret) K1)))) (G1 q8 6))))))) (S1 (G1 q8 7) .ret))):=kr
theorem aez:B4=(S1 (G1 B4 0) (S1 (G1 B4 1) .ret)):=kr
theorem aeC:ru=(S1 (G1 ru 0) (S1 (S1 (G1 ru 1) (B1 0 (.loop (S1 (G1 ru 2) (S1 (C1 9 K1 (X1 0)) (S1 (B1 1 (S1 (G1 ru 3) (S1 (G1 ru 4) (C1 16 (S1 (G1 ru 5) .ret) K1)))) (G1 ru 6))))))) (S1 (G1 ru 7) .ret))):=kr
theorem aeF:Cj=(S1 (G1 Cj 0) (S1 (G1 Cj 1) .ret)):=kr
theorem aeI:q0=(S1 (G1 q0 0) (S1 (S1 (G1 q0 1) (B1 0 (.loop (S1 (G1 q0 2) (S1 (C1 9 K1 (X1 0)) (S1 (B1 1 (S1 (G1 q0 3) (S1 (G1 q0 4) (C1 16 (S1 (G1 q0 5) .ret) K1)))) (G1 q0 6))))))) (S1 (G1 q0 7) .ret))):=kr
theorem aeL:BW=(S1 (G1 BW 0) (S1 (G1 BW 1) .ret)):=kr
theorem afN:Cb=(S1 (G1 Cb 0) (S1 (G1 Cb 1) .ret)):=kr
theorem afT:B2=(S1 (G1 B2 0) (S1 (G1 B2 1) .ret)):=kr
theorem afZ:B5=(S1 (G1 B5 0) (S1 (G1 B5 1) .ret)):=kr
theorem af2:Cc=(S1 (G1 Cc 0) (S1 (G1 Cc 1) .ret)):=kr
theorem af5:B3=(S1 (G1 B3 0) (S1 (G1 B3 1) .ret)):=kr
theorem ahp:zU=(S1 (G1 zU 0) (S1 (G1 zU 1) (S1 (G1 zU 2) .ret))):=kr
theorem ahm:xT=(S1 (G1 xT 0) (S1 (G1 xT 1) (S1 (G1 xT 2) (S1 (G1 xT 3) .ret)))):=kr
theorem agp:Ce=(S1 (G1 Ce 0) (S1 (G1 Ce 1) .ret)):=kr
theorem ags:xW=(S1 (G1 xW 0) (S1 (S1 (G1 xW 1) (C1 12 (S1 (G1 xW 2) .ret) K1)) (S1 (G1 xW 3) .ret))):=kr
theorem agO:nP=(S1 (G1 nP 0) (S1 (G1 nP 1) (S1 (S1 (G1 nP 2) (C1 20 (G1 nP 3) K1)) (S1 (G1 nP 4) (S1 (S1 (G1 nP 5) (B1 0 (S1 (G1 nP 6) (C1 31 (G1 nP 7) (S1 (G1 nP 8) (C1 43 (G1 nP 9) K1)))))) (S1 (G1 nP 10) .ret)))))):=kr
theorem ag2:q9=(S1 (G1 q9 0) (S1 (S1 (G1 q9 1) (B1 0 (.loop (S1 (G1 q9 2) (S1 (C1 11 K1 (X1 0)) (S1 (B1 1 (S1 (G1 q9 3) (S1 (G1 q9 4) (C1 33 (S1 (G1 q9 5) .ret) K1)))) (G1 q9 6))))))) (S1 (G1 q9 7) .ret))):=kr
theorem agy:Cf=(S1 (G1 Cf 0) (S1 (G1 Cf 1) .ret)):=kr
theorem Nn:drawInfo (Z zX 1)=some [(10,11),(10,12),(10,13),(10,15),(10,16)]:=kr
theorem agB:zX=(S1 (G1 zX 0) (S1 (G2 zX 1) .ret)):=kr
theorem aab:drawInfo (Z zY 1)=some [(2,3)]:=kr
theorem ahR:zY=(S1 (G1 zY 0) (S1 (G2 zY 1) .ret)):=kr
theorem agL:mX=(S1 (G1 mX 0) (S1 (G1 mX 1) (S1 (S1 (G1 mX 2) (B1 0 (S1 (G1 mX 3) (C1 14 (S1 (G1 mX 4) .ret) (S1 (G1 mX 5) (C1 18 (S1 (G1 mX 6) .ret) (S1 (G1 mX 7) (C1 22 (S1 (G1 mX 8) .ret) (S1 (G1 mX 9) (C1 26 (S1 (G1 mX 10) .ret) K1)))))))))) (S1 (G1 mX 11) .ret)))):=kr
theorem agZ:Ck=(S1 (G1 Ck 0) (S1 (G1 Ck 1) .ret)):=kr
theorem agv:Cl=(S1 (G1 Cl 0) (S1 (G1 Cl 1) .ret)):=kr
theorem agW:Cg=(S1 (G1 Cg 0) (S1 (G1 Cg 1) .ret)):=kr
theorem agT:Cm=(S1 (G1 Cm 0) (S1 (G1 Cm 1) .ret)):=kr
theorem Zg:drawInfo (Z dZ 11)=some [(3,4),(3,5),(3,6)]:=kr
theorem Zh:drawInfo (Z dZ 28)=some [(7,8),(7,9),(7,10)]:=kr
theorem aiK:dZ=(S1 (G1 dZ 0) (S1 (G1 dZ 1) (S1 (G1 dZ 2) (S1 (S1 (G1 dZ 3) (B1 0 (S1 (G1 dZ 4) (C1 13 (G1 dZ 5) (S1 (G1 dZ 6) (C1 20 (G1 dZ 7) (S1 (G1 dZ 8) (C1 42 (S1 (G1 dZ 9) (S1 (G1 dZ 10) (C1 57 (G2 dZ 11) K1))) (S1 (G1 dZ 12) (C1 66 (G1 dZ 13) (S1 (G1 dZ 14) (C1 72 (S1 (G1 dZ 15) (S1 (G1 dZ 16) (G1 dZ 17))) (S1 (G1 dZ 18) (C1 107 (S1 (G1 dZ 19) (G1 dZ 20)) (S1 (G1 dZ 21) (C1 153 (S1 (G1 dZ 22) (G1 dZ 23)) (S1 (G1 dZ 24) (C1 187 (S1 (G1 dZ 25) (G1 dZ 26)) (S1 (G1 dZ 27) (C1 224 (G2 dZ 28) K1)))))))))))))))))))) (S1 (G1 dZ 29) .ret))))):=kr
theorem ahU:ly=(S1 (G1 ly 0) (S1 (S1 (G1 ly 1) (B1 0 (S1 (G1 ly 2) (C1 17 (S1 (G1 ly 3) .ret) (S1 (G1 ly 4) (C1 45 (S1 (G1 ly 5) .ret) (S1 (G1 ly 6) (C1 69 (S1 (G1 ly 7) .ret) (S1 (G1 ly 8) (C1 93 (S1 (G1 ly 9) (S1 (G1 ly 10) (S1 (G1 ly 11) .ret))) K1)))))))))) (S1 (G1 ly 12) (S1 (G1 ly 13) .ret)))):=kr
theorem Y3:drawInfo (Z dq 10)=some []:=kr
theorem Y4:drawInfo (Z dq 32)=some []:=kr
theorem agb:dq=(S1 (G1 dq 0) (S1 (G1 dq 1) (S1 (G1 dq 2) (S1 (S1 (G1 dq 3) (C1 71 (S1 (G1 dq 4) .ret) K1)) (S1 (S1 (G1 dq 5) (C1 101 (S1 (G1 dq 6) .ret) K1)) (S1 (S1 (G1 dq 7) (B1 0 (.loop (S1 (S1 (G1 dq 8) (C1 106 K1 (X1 0))) (S1 (B1 1 (S1 (G2 dq 10) (C1 120 (S1 (G1 dq 11) .ret) K1))) (G1 dq 9)))))) (S1 (G1 dq 12) (S1 (S1 (G1 dq 13) (B1 2 (.loop (S1 (G1 dq 14) (S1 (C1 126 K1 (X1 2)) (S1 (B1 3 (S1 (G1 dq 15) (S1 (S1 (G1 dq 16) (C1 139 (S1 (G1 dq 17) .ret) K1)) (S1 (G1 dq 18) (C1 143 (S1 (S1 (G1 dq 19) (C1 148 (S1 (G1 dq 20) .ret) K1)) (G1 dq 21)) K1))))) (G1 dq 22))))))) (S1 (G1 dq 23) (S1 (S1 (G1 dq 24) (B1 4 (.loop (S1 (G1 dq 25) (S1 (C1 160 K1 (X1 4)) (S1 (B1 5 (S1 (G1 dq 26) (S1 (G1 dq 27) (S1 (G1 dq 28) (B1 6 (.loop (S1 (G1 dq 29) (S1 (C1 168 K1 (X1 6)) (S1 (B1 7 (S1 (G1 dq 30) (S1 (G1 dq 31) (S1 (G2 dq 32) (C1 187 (S1 (G1 dq 33) .ret) K1))))) (G1 dq 34)))))))))) (G1 dq 35))))))) (S1 (G1 dq 36) .ret))))))))))):=kr
theorem alG:mZ=(S1 (G1 mZ 0) (S1 (G1 mZ 1) (S1 (S1 (G1 mZ 2) (B1 0 (.loop (S1 (G1 mZ 3) (S1 (C1 18 K1 (X1 0)) (S1 (B1 1 (S1 (G1 mZ 4) (S1 (G1 mZ 5) (B1 2 (.loop (S1 (G1 mZ 6) (S1 (C1 28 K1 (X1 2)) (S1 (B1 3 (S1 (G1 mZ 7) (G1 mZ 8))) (G1 mZ 9))))))))) (G1 mZ 10))))))) (S1 (G1 mZ 11) .ret)))):=kr
theorem aft:BX=(S1 (G1 BX 0) (S1 (G1 BX 1) .ret)):=kr
theorem ZP:drawInfo (Z vX 2)=some [(0,2)]:=kr
theorem afw:vX=(S1 (G1 vX 0) (S1 (S1 (G1 vX 1) (C1 9 (S1 (G2 vX 2) .ret) K1)) (S1 (G1 vX 3) .ret))):=kr
theorem Ht:drawInfo (Z iq 10)=some [(6,9)]:=kr
theorem afz:iq=(S1 (G1 iq 0) (S1 (G1 iq 1) (S1 (S1 (G1 iq 2) (B1 0 (.loop (S1 (G1 iq 3) (S1 (C1 17 K1 (X1 0)) (S1 (B1 1 (S1 (G1 iq 4) (S1 (S1 (G1 iq 5) (B1 2 (.loop (S1 (G1 iq 6) (S1 (C1 24 K1 (X1 2)) (S1 (B1 3 (S1 (G1 iq 7) (G1 iq 8))) (G1 iq 9))))))) (S1 (G2 iq 10) (G1 iq 11))))) (G1 iq 12))))))) (S1 (S1 (G1 iq 13) (B1 4 (.loop (S1 (G1 iq 14) (S1 (C1 56 K1 (X1 4)) (S1 (B1 5 (S1 (G1 iq 15) (G1 iq 16))) (G1 iq 17))))))) (S1 (G1 iq 18) .ret))))):=kr
theorem ZJ:drawInfo (Z uD 2)=some [(0,3)]:=kr
theorem ZI:drawInfo (Z uD 3)=some [(0,2)]:=kr
theorem aeX:uD=(S1 (G1 uD 0) (S1 (S1 (G1 uD 1) (C1 7 (S1 (G2 uD 2) .ret) K1)) (S1 (G2 uD 3) .ret))):=kr
theorem ZG:drawInfo (Z vZ 2)=some []:=kr
theorem aeR:vZ=(S1 (G1 vZ 0) (S1 (S1 (G1 vZ 1) (C1 6 (G2 vZ 2) K1)) (S1 (G1 vZ 3) .ret))):=kr
theorem ZH:drawInfo (Z rj 4)=some []:=kr
theorem aeU:rj=(S1 (G1 rj 0) (S1 (S1 (G1 rj 1) (B1 0 (.loop (S1 (G1 rj 2) (S1 (C1 7 K1 (X1 0)) (S1 (B1 1 (S1 (G1 rj 3) (G2 rj 4))) (G1 rj 5))))))) (S1 (G1 rj 6) .ret))):=kr
theorem aeO:B7=(S1 (G1 B7 0) (S1 (G1 B7 1) .ret)):=kr
theorem ai2:Ch=(S1 (G1 Ch 0) (S1 (G1 Ch 1) .ret)):=kr
theorem ZR:drawInfo (Z dQ 1)=some [(4,5),(4,6),(4,7),(4,8)]:=kr
theorem YW:drawInfo (Z dQ 20)=some []:=kr
theorem YX:drawInfo (Z dQ 24)=some [(2,8),(3,8)]:=kr
theorem YY:drawInfo (Z dQ 25)=some []:=kr
theorem afJ:dQ=(S1 (G1 dQ 0) (S1 (G2 dQ 1) (S1 (S1 (G1 dQ 2) (B1 0 (.loop (S1 (G1 dQ 3) (S1 (C1 29 K1 (X1 0)) (S1 (B1 1 (S1 (G1 dQ 4) (G1 dQ 5))) (G1 dQ 6))))))) (S1 (G1 dQ 7) (S1 (S1 (G1 dQ 8) (B1 2 (.loop (S1 (G1 dQ 9) (S1 (C1 45 K1 (X1 2)) (S1 (B1 3 (S1 (G1 dQ 10) (G1 dQ 11))) (G1 dQ 12))))))) (S1 (S1 (G1 dQ 13) (B1 4 (.loop (S1 (S1 (G1 dQ 14) (C1 55 K1 (X1 4))) (B1 5 (S1 (G1 dQ 15) (S1 (G1 dQ 16) (B1 6 (.loop (S1 (G1 dQ 17) (S1 (C1 61 K1 (X1 6)) (S1 (B1 7 (S1 (G1 dQ 18) (S1 (S1 (G1 dQ 19) (C1 69 (X1 7) K1)) (S1 (G2 dQ 20) (S1 (G1 dQ 21) (B1 8 (.loop (S1 (G1 dQ 22) (S1 (C1 85 K1 (X1 8)) (S1 (B1 9 (S1 (G1 dQ 23) (S1 (G2 dQ 24) (S1 (G2 dQ 25) (C1 110 (G1 dQ 26) K1))))) (G1 dQ 27))))))))))) (G1 dQ 28))))))))))))) (S1 (G1 dQ 29) .ret))))))):=kr
theorem ZT:drawInfo (Z fy 7)=some []:=kr
theorem Y1:drawInfo (Z fy 17)=some []:=kr
theorem Y2:drawInfo (Z fy 18)=some [(14,15),(14,16),(14,18),(14,19)]:=kr
theorem af8:fy=(S1 (G1 fy 0) (.scope (S1 (G1 fy 1) (S1 (G1 fy 2) (S1 (.label 0) (S1 (S1 (G1 fy 3) (B1 0 (.loop (S1 (G1 fy 4) (S1 (C1 28 K1 (X1 0)) (S1 (B1 1 (S1 (G1 fy 5) (S1 (S1 (G1 fy 6) (C1 36 (X1 1) K1)) (S1 (S1 (G2 fy 7) (S1 (G1 fy 8) (C1 47 (S1 (G1 fy 9) .ret) K1))) (S1 (G1 fy 10) (B1 2 (.loop (S1 (G1 fy 11) (S1 (C1 52 K1 (X1 2)) (S1 (B1 3 (S1 (G1 fy 12) (S1 (S1 (G1 fy 13) (C1 57 (X1 1) K1)) (S1 (G1 fy 14) (B1 4 (.loop (S1 (G1 fy 15) (S1 (C1 64 K1 (X1 4)) (S1 (B1 5 (S1 (G1 fy 16) (S1 (G2 fy 17) (S1 (G2 fy 18) (C1 104 (S1 (G1 fy 19) .ret) K1))))) (G1 fy 20)))))))))) (G1 fy 21))))))))))) (G1 fy 22))))))) (S1 (G1 fy 23) .ret))))))):=kr
theorem alT:uK=(S1 (G1 uK 0) (S1 (B1 0 (S1 (G1 uK 1) (C1 3 (S1 (G1 uK 2) .ret) (S1 (G1 uK 3) (C1 7 (S1 (G1 uK 4) .ret) K1))))) (S1 (G1 uK 5) .ret))):=kr
theorem ai5:fx=(S1 (G1 fx 0) (S1 (S1 (G1 fx 1) (B1 0 (S1 (S1 (G1 fx 2) (C1 5 K1 (S1 (G1 fx 3) (C1 5 K1 (S1 (G1 fx 4) (C1 5 K1 (S1 (G1 fx 5) (C1 5 K1 (S1 (G1 fx 6) (C1 5 K1 (S1 (G1 fx 7) (C1 5 K1 (S1 (G1 fx 8) (C1 5 K1 (S1 (G1 fx 9) (C1 5 K1 (S1 (G1 fx 10) (C1 5 K1 (S1 (G1 fx 11) (C1 5 K1 (S1 (G1 fx 12) (C1 5 K1 (S1 (G1 fx 13) (C1 5 K1 (S1 (G1 fx 14) (C1 5 K1 (S1 (G1 fx 15) (C1 5 K1 (G1 fx 16))))))))))))))))))))))))))))) (C1 5 (S1 (G1 fx 17) .ret) (S1 (S1 (G1 fx 18) (C1 23 K1 (S1 (G1 fx 19) (C1 23 K1 (S1 (G1 fx 20) (C1 23 K1 (S1 (G1 fx 21) (C1 23 K1 (S1 (G1 fx 22) (C1 23 K1 (S1 (G1 fx 23) (C1 23 K1 (G1 fx 24))))))))))))) (C1 23 (S1 (G1 fx 25) .ret) K1)))))) (S1 (G1 fx 26) .ret))):=kr
theorem ajd:eF=(S1 (G1 eF 0) (S1 (S1 (G1 eF 1) (B1 0 (S1 (S1 (G1 eF 2) (C1 5 K1 (S1 (G1 eF 3) (C1 5 K1 (S1 (G1 eF 4) (C1 5 K1 (S1 (G1 eF 5) (C1 5 K1 (S1 (G1 eF 6) (C1 5 K1 (S1 (G1 eF 7) (C1 5 K1 (S1 (G1 eF 8) (C1 5 K1 (S1 (G1 eF 9) (C1 5 K1 (G1 eF 10))))))))))))))))) (C1 5 (S1 (G1 eF 11) .ret) (S1 (S1 (G1 eF 12) (C1 18 K1 (S1 (G1 eF 13) (C1 18 K1 (S1 (G1 eF 14) (C1 18 K1 (S1 (G1 eF 15) (C1 18 K1 (S1 (G1 eF 16) (C1 18 K1 (S1 (G1 eF 17) (C1 18 K1 (S1 (G1 eF 18) (C1 18 K1 (S1 (G1 eF 19) (C1 18 K1 (S1 (G1 eF 20) (C1 18 K1 (S1 (G1 eF 21) (C1 18 K1 (S1 (G1 eF 22) (C1 18 K1 (S1 (G1 eF 23) (C1 18 K1 (G1 eF 24))))))))))))))))))))))))) (C1 18 (S1 (G1 eF 25) .ret) (S1 (G1 eF 26) (C1 37 (S1 (G1 eF 27) .ret) (S1 (G1 eF 28) (C1 42 (S1 (G1 eF 29) .ret) K1)))))))))) (S1 (G1 eF 30) .ret))):=kr
theorem ajg:kJ=(S1 (G1 kJ 0) (S1 (S1 (G1 kJ 1) (B1 0 (S1 (S1 (G1 kJ 2) (C1 5 K1 (S1 (G1 kJ 3) (C1 5 K1 (G1 kJ 4))))) (C1 5 (S1 (G1 kJ 5) .ret) (S1 (G1 kJ 6) (C1 12 (S1 (G1 kJ 7) (C1 16 (S1 (G1 kJ 8) .ret) K1)) (S1 (G1 kJ 9) (C1 20 (S1 (G1 kJ 10) .ret) (S1 (S1 (G1 kJ 11) (C1 25 K1 (G1 kJ 12))) (C1 25 (S1 (G1 kJ 13) .ret) K1)))))))))) (S1 (G1 kJ 14) .ret))):=kr
theorem ai8:oF=(S1 (G1 oF 0) (S1 (S1 (G1 oF 1) (B1 0 (S1 (G1 oF 2) (C1 5 (S1 (G1 oF 3) .ret) (S1 (S1 (G1 oF 4) (C1 10 K1 (G1 oF 5))) (C1 10 (S1 (G1 oF 6) .ret) (S1 (G1 oF 7) (C1 15 (S1 (G1 oF 8) .ret) K1)))))))) (S1 (G1 oF 9) .ret))):=kr
theorem aja:vW=(S1 (G1 vW 0) (S1 (S1 (G1 vW 1) (C1 4 (S1 (G1 vW 2) .ret) K1)) (S1 (G1 vW 3) .ret))):=kr
theorem Vj:Cw=(S1 (G1 Cw 0) (G1 Cw 1)):=kr
theorem Ts:eI=(S1 (G1 eI 0) (S1 (G1 eI 1) (B1 0 (.loop (B1 1 (S1 (G1 eI 2) (S1 (S1 (G1 eI 3) (C1 23 (S1 (G1 eI 4) .ret) K1)) (S1 (S1 (G1 eI 5) (C1 29 (S1 (G1 eI 6) .ret) K1)) (S1 (S1 (G1 eI 7) (C1 35 (S1 (G1 eI 8) (G1 eI 9)) K1)) (S1 (G1 eI 10) (S1 (S1 (G1 eI 11) (C1 50 (S1 (G1 eI 12) (S1 (G1 eI 13) (G1 eI 14))) K1)) (S1 (S1 (G1 eI 15) (C1 68 (S1 (G1 eI 16) (C1 72 .ret K1)) K1)) (S1 (S1 (G2 eI 17) (C1 87 (S1 (G1 eI 18) (S1 (G1 eI 19) (X1 1))) K1)) (S1 (G1 eI 20) (S1 (G1 eI 21) (S1 (G1 eI 22) (S1 (G1 eI 23) (S1 (G1 eI 24) (C1 113 (S1 (G1 eI 25) (S1 (G1 eI 26) (G1 eI 27))) (S1 (G1 eI 28) (S1 (G1 eI 29) (G1 eI 30)))))))))))))))))))))):=kr
theorem ZL:drawInfo (Z qc 4)=some []:=kr
theorem ZM:drawInfo (Z qc 6)=some []:=kr
theorem afn:qc=(S1 (G1 qc 0) (B1 0 (.loop (S1 (S1 (G1 qc 1) (C1 12 K1 (X1 0))) (S1 (B1 1 (S1 (G1 qc 3) (B1 2 (.loop (S1 (S1 (G2 qc 4) (C1 30 K1 (X1 2))) (S1 (B1 3 (G2 qc 6)) (G1 qc 5))))))) (G1 qc 2)))))):=kr
theorem afk:B0=(S1 (G1 B0 0) (S1 (G1 B0 1) .ret)):=kr
theorem afh:B'=(S1 (G1 B' 0) (S1 (G1 B' 1) .ret)):=kr
theorem aa6:drawInfo (Z iN 6)=some []:=kr
theorem ZO:drawInfo (Z iN 11)=some []:=kr
theorem alA:iN=(S1 (G1 iN 0) (S1 (S1 (G1 iN 1) (C1 8 (S1 (G1 iN 2) .ret) K1)) (S1 (S1 (G1 iN 3) (B1 0 (.loop (S1 (S1 (G1 iN 4) (C1 13 K1 (X1 0))) (S1 (B1 1 (S1 (G2 iN 6) (C1 25 (S1 (G1 iN 7) (S1 (S1 (G1 iN 8) (B1 2 (.loop (S1 (S1 (G1 iN 9) (C1 32 K1 (X1 2))) (S1 (B1 3 (S1 (G2 iN 11) (C1 44 (S1 (G1 iN 12) (G1 iN 13)) K1))) (G1 iN 10)))))) (S1 (G1 iN 14) (S1 (G1 iN 15) .ret)))) K1))) (G1 iN 5)))))) (S1 (G1 iN 16) .ret)))):=kr
theorem afq:xV=(S1 (G1 xV 0) (S1 (G1 xV 1) (S1 (G1 xV 2) (S1 (G1 xV 3) .ret)))):=kr
theorem afe:Ci=(S1 (G1 Ci 0) (S1 (G1 Ci 1) .ret)):=kr
theorem afb:v8=(S1 (G1 v8 0) (S1 (S1 (G1 v8 1) (B1 0 (.rangeFunc (.tmp 6) #[7] (G1 v8 2) (B1 1 (G1 v8 3))))) (S1 (G1 v8 4) .ret))):=kr
theorem agf:lx=(S1 (G1 lx 0) (S1 (G1 lx 1) (S1 (S1 (G1 lx 2) (C1 13 (G1 lx 3) K1)) (S1 (S1 (G1 lx 4) (C1 26 (G1 lx 5) K1)) (S1 (S1 (G1 lx 6) (B1 0 (.loop (S1 (G1 lx 7) (S1 (C1 36 K1 (X1 0)) (S1 (B1 1 (S1 (G1 lx 8) (G1 lx 9))) (G1 lx 10))))))) (S1 (S1 (G1 lx 11) (C1 47 (G1 lx 12) K1)) (S1 (G1 lx 13) .ret))))))):=kr
theorem agE:qY=(S1 (G1 qY 0) (S1 (G1 qY 1) (S1 (S1 (G1 qY 2) (C1 15 (S1 (G1 qY 3) .ret) K1)) (S1 (G1 qY 4) (S1 (G1 qY 5) (S1 (G1 qY 6) (S1 (G1 qY 7) .ret))))))):=kr
theorem agm:s9=(S1 (G1 s9 0) (S1 (G1 s9 1) (B1 0 (.loop (S1 (G1 s9 2) (S1 (C1 20 K1 (X1 0)) (S1 (B1 1 (S1 (G1 s9 3) (S1 (G1 s9 4) (C1 32 (G1 s9 5) K1)))) (G1 s9 6)))))))):=kr
theorem abj:drawInfo (Z gq 5)=some []:=kr
theorem ZX:drawInfo (Z gq 11)=some [(1,6),(2,6),(3,6)]:=kr
theorem ZY:drawInfo (Z gq 15)=some [(1,14),(2,14),(3,14)]:=kr
theorem VA:gq=(S1 (G1 gq 0) (S1 (S1 (G1 gq 1) (S1 (G1 gq 2) (C1 15 (S1 (G1 gq 3) .ret) K1))) (S1 (G1 gq 4) (S1 (G2 gq 5) (S1 (S1 (G1 gq 6) (B1 0 (.loop (S1 (G1 gq 7) (S1 (C1 31 K1 (X1 0)) (S1 (B1 1 (S1 (G1 gq 8) (S1 (G1 gq 9) (S1 (G1 gq 10) (S1 (G2 gq 11) (S1 (G1 gq 12) (B1 2 (.loop (S1 (G1 gq 13) (S1 (C1 57 K1 (X1 2)) (S1 (B1 3 (S1 (G1 gq 14) (G2 gq 15))) (G1 gq 16)))))))))))) (G1 gq 17))))))) (S1 (G1 gq 18) (S1 (G1 gq 19) .ret))))))):=kr
theorem agH:q7=(S1 (G1 q7 0) (S1 (S1 (G1 q7 1) (B1 0 (.loop (S1 (G1 q7 2) (S1 (C1 20 K1 (X1 0)) (S1 (B1 1 (S1 (G1 q7 3) (S1 (G1 q7 4) (C1 27 (G1 q7 5) K1)))) (G1 q7 6))))))) (G1 q7 7))):=kr
theorem al4:rF=(S1 (G1 rF 0) (S1 (G1 rF 1) (S1 (G1 rF 2) (S1 (G1 rF 3) (S1 (G1 rF 4) (S1 (G1 rF 5) (S1 (G1 rF 6) (S1 (G1 rF 7) .ret)))))))):=kr
theorem abh:drawInfo (Z wi 3)=some []:=kr
theorem al1:wi=(S1 (G1 wi 0) (B1 0 (.loop (S1 (S1 (G1 wi 1) (C1 9 K1 (X1 0))) (S1 (B1 1 (G2 wi 3)) (G1 wi 2)))))):=kr
theorem agj:xU=(S1 (G1 xU 0) (B1 0 (.loop (S1 (S1 (G1 xU 1) (C1 8 K1 (X1 0))) (S1 (B1 1 (S1 (G1 xU 3) (C1 18 .ret K1))) (G1 xU 2)))))):=kr
theorem amb:iu=(S1 (G1 iu 0) (S1 (S1 (G1 iu 1) (C1 58 (S1 (G1 iu 2) .ret) K1)) (S1 (S1 (G1 iu 3) (B1 0 (.loop (S1 (S1 (G1 iu 4) (C1 63 K1 (X1 0))) (S1 (B1 1 (S1 (G1 iu 6) (C1 72 (S1 (G1 iu 7) .ret) K1))) (G1 iu 5)))))) (S1 (S1 (G1 iu 8) (B1 2 (.loop (S1 (S1 (G1 iu 9) (C1 77 K1 (X1 2))) (S1 (B1 3 (S1 (G1 iu 11) (S1 (S1 (G1 iu 12) (C1 117 (S1 (G1 iu 13) .ret) K1)) (S1 (G1 iu 14) (B1 4 (.loop (S1 (S1 (G1 iu 15) (C1 122 K1 (X1 4))) (S1 (B1 5 (S1 (G1 iu 17) (C1 132 (S1 (G1 iu 18) .ret) K1))) (G1 iu 16))))))))) (G1 iu 10)))))) (S1 (G1 iu 19) .ret))))):=kr
theorem amo:yh=(S1 (G1 yh 0) (S1 (B1 0 (.loop (S1 (S1 (G1 yh 1) (C1 13 K1 (X1 0))) (B1 1 (G1 yh 2))))) (S1 (G1 yh 3) .ret))):=kr
theorem ami:rH=(S1 (G1 rH 0) (S1 (G1 rH 1) (S1 (S1 (G1 rH 2) (B1 0 (.loop (S1 (G1 rH 3) (S1 (C1 12 K1 (X1 0)) (S1 (B1 1 (S1 (G1 rH 4) (G1 rH 5))) (G1 rH 6))))))) (S1 (G1 rH 7) .ret)))):=kr
theorem Z1:drawInfo (Z dS 24)=some []:=kr
theorem aml:dS=(S1 (G1 dS 0) (S1 (G1 dS 1) (S1 (G1 dS 2) (S1 (S1 (G1 dS 3) (B1 0 (.loop (S1 (G1 dS 4) (S1 (C1 26 K1 (X1 0)) (S1 (B1 1 (S1 (G1 dS 5) (G1 dS 6))) (G1 dS 7))))))) (S1 (G1 dS 8) (S1 (G1 dS 9) (S1 (S1 (G1 dS 10) (B1 2 (.loop (S1 (S1 (G1 dS 11) (C1 44 K1 (X1 2))) (B1 3 (S1 (G1 dS 12) (S1 (G1 dS 13) (B1 4 (.loop (S1 (G1 dS 14) (S1 (C1 49 K1 (X1 4)) (S1 (B1 5 (S1 (G1 dS 15) (S1 (G1 dS 16) (S1 (S1 (G1 dS 17) (B1 6 (.loop (S1 (G1 dS 18) (S1 (C1 61 K1 (X1 6)) (S1 (B1 7 (S1 (G1 dS 19) (S1 (S1 (G1 dS 20) (C1 68 (X1 7) K1)) (S1 (S1 (G1 dS 21) (C1 70 (S1 (G1 dS 22) (X1 7)) K1)) (B1 8 (.loop (S1 (S1 (G1 dS 23) (C1 74 K1 (X1 8))) (B1 9 (S1 (G2 dS 24) (C1 83 (G1 dS 25) (G1 dS 26))))))))))) (G1 dS 27))))))) (S1 (G1 dS 28) (C1 98 (G1 dS 29) K1)))))) (G1 dS 30))))))))))))) (S1 (G1 dS 31) (S1 (G1 dS 32) .ret))))))))):=kr
theorem ame:wg=(S1 (G1 wg 0) (B1 0 (.loop (S1 (G1 wg 1) (S1 (C1 12 K1 (X1 0)) (S1 (B1 1 (S1 (G1 wg 2) (S1 (G1 wg 3) (C1 22 .ret K1)))) (G1 wg 4))))))):=kr
theorem Z5:drawInfo (Z fS 14)=some [(0,8)]:=kr
theorem Nt:drawInfo (Z fS 20)=some [(0,6)]:=kr
theorem VP:fS=(S1 (G1 fS 0) (S1 (G1 fS 1) (S1 (S1 (G1 fS 2) (C1 19 (S1 (G1 fS 3) .ret) K1)) (S1 (G1 fS 4) (S1 (G1 fS 5) (S1 (S1 (G1 fS 6) (B1 0 (.rangeFunc (.tmp 31) #[32] (G1 fS 7) (B1 1 (S1 (G1 fS 8) (B1 2 (.loop (S1 (G1 fS 9) (S1 (C1 42 K1 (X1 2)) (S1 (B1 3 (S1 (G1 fS 10) (S1 (G1 fS 11) (B1 4 (.loop (S1 (S1 (G1 fS 12) (C1 64 K1 (X1 4))) (S1 (B1 5 (G2 fS 14)) (G1 fS 13)))))))) (G1 fS 15))))))))))) (S1 (S1 (G1 fS 16) (B1 6 (.loop (S1 (G1 fS 17) (S1 (C1 83 K1 (X1 6)) (S1 (B1 7 (S1 (G1 fS 18) (S1 (G1 fS 19) (G2 fS 20)))) (G1 fS 21))))))) (S1 (G1 fS 22) .ret)))))))):=kr
theorem V1:eT=(S1 (G1 eT 0) (S1 (G1 eT 1) (S1 (S1 (G1 eT 2) (C1 22 (S1 (G1 eT 3) .ret) K1)) (S1 (G1 eT 4) (S1 (G1 eT 5) (S1 (S1 (G1 eT 6) (B1 0 (.rangeFunc (.tmp 27) #[28] (G1 eT 7) (B1 1 (S1 (G1 eT 8) (S1 (G1 eT 9) (S1 (G1 eT 10) (S1 (G1 eT 11) (S1 (S1 (G1 eT 12) (B1 2 (.loop (S1 (G1 eT 13) (S1 (C1 42 K1 (X1 2)) (S1 (B1 3 (S1 (G1 eT 14) (S1 (G1 eT 15) (C1 57 (S1 (G1 eT 16) (G1 eT 17)) K1)))) (G1 eT 18))))))) (S1 (S1 (G1 eT 19) (C1 63 (X1 1) K1)) (S1 (G1 eT 20) (S1 (S1 (G1 eT 21) (B1 4 (.loop (S1 (G1 eT 22) (S1 (C1 73 K1 (X1 4)) (S1 (B1 5 (S1 (G1 eT 23) (S1 (G1 eT 24) (C1 77 (G1 eT 25) K1)))) (G1 eT 26))))))) (G1 eT 27))))))))))))) (S1 (G1 eT 28) .ret))))))):=kr
theorem Z8:drawInfo (Z gU 16)=some []:=kr
theorem V6:gU=(S1 (G1 gU 0) (S1 (G1 gU 1) (S1 (S1 (G1 gU 2) (C1 19 (S1 (G1 gU 3) .ret) K1)) (S1 (G1 gU 4) (S1 (G1 gU 5) (S1 (S1 (G1 gU 6) (B1 0 (.loop (S1 (G1 gU 7) (S1 (C1 34 K1 (X1 0)) (S1 (B1 1 (S1 (G1 gU 8) (G1 gU 9))) (G1 gU 10))))))) (S1 (S1 (G1 gU 11) (B1 2 (.rangeFunc (.tmp 44) #[45] (G1 gU 12) (B1 3 (S1 (G1 gU 13) (B1 4 (.loop (S1 (G1 gU 14) (S1 (C1 55 K1 (X1 4)) (S1 (B1 5 (S1 (G1 gU 15) (S1 (G2 gU 16) (C1 82 (S1 (G1 gU 17) .ret) K1)))) (G1 gU 18))))))))))) (S1 (G1 gU 19) .ret)))))))):=kr
theorem VT:tv=(S1 (S1 (G1 tv 0) (C1 19 .ret K1)) (S1 (G1 tv 1) (S1 (G1 tv 2) (B1 0 (.loop (S1 (G1 tv 3) (S1 (C1 31 K1 (X1 0)) (S1 (B1 1 (S1 (G1 tv 4) (G1 tv 5))) (G1 tv 6))))))))):=kr
theorem Z2:drawInfo (Z uE 1)=some []:=kr
theorem ag5:uE=(S1 (G1 uE 0) (S1 (S1 (G2 uE 1) (C1 18 (S1 (G1 uE 2) (S1 (G1 uE 3) .ret)) K1)) (S1 (G1 uE 4) .ret))):=kr
theorem ag8:vY=(S1 (G1 vY 0) (S1 (G1 vY 1) (S1 (G1 vY 2) (S1 (G1 vY 3) (S1 (G1 vY 4) .ret))))):=kr
theorem aha:B9=(S1 (G1 B9 0) (S1 (G1 B9 1) .ret)):=kr
theorem ahe:jd=(S1 (G1 jd 0) (S1 (G1 jd 1) (S1 (G1 jd 2) (S1 (G1 jd 3) (S1 (G1 jd 4) (S1 (G1 jd 5) (S1 (S1 (G1 jd 6) (C1 32 (S1 (S1 (G1 jd 7) (C1 34 (S1 (G1 jd 8) (S1 (G1 jd 9) (G1 jd 10))) K1)) (G1 jd 11)) K1)) (S1 (G1 jd 12) (B1 0 (S1 (G1 jd 14) (C1 51 (S1 (G1 jd 15) .ret) (S1 (G1 jd 16) (C1 54 (S1 (G1 jd 17) .ret) (S1 (G1 jd 13) .ret)))))))))))))):=kr
theorem Z3:drawInfo (Z fJ 5)=some []:=kr
theorem ahh:fJ=(S1 (G1 fJ 0) (S1 (G1 fJ 1) (S1 (S1 (G1 fJ 2) (B1 0 (.loop (S1 (S1 (G1 fJ 3) (C1 14 K1 (X1 0))) (S1 (B1 1 (S1 (B1 2 (.loop (S1 (S1 (G2 fJ 5) (C1 32 K1 (X1 2))) (B1 3 (G1 fJ 6))))) (S1 (S1 (G1 fJ 7) (C1 37 (S1 (G1 fJ 8) .ret) K1)) (S1 (S1 (G1 fJ 9) (C1 41 (S1 (G1 fJ 10) .ret) K1)) (S1 (G2 fJ 11) (S1 (S1 (G1 fJ 12) (C1 61 (S1 (G1 fJ 13) (B1 4 (.loop (S1 (S1 (G1 fJ 14) (C1 65 K1 (X1 4))) (S1 (B1 5 (S1 (S1 (G2 fJ 16) (C1 78 (X1 4) K1)) (G2 fJ 17))) (G1 fJ 15)))))) K1)) (S1 (G1 fJ 18) (C1 98 (S1 (G1 fJ 19) (B1 6 (.loop (S1 (S1 (G1 fJ 20) (C1 103 K1 (X1 6))) (S1 (B1 7 (S1 (S1 (G2 fJ 22) (C1 116 (X1 6) K1)) (G2 fJ 23))) (G1 fJ 21)))))) K1)))))))) (G1 fJ 4)))))) (S1 (G1 fJ 24) .ret)))):=kr
noncomputable def CQ:T (Func×Code):=
 (.node none (.node none (.node (some (Tryz.f3,UL)) (.node (some (Tryz.f7,UP)) (.node (some (Tryz.f15,iu)) (.node (some (Tryz.f31,RQ)) (.node (some (Tryz.f63,Sc)) (.node (some (Tryz.f127,nO)) (.node (some (Tryz.f255,Ck)) .leaf .leaf) .leaf) (.node (some (Tryz.f191,B3)) .leaf .leaf)) (.node (some (Tryz.f95,uK)) (.node (some (Tryz.f159,PT)) .leaf .leaf) (.node (some (Tryz.f223,Qs)) .leaf .leaf))) (.node (some (Tryz.f47,R2)) (.node (some (Tryz.f79,Sr)) (.node (some (Tryz.f143,PI)) .leaf .leaf) (.node (some (Tryz.f207,Qn)) .leaf .leaf)) (.node (some (Tryz.f111,Pr)) (.node (some (Tryz.f175,oF)) .leaf .leaf) (.node (some (Tryz.f239,zX)) .leaf .leaf)))) (.node (some (Tryz.f23,RJ)) (.node (some (Tryz.f39,fS)) (.node (some (Tryz.f71,Sk)) (.node (some (Tryz.f135,PC)) .leaf .leaf) (.node (some (Tryz.f199,vX)) .leaf .leaf)) (.node (some (Tryz.f103,Pj)) (.node (some (Tryz.f167,P')) .leaf .leaf) (.node (some (Tryz.f231,q8)) .leaf .leaf))) (.node (some (Tryz.f55,dF)) (.node (some (Tryz.f87,yh)) (.node (some (Tryz.f151,eI)) .leaf .leaf) (.node (some (Tryz.f215,mW)) .leaf .leaf)) (.node (some (Tryz.f119,BW)) (.node (some (Tryz.f183,fJ)) .leaf .leaf) (.node (some (Tryz.f247,Ci)) .leaf .leaf))))) (.node (some (Tryz.f11,Rz)) (.node (some (Tryz.f19,RG)) (.node (some (Tryz.f35,RV)) (.node (some (Tryz.f67,Sf)) (.node (some (Tryz.f131,Py)) (.node (some (Tryz.f259,Qy)) .leaf .leaf) .leaf) (.node (some (Tryz.f195,dZ)) .leaf .leaf)) (.node (some (Tryz.f99,SA)) (.node (some (Tryz.f163,PX)) .leaf .leaf) (.node (some (Tryz.f227,B')) .leaf .leaf))) (.node (some (Tryz.f51,gq)) (.node (some (Tryz.f83,Sw)) (.node (some (Tryz.f147,PK)) .leaf .leaf) (.node (some (Tryz.f211,tc)) .leaf .leaf)) (.node (some (Tryz.f115,lx)) (.node (some (Tryz.f179,Qc)) .leaf .leaf) (.node (some (Tryz.f243,rj)) .leaf .leaf)))) (.node (some (Tryz.f27,RM)) (.node (some (Tryz.f43,gU)) (.node (some (Tryz.f75,iw)) (.node (some (Tryz.f139,fx)) .leaf .leaf) (.node (some (Tryz.f203,Qj)) .leaf .leaf)) (.node (some (Tryz.f107,Pn)) (.node (some (Tryz.f171,cQ)) .leaf .leaf) (.node (some (Tryz.f235,nP)) .leaf .leaf))) (.node (some (Tryz.f59,tu)) (.node (some (Tryz.f91,jJ)) (.node (some (Tryz.f155,BX)) .leaf .leaf) (.node (some (Tryz.f219,fR)) .leaf .leaf)) (.node (some (Tryz.f123,eE)) (.node (some (Tryz.f187,Qh)) .leaf .leaf) (.node (some (Tryz.f251,uE)) .leaf .leaf)))))) (.node (some (Tryz.f5,UN)) (.node (some (Tryz.f9,UR)) (.node (some (Tryz.f17,RE)) (.node (some (Tryz.f33,RT)) (.node (some (Tryz.f65,Sd)) (.node (some (Tryz.f129,Px)) (.node (some (Tryz.f257,Cm)) .leaf .leaf) .leaf) (.node (some (Tryz.f193,B5)) .leaf .leaf)) (.node (some (Tryz.f97,mZ)) (.node (some (Tryz.f161,PV)) .leaf .leaf) (.node (some (Tryz.f225,B9)) .leaf .leaf))) (.node (some (Tryz.f49,R4)) (.node (some (Tryz.f81,Su)) (.node (some (Tryz.f145,mi)) .leaf .leaf) (.node (some (Tryz.f209,Qp)) .leaf .leaf)) (.node (some (Tryz.f113,Pt)) (.node (some (Tryz.f177,Qb)) .leaf .leaf) (.node (some (Tryz.f241,Qu)) .leaf .leaf)))) (.node (some (Tryz.f25,oO)) (.node (some (Tryz.f41,eT)) (.node (some (Tryz.f73,Sm)) (.node (some (Tryz.f137,kJ)) .leaf .leaf) (.node (some (Tryz.f201,xV)) .leaf .leaf)) (.node (some (Tryz.f105,vW)) (.node (some (Tryz.f169,io)) .leaf .leaf) (.node (some (Tryz.f233,Ce)) .leaf .leaf))) (.node (some (Tryz.f57,R9)) (.node (some (Tryz.f89,Cw)) (.node (some (Tryz.f153,dq)) .leaf .leaf) (.node (some (Tryz.f217,qe)) .leaf .leaf)) (.node (some (Tryz.f121,dp)) (.node (some (Tryz.f185,Qf)) .leaf .leaf) (.node (some (Tryz.f249,Qw)) .leaf .leaf))))) (.node (some (Tryz.f13,RB)) (.node (some (Tryz.f21,RI)) (.node (some (Tryz.f37,RY)) (.node (some (Tryz.f69,Si)) (.node (some (Tryz.f133,PA)) .leaf .leaf) (.node (some (Tryz.f197,dQ)) .leaf .leaf)) (.node (some (Tryz.f101,Pg)) (.node (some (Tryz.f165,PZ)) .leaf .leaf) (.node (some (Tryz.f229,Cb)) .leaf .leaf))) (.node (some (Tryz.f53,R7)) (.node (some (Tryz.f85,rF)) (.node (some (Tryz.f149,q7)) .leaf .leaf) (.node (some (Tryz.f213,td)) .leaf .leaf)) (.node (some (Tryz.f117,Pv)) (.node (some (Tryz.f181,jd)) .leaf .leaf) (.node (some (Tryz.f245,uD)) .leaf .leaf)))) (.node (some (Tryz.f29,RO)) (.node (some (Tryz.f45,oQ)) (.node (some (Tryz.f77,Sp)) (.node (some (Tryz.f141,PG)) .leaf .leaf) (.node (some (Tryz.f205,Ql)) .leaf .leaf)) (.node (some (Tryz.f109,Pp)) (.node (some (Tryz.f173,mV)) .leaf .leaf) (.node (some (Tryz.f237,Cf)) .leaf .leaf))) (.node (some (Tryz.f61,wg)) (.node (some (Tryz.f93,tv)) (.node (some (Tryz.f157,PR)) .leaf .leaf) (.node (some (Tryz.f221,j4)) .leaf .leaf)) (.node (some (Tryz.f125,fH)) (.node (some (Tryz.f189,zU)) .leaf .leaf) (.node (some (Tryz.f253,mX)) .leaf .leaf))))))) (.node none (.node (some (Tryz.f4,UM)) (.node (some (Tryz.f8,UQ)) (.node (some (Tryz.f16,RD)) (.node (some (Tryz.f32,RS)) (.node (some (Tryz.f64,oR)) (.node (some (Tryz.f128,j0)) (.node (some (Tryz.f256,Cl)) .leaf .leaf) .leaf) (.node (some (Tryz.f192,B4)) .leaf .leaf)) (.node (some (Tryz.f96,Cx)) (.node (some (Tryz.f160,PU)) .leaf .leaf) (.node (some (Tryz.f224,Qt)) .leaf .leaf))) (.node (some (Tryz.f48,R3)) (.node (some (Tryz.f80,Ss)) (.node (some (Tryz.f144,PJ)) .leaf .leaf) (.node (some (Tryz.f208,Qo)) .leaf .leaf)) (.node (some (Tryz.f112,Ps)) (.node (some (Tryz.f176,xU)) .leaf .leaf) (.node (some (Tryz.f240,zY)) .leaf .leaf)))) (.node (some (Tryz.f24,RK)) (.node (some (Tryz.f40,gT)) (.node (some (Tryz.f72,Sl)) (.node (some (Tryz.f136,PE)) .leaf .leaf) (.node (some (Tryz.f200,B7)) .leaf .leaf)) (.node (some (Tryz.f104,Pk)) (.node (some (Tryz.f168,s9)) .leaf .leaf) (.node (some (Tryz.f232,Cd)) .leaf .leaf))) (.node (some (Tryz.f56,mY)) (.node (some (Tryz.f88,Sy)) (.node (some (Tryz.f152,PQ)) .leaf .leaf) (.node (some (Tryz.f216,zV)) .leaf .leaf)) (.node (some (Tryz.f120,dn)) (.node (some (Tryz.f184,B0)) .leaf .leaf) (.node (some (Tryz.f248,Qv)) .leaf .leaf))))) (.node (some (Tryz.f12,RA)) (.node (some (Tryz.f20,RH)) (.node (some (Tryz.f36,RX)) (.node (some (Tryz.f68,Sg)) (.node (some (Tryz.f132,Pz)) (.node (some (Tryz.f260,ru)) .leaf .leaf) .leaf) (.node (some (Tryz.f196,ly)) .leaf .leaf)) (.node (some (Tryz.f100,Pf)) (.node (some (Tryz.f164,PY)) .leaf .leaf) (.node (some (Tryz.f228,Ca)) .leaf .leaf))) (.node (some (Tryz.f52,R6)) (.node (some (Tryz.f84,wi)) (.node (some (Tryz.f148,PN)) .leaf .leaf) (.node (some (Tryz.f212,B8)) .leaf .leaf)) (.node (some (Tryz.f116,qY)) (.node (some (Tryz.f180,Qd)) .leaf .leaf) (.node (some (Tryz.f244,Ch)) .leaf .leaf)))) (.node (some (Tryz.f28,RN)) (.node (some (Tryz.f44,ff)) (.node (some (Tryz.f76,rE)) (.node (some (Tryz.f140,eF)) .leaf .leaf) (.node (some (Tryz.f204,Qk)) .leaf .leaf)) (.node (some (Tryz.f108,Po)) (.node (some (Tryz.f172,fI)) .leaf .leaf) (.node (some (Tryz.f236,q9)) .leaf .leaf))) (.node (some (Tryz.f60,dS)) (.node (some (Tryz.f92,rG)) (.node (some (Tryz.f156,BY)) .leaf .leaf) (.node (some (Tryz.f220,jG)) .leaf .leaf)) (.node (some (Tryz.f124,s8)) (.node (some (Tryz.f188,Qi)) .leaf .leaf) (.node (some (Tryz.f252,rk)) .leaf .leaf)))))) (.node (some (Tryz.f6,UO)) (.node (some (Tryz.f10,oL)) (.node (some (Tryz.f18,RF)) (.node (some (Tryz.f34,RU)) (.node (some (Tryz.f66,Se)) (.node (some (Tryz.f130,q0)) (.node (some (Tryz.f258,v8)) .leaf .leaf) .leaf) (.node (some (Tryz.f194,B6)) .leaf .leaf)) (.node (some (Tryz.f98,Sz)) (.node (some (Tryz.f162,PW)) .leaf .leaf) (.node (some (Tryz.f226,vY)) .leaf .leaf))) (.node (some (Tryz.f50,R5)) (.node (some (Tryz.f82,Sv)) (.node (some (Tryz.f146,oE)) .leaf .leaf) (.node (some (Tryz.f210,Qq)) .leaf .leaf)) (.node (some (Tryz.f114,Pu)) (.node (some (Tryz.f178,qc)) .leaf .leaf) (.node (some (Tryz.f242,vZ)) .leaf .leaf)))) (.node (some (Tryz.f26,RL)) (.node (some (Tryz.f42,dR)) (.node (some (Tryz.f74,So)) (.node (some (Tryz.f138,PF)) .leaf .leaf) (.node (some (Tryz.f202,qd)) .leaf .leaf)) (.node (some (Tryz.f106,Pm)) (.node (some (Tryz.f170,BZ)) .leaf .leaf) (.node (some (Tryz.f234,xW)) .leaf .leaf))) (.node (some (Tryz.f58,Sa)) (.node (some (Tryz.f90,iN)) (.node (some (Tryz.f154,fy)) .leaf .leaf) (.node (some (Tryz.f218,zW)) .leaf .leaf)) (.node (some (Tryz.f122,qZ)) (.node (some (Tryz.f186,Qg)) .leaf .leaf) (.node (some (Tryz.f250,Qx)) .leaf .leaf))))) (.node (some (Tryz.f14,RC)) (.node (some (Tryz.f22,Cv)) (.node (some (Tryz.f38,RZ)) (.node (some (Tryz.f70,Sj)) (.node (some (Tryz.f134,PB)) .leaf .leaf) (.node (some (Tryz.f198,iq)) .leaf .leaf)) (.node (some (Tryz.f102,Ph)) (.node (some (Tryz.f166,xT)) .leaf .leaf) (.node (some (Tryz.f230,Cc)) .leaf .leaf))) (.node (some (Tryz.f54,R8)) (.node (some (Tryz.f86,Sx)) (.node (some (Tryz.f150,PO)) .leaf .leaf) (.node (some (Tryz.f214,j3)) .leaf .leaf)) (.node (some (Tryz.f118,Pw)) (.node (some (Tryz.f182,Qe)) .leaf .leaf) (.node (some (Tryz.f246,te)) .leaf .leaf)))) (.node (some (Tryz.f30,RP)) (.node (some (Tryz.f46,R1)) (.node (some (Tryz.f78,Sq)) (.node (some (Tryz.f142,PH)) .leaf .leaf) (.node (some (Tryz.f206,Qm)) .leaf .leaf)) (.node (some (Tryz.f110,Pq)) (.node (some (Tryz.f174,Qa)) .leaf .leaf) (.node (some (Tryz.f238,Cg)) .leaf .leaf))) (.node (some (Tryz.f62,Sb)) (.node (some (Tryz.f94,rH)) (.node (some (Tryz.f158,PS)) .leaf .leaf) (.node (some (Tryz.f222,Qr)) .leaf .leaf)) (.node (some (Tryz.f126,mU)) (.node (some (Tryz.f190,B2)) .leaf .leaf) (.node (some (Tryz.f254,Cj)) .leaf .leaf))))))))
def Gr(p:Nat->Func×Code->Prop):(Nat->Nat)->T (Func×Code)->Prop
 |_,.leaf=>True
 |g,.node v l r=>(∀ a,v=some a->p (g 0) a)/\Gr p (fun i=>g (2*i+1)) l/\Gr p (fun i=>g (2*i+2)) r
theorem Iq{p:Nat->Func×Code->Prop}:∀ {t:T (Func×Code)} {g:Nat->Nat},Gr p g t->∀ i a,t.get i=some a->p (g i) a
 | .leaf,_,_,i,a,h=>by cases h
 | .node v l r,g,⟨h1,h2,h3⟩,i,a,h=>by
  rw[T.uv] at h;by_cases h0:i=0
  .subst h0;exact h1 a (by simpa using h)
  .rw[if_neg h0] at h;by_cases C:i % 2=1
   .rw[if_pos C] at h;have:=Iq h2 _ a h;have e:2*(i / 2)+1=i:=by omega
    simpa only[e] using this
   .rw[if_neg C] at h;have:=Iq h3 _ a h;have e:2*(i / 2 - 1)+2=i:=by omega
    simpa only[e] using this
theorem e0{p:Func×Code->Prop}:∀ a,(none:Option (Func×Code))=some a->p a:=fun _ h=>by cases h
theorem e1{i:Nat}{fn:Func}{c:Code}(h:qu prog i fn c):∀ a,some (fn,c)=some a->qu prog i a.1 a.2:=fun _ e=>by cases e;exact h
theorem ac2:Gr (fun i a=>qu prog i a.1 a.2) (fun i=>i) CQ:=
 ⟨e0,⟨e0,⟨e1 ok3,⟨e1 ok7,⟨e1 VB,⟨e1 anG,⟨e1 anZ,⟨e1 UB,⟨e1 TZ,trivial,trivial⟩,trivial⟩,⟨e1 TE,trivial,trivial⟩⟩,⟨e1 Vu,⟨e1 ajR,trivial,trivial⟩,⟨e1 akg,trivial,trivial⟩⟩⟩,⟨e1 anP,⟨e1 aob,⟨e1 ajJ,trivial,trivial⟩,⟨e1 akb,trivial,trivial⟩⟩,⟨e1 ajt,⟨e1 UG,trivial,trivial⟩,⟨e1 JJ,trivial,trivial⟩⟩⟩⟩,⟨e1 anz,⟨e1 Kx,⟨e1 an6,⟨e1 ajE,trivial,trivial⟩,⟨e1 Tv,trivial,trivial⟩⟩,⟨e1 ajm,⟨e1 ajY,trivial,trivial⟩,⟨e1 JA,trivial,trivial⟩⟩⟩,⟨e1 We,⟨e1 VM,⟨e1 JD,trivial,trivial⟩,⟨e1 Ub,trivial,trivial⟩⟩,⟨e1 Ta,⟨e1 T4,trivial,trivial⟩,⟨e1 Tl,trivial,trivial⟩⟩⟩⟩⟩,⟨e1 ano,⟨e1 anv,⟨e1 anK,⟨e1 an2,⟨e1 ajA,⟨e1 akm,trivial,trivial⟩,trivial⟩,⟨e1 Uz,trivial,trivial⟩⟩,⟨e1 aoj,⟨e1 ajV,trivial,trivial⟩,⟨e1 Tm,trivial,trivial⟩⟩⟩,⟨e1 Kq,⟨e1 aof,⟨e1 ajL,trivial,trivial⟩,⟨e1 T9,trivial,trivial⟩⟩,⟨e1 TI,⟨e1 aj1,trivial,trivial⟩,⟨e1 Tf,trivial,trivial⟩⟩⟩⟩,⟨e1 anC,⟨e1 KD,⟨e1 Wj,⟨e1 UF,trivial,trivial⟩,⟨e1 aj8,trivial,trivial⟩⟩,⟨e1 ajp,⟨e1 JR,trivial,trivial⟩,⟨e1 TS,trivial,trivial⟩⟩⟩,⟨e1 KK,⟨e1 Wo,⟨e1 Tu,trivial,trivial⟩,⟨e1 Uj,trivial,trivial⟩⟩,⟨e1 Uo,⟨e1 aj6,trivial,trivial⟩,⟨e1 T0,trivial,trivial⟩⟩⟩⟩⟩⟩,⟨e1 ok5,⟨e1 ok9,⟨e1 ant,⟨e1 anI,⟨e1 an0,⟨e1 ajz,⟨e1 TX,trivial,trivial⟩,trivial⟩,⟨e1 TC,trivial,trivial⟩⟩,⟨e1 Vn,⟨e1 ajT,trivial,trivial⟩,⟨e1 T2,trivial,trivial⟩⟩⟩,⟨e1 anR,⟨e1 aod,⟨e1 Uk,trivial,trivial⟩,⟨e1 akd,trivial,trivial⟩⟩,⟨e1 ajv,⟨e1 aj0,trivial,trivial⟩,⟨e1 aki,trivial,trivial⟩⟩⟩⟩,⟨e1 KJ,⟨e1 KC,⟨e1 an8,⟨e1 UJ,trivial,trivial⟩,⟨e1 Tt,trivial,trivial⟩⟩,⟨e1 UH,⟨e1 Uq,trivial,trivial⟩,⟨e1 JH,trivial,trivial⟩⟩⟩,⟨e1 anW,⟨e1 Kg,⟨e1 TG,trivial,trivial⟩,⟨e1 JN,trivial,trivial⟩⟩,⟨e1 UD,⟨e1 aj4,trivial,trivial⟩,⟨e1 akk,trivial,trivial⟩⟩⟩⟩⟩,⟨e1 anq,⟨e1 anx,⟨e1 anM,⟨e1 an4,⟨e1 ajC,trivial,trivial⟩,⟨e1 Tx,trivial,trivial⟩⟩,⟨e1 ajk,⟨e1 ajX,trivial,trivial⟩,⟨e1 Ty,trivial,trivial⟩⟩⟩,⟨e1 anU,⟨e1 Vx,⟨e1 TO,trivial,trivial⟩,⟨e1 T',trivial,trivial⟩⟩,⟨e1 ajx,⟨e1 T3,trivial,trivial⟩,⟨e1 Tg,trivial,trivial⟩⟩⟩⟩,⟨e1 anE,⟨e1 KL,⟨e1 an',⟨e1 ajH,trivial,trivial⟩,⟨e1 aj',trivial,trivial⟩⟩,⟨e1 ajr,⟨e1 UA,trivial,trivial⟩,⟨e1 TM,trivial,trivial⟩⟩⟩,⟨e1 VD,⟨e1 KA,⟨e1 ajP,trivial,trivial⟩,⟨e1 Uu,trivial,trivial⟩⟩,⟨e1 Um,⟨e1 T7,trivial,trivial⟩,⟨e1 TR,trivial,trivial⟩⟩⟩⟩⟩⟩⟩,⟨e0,⟨e1 ok4,⟨e1 ok8,⟨e1 ans,⟨e1 anH,⟨e1 KI,⟨e1 Up,⟨e1 TL,trivial,trivial⟩,trivial⟩,⟨e1 S9,trivial,trivial⟩⟩,⟨e1 Vo,⟨e1 ajS,trivial,trivial⟩,⟨e1 akh,trivial,trivial⟩⟩⟩,⟨e1 anQ,⟨e1 aoc,⟨e1 ajK,trivial,trivial⟩,⟨e1 akc,trivial,trivial⟩⟩,⟨e1 aju,⟨e1 TJ,trivial,trivial⟩,⟨e1 Ue,trivial,trivial⟩⟩⟩⟩,⟨e1 anA,⟨e1 Vd,⟨e1 an7,⟨e1 ajF,trivial,trivial⟩,⟨e1 Td,trivial,trivial⟩⟩,⟨e1 ajn,⟨e1 TK,trivial,trivial⟩,⟨e1 Tz,trivial,trivial⟩⟩⟩,⟨e1 V',⟨e1 aoh,⟨e1 ajO,trivial,trivial⟩,⟨e1 Uc,trivial,trivial⟩⟩,⟨e1 Ux,⟨e1 Tn,trivial,trivial⟩,⟨e1 akj,trivial,trivial⟩⟩⟩⟩⟩,⟨e1 anp,⟨e1 anw,⟨e1 anL,⟨e1 an3,⟨e1 ajB,⟨e1 JB,trivial,trivial⟩,trivial⟩,⟨e1 Uf,trivial,trivial⟩⟩,⟨e1 ajj,⟨e1 ajW,trivial,trivial⟩,⟨e1 S8,trivial,trivial⟩⟩⟩,⟨e1 anT,⟨e1 Vw,⟨e1 ajM,trivial,trivial⟩,⟨e1 T8,trivial,trivial⟩⟩,⟨e1 TN,⟨e1 aj2,trivial,trivial⟩,⟨e1 UE,trivial,trivial⟩⟩⟩⟩,⟨e1 anD,⟨e1 Wt,⟨e1 V9,⟨e1 UI,trivial,trivial⟩,⟨e1 aj9,trivial,trivial⟩⟩,⟨e1 ajq,⟨e1 Uw,trivial,trivial⟩,⟨e1 JK,trivial,trivial⟩⟩⟩,⟨e1 VG,⟨e1 V8,⟨e1 Th,trivial,trivial⟩,⟨e1 Ut,trivial,trivial⟩⟩,⟨e1 Ul,⟨e1 aj7,trivial,trivial⟩,⟨e1 Jz,trivial,trivial⟩⟩⟩⟩⟩⟩,⟨e1 ok6,⟨e1 Wv,⟨e1 anu,⟨e1 anJ,⟨e1 an1,⟨e1 JC,⟨e1 Tk,trivial,trivial⟩,trivial⟩,⟨e1 TB,trivial,trivial⟩⟩,⟨e1 aoi,⟨e1 ajU,trivial,trivial⟩,⟨e1 T1,trivial,trivial⟩⟩⟩,⟨e1 anS,⟨e1 aoe,⟨e1 Un,trivial,trivial⟩,⟨e1 ake,trivial,trivial⟩⟩,⟨e1 ajw,⟨e1 To,trivial,trivial⟩,⟨e1 Te,trivial,trivial⟩⟩⟩⟩,⟨e1 anB,⟨e1 Wq,⟨e1 an9,⟨e1 ajG,trivial,trivial⟩,⟨e1 Ti,trivial,trivial⟩⟩,⟨e1 ajo,⟨e1 Ua,trivial,trivial⟩,⟨e1 JI,trivial,trivial⟩⟩⟩,⟨e1 anX,⟨e1 F5,⟨e1 TF,trivial,trivial⟩,⟨e1 Ud,trivial,trivial⟩⟩,⟨e1 JQ,⟨e1 aj5,trivial,trivial⟩,⟨e1 akl,trivial,trivial⟩⟩⟩⟩⟩,⟨e1 anr,⟨e1 Wm,⟨e1 anN,⟨e1 an5,⟨e1 ajD,trivial,trivial⟩,⟨e1 Tw,trivial,trivial⟩⟩,⟨e1 ajl,⟨e1 T6,trivial,trivial⟩,⟨e1 TD,trivial,trivial⟩⟩⟩,⟨e1 anV,⟨e1 aog,⟨e1 ajN,trivial,trivial⟩,⟨e1 Uh,trivial,trivial⟩⟩,⟨e1 ajy,⟨e1 aj3,trivial,trivial⟩,⟨e1 Tj,trivial,trivial⟩⟩⟩⟩,⟨e1 anF,⟨e1 anO,⟨e1 aoa,⟨e1 ajI,trivial,trivial⟩,⟨e1 aka,trivial,trivial⟩⟩,⟨e1 ajs,⟨e1 ajZ,trivial,trivial⟩,⟨e1 TY,trivial,trivial⟩⟩⟩,⟨e1 anY,⟨e1 VF,⟨e1 ajQ,trivial,trivial⟩,⟨e1 akf,trivial,trivial⟩⟩,⟨e1 UC,⟨e1 TA,trivial,trivial⟩,⟨e1 S',trivial,trivial⟩⟩⟩⟩⟩⟩⟩⟩
theorem I1(f:FuncId)(fn:Func)(c:Code)(h:CQ.get f=some (fn,c)):qu prog f fn c:=Iq ac2 f (fn,c) h
end Go.Proofs.Tryz.K
