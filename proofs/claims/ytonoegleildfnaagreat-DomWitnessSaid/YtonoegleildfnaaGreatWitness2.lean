/- Part 2 of the proof; the last part says what is proved. -/
import Derived.Test.YtonoegleildfnaaGreatWitness1
import Derived.IntWalk
import Derived.ProofKit
import Derived.RangeFuncRecord
import Derived.Scope
import Derived.Test.YtonoegleildfnaaGreatChecked
import Derived.Test.YtonoegleildfnaaGreatProg
set_option linter.unusedVariables false
set_option linter.unusedSimpArgs false
namespace Go.Abs
section
variable{P:Program}{F:Nat->Prop}
theorem Pd{β β':Pla}{w:World}{m:Mem}(hm:MSim P F m β w){i:Nat}{cs:List D}{e:TypeId}(ay:m i=some (.cells cs e))(hβ:β'=up β i (some .dead)){d:D}{v:Value}(h:R F β w d v):
 R F β' w (fz0 i cs (P.cellsOf e) d) v:=by
 have hs:Step β w β' w:=by rw[hβ];exact step_dead β w i
 have X:=h.step hs;obtain⟨p,hp,hr⟩:=hm.row i _ ay;unfold fz0;split
 .rename_i j off n;split
  .rename_i U;subst U;cases h with
   |rsd _ _ _ _ h1 _=>
    rw[h1] at hp;cases hp;cases hr
   |rsn _ a h1=>
    rw[h1] at hp;cases hp;cases hr;simp only[List.drop_nil,List.take_nil];exact .sln a 0
   |rsz _ _ a b o len room sz h1=>
    simp only[Nat.zero_mul,List.take_zero];exact .sln a 0
   |rs _ _ _ cap b o len room sz h1 hn fx h2 h3=>
    rw[h1] at hp;cases hp;have sW:β j=some (.cells b o len room sz):=h1;obtain⟨df,hl,cA,_⟩:=hr.rd;have J:=(df.drop off).take (n*P.cellsOf e);obtain⟨us,u1,u2⟩:=J;refine .sl _ n b (o+off) cap us (hm.nf j _ b sW rfl) ?_ (hm.lt j _ b sW rfl) hn fx u1 fun k d hk=>(u2 k d hk).step hs;rw[hβ];intro k q hq;by_cases C:k=j
    .subst C;rw[up_same] at hq;cases hq;simp[Pl.blk]
    .rw[up_ne _ _ C] at hq;exact hm.free_other sW rfl hq C
  .exact X
 .rename_i j off;split
  .rename_i U;subst U;cases h with
   |rpd _ _ _ h1 _=>
    rw[h1] at hp;cases hp;cases hr
   |rp _ _ b o len room sz h1=>
    rw[h1] at hp;cases hp;obtain⟨df,hl,cA,_⟩:=hr.rd;obtain⟨us,u1,u2⟩:=df.drop off;refine .pt _ b (o+off) us (hm.nf j _ b h1 rfl) ?_ (hm.lt j _ b h1 rfl) u1 fun k d hk=>(u2 k d hk).step hs;rw[hβ];intro k q hq;by_cases C:k=j
    .subst C;rw[up_same] at hq;cases hq;simp[Pl.blk]
    .rw[up_ne _ _ C] at hq;exact hm.free_other h1 rfl hq C
  .exact X
 .exact X
theorem ZY{β β':Pla}{w:World}{m:Mem}(hm:MSim P F m β w){i:Nat}{es:List (Value×D)}(ay:m i=some (.map es))(X:β'=up β i (some .dead)){d:D}{v:Value}(h:R F β w d v):R F β' w (fm0 i es d) v:=by
 have J:Step β w β' w:=by rw[X];exact step_dead β w i
 unfold fm0;split
 .rename_i j;split
  .rename_i c7;subst c7;obtain⟨r,ms,clock,h1,rfl,h3,h4,h5,U⟩:=h.mp_inv hm ay;refine .im es r ms clock (hm.nf j _ r h1 rfl) ?_ h3 h4 h5 (fun k x m hx hm=>(U k x m hx hm).1) fun k x m hx hm=>(U k x m hx hm).2.step J;rw[X];intro k q hq;by_cases C:k=j
   .subst C;rw[up_same] at hq;cases hq;simp[Pl.blk]
   .rw[up_ne _ _ C] at hq;exact hm.free_other h1 rfl hq C
  .exact h.step J
 .exact h.step J
section subst
variable{σ:D->D}{β β':Pla}{w:World}
theorem Oj(C:∀ {d v},R F β w d v->R F β' w (σ d) v){d:D}{v:Value}(h:R F β w d v):R F β' w (sub1 σ d) v:=by
 unfold sub1;split
 .rename_i ds;obtain⟨vs,rfl,hl,J⟩:=h.agg_inv;refine .agg _ vs (by simpa using hl) fun k d v hd hv=>?_;simp only[List.getElem?_map,dw] at hd;obtain⟨d',U,rfl⟩:=hd;exact C (J k d' v U hv)
 .cases h with
  |opt c d _ h1 h2=>exact .opt _ _ v (fun hc=>C (h1 hc)) h2
 .exact C h
theorem FX(J:∀ {d v},R F β w d v->R F β' w (σ d) v){d:D}{v:Value}(h:R F β w d v):R F β' w (sub σ d) v:=by
 have map:∀ (ds:List D) (vs:List Value),(∀ (k:Nat) (d:D) (v:Value),ds[k]? =some d->vs[k]? =some v->R F β w d v)->
  ∀ (k:Nat) (d:D) (v:Value),(ds.map (sub1 σ))[k]? =some d->vs[k]? =some v->R F β' w d v:=fun ds vs C k d v hd hv=>by
  simp only[List.getElem?_map,dw] at hd;obtain⟨d',U,rfl⟩:=hd;exact Oj J (C k d' v U hv)
 unfold sub;split
 .rename_i ds;obtain⟨vs,rfl,hl,C⟩:=h.tup_inv;exact .tup _ vs (by simpa using hl) (map ds vs C)
 .rename_i f fs ds;cases h with
  |fn _ _ _ us vs hl mK h1 h2=>exact .fn f _ _ us vs (by simpa using hl) (by simpa using mK) (map fs us h1) (map ds vs h2)
 .exact Oj J h
theorem abg(U:∀ {d v},R F β w d v->R F β' w (σ d) v)(hs:Step β w β' w){r:Row}{p:Pl}(h:RowR P F β w r p):RowR P F β' w (r.sub σ) p:=by
 cases h with
 |nil C=>exact .nil C
 |cells ds C b o room sz c hc hr hlen cA J=>
  have:=RowR.cells (P:=P) (F:=F) (β:=β') (w:=w) (ds.map (Abs.sub σ)) C b o room sz c hc hr (by simpa using hlen) cA fun k d hk=>by
   simp only[List.getElem?_map,dw] at hk;obtain⟨d',td,rfl⟩:=hk;obtain⟨v,h1,h2,h3⟩:=J k d' td;exact⟨v,h1,FX U h2,h3⟩
  simpa[Row.sub] using this
 |map es r ms clock hc hl dZ J=>
  refine .map _ r ms clock hc (by simpa using hl) (by simpa[List.map_map,Function.comp_def] using dZ) fun k x mm hk X=>?_;simp only[List.getElem?_map,dw] at hk;obtain⟨x',rP,rfl⟩:=hk;obtain⟨h1,h2⟩:=J k x' mm rP X;exact⟨h1,FX U h2⟩
 |raw r o hc=>exact .raw r o hc
 |ren f r _ F₂ h1 h2 h=>exact(RowR.ren f r p F₂ h1 h2 h).step hs fun _ _=>rfl
end subst
theorem NG{σ:D->D}{env:Env}{m:Mem}{nx i:Nat}{row:Row}(h:m i=some row){w:World}{a:Act}{β:Pla}(J:fm P F ⟨env,m,nx⟩ β w a)(hσ:∀ {d v},R F β w d v->R F (up β i (some .dead)) w (σ d) v):
 ∃ β',fm P F ⟨fun t=>sub σ (env t),fun j=>if j=i then none else(m j).map (Row.sub σ),nx⟩ β' w a/\iH nx β w a ⟨fun t=>sub σ (env t),fun j=>if j=i then none else(m j).map (Row.sub σ),nx⟩ β' w a:=by
 have X:=step_dead β w i;have hm:=J.m;simp only at hm
 have U:∀ j q b,up β i (some .dead) j=some q->q.blk=some b->j≠i/\β j=some q:=fun j q b hq e=>by
  by_cases hj:j=i
  .subst hj;rw[up_same] at hq;cases hq;simp[Pl.blk] at e
  .rw[up_ne _ _ hj] at hq;exact⟨hj,hq⟩
 have hi:∃ p,β i=some p:=by
  obtain⟨p,hp,_⟩:=hm.row i _ h;exact⟨p,hp⟩
 refine⟨up β i (some .dead),⟨fun t=>FX hσ (J.e t),⟨fun j r hj=>?_,fun j k q q' b hq ir e1 e2=>hm.inj j k q q' b (U j q b hq e1).2 (U k q' b ir e2).2 e1 e2,
  fun j q b hq e1=>hm.lt j q b (U j q b hq e1).2 e1,fun j q b hq e1=>hm.nf j q b (U j q b hq e1).2 e1,hm.fb⟩,fun j hj=>?_⟩,⟨X,bP _,fun j hj hn=>?_,rfl,rfl⟩⟩
 .simp only at hj;by_cases C:j=i
  .rw[if_pos C] at hj;cases hj
  .rw[if_neg C] at hj;simp only[dw] at hj;obtain⟨r',gN,rfl⟩:=hj;obtain⟨q,hq,ay⟩:=hm.row j r' gN;exact⟨q,by rw[up_ne _ _ C];exact hq,abg hσ X ay⟩
 .have C:j≠i:=fun e1=>by
   subst e1;obtain⟨p,hp⟩:=hi;rw[J.n j hj] at hp;cases hp
  rw[up_ne _ _ C];exact J.n j hj
 .have C:j≠i:=fun e1=>by
   subst e1;obtain⟨p,hp⟩:=hi;rw[hn] at hp;cases hp
  rw[up_ne _ _ C];exact hn
theorem ZZ{β:Pla}{w:World}{cs cs':List D}{e:TypeId}{p:Pl}(hl:cs'.length=cs.length)(U:∀ (k:Nat) (d d':D),cs[k]? =some d->cs'[k]? =some d'->Wk d d')(h:RowR P F β w (.cells cs e) p):RowR P F β w (.cells cs' e) p:=by
 cases h with
 |nil _=>
  have:cs'=[]:=List.length_eq_zero_iff.1 (by simpa using hl);subst this;exact .nil e
 |cells _ _ b o room sz c hc hr hlen cA J=>
  rw[<- hl];refine .cells cs' e b o room sz c hc hr oG cA fun k d' C=>?_;have hk:k<cs.length:=by rw[<- hl];exact(bL.1 C).1
  obtain⟨v,h1,h2,h3⟩:=J k cs[k] (by simp[hk]);exact⟨v,h1,U k cs[k] d' (by simp[hk]) C _ _ _ _ h2,h3⟩
theorem NH{st st':St}(h:Ghost P st st'){w:World}{a:Act}:∀ {β:Pla},fm P F st β w a->∃ β',fm P F st' β' w a/\iH st.nx β w a st' β' w a:=by
 induction h with
 |refl st=>exact fun {β} C=>⟨β,C,iH.refl st β w a⟩
 |trans _ _ ih₁ ih₂=>
  intro β C;obtain⟨β₁,h1,h2⟩:=ih₁ C;obtain⟨β₂,h3,h4⟩:=ih₂ h1;exact⟨β₂,h3,h2.trans h4⟩
 |forget env env' m nx h=>
  intro β C;refine⟨β,⟨fun t=>?_,C.m,C.n⟩,⟨Step.refl β w,bP _,fun _ _ h=>h,rfl,rfl⟩⟩;rcases h t with h1|h1
  .simp only[h1];exact C.e t
  .simp only[h1];exact .u _
 |drop env m m' nx h=>
  intro β C;refine⟨β,⟨C.e,⟨fun i r hi=>?_,C.m.inj,C.m.lt,C.m.nf,C.m.fb⟩,C.n⟩,⟨Step.refl β w,bP _,fun _ _ h=>h,rfl,rfl⟩⟩;rcases h i with h1|h1
  .exact C.m.row i r (h1.symm.trans hi)
  .simp only at hi;rw[h1] at hi;cases hi
 |weak env env' m m' nx h eX=>
  intro β C;refine⟨β,⟨fun t=>h t _ _ _ _ (C.e t),⟨fun i r hi=>?_,C.m.inj,C.m.lt,C.m.nf,C.m.fb⟩,C.n⟩,⟨Step.refl β w,bP _,fun _ _ h=>h,rfl,rfl⟩⟩;rcases eX i with h1|⟨cs,cs',e,h1,h2,h3,h4⟩
  .exact C.m.row i r (h1.symm.trans hi)
  .simp only at hi;rw[h2] at hi;cases hi;obtain⟨p,hp,hr⟩:=C.m.row i _ h1;exact⟨p,hp,ZZ h3 h4 hr⟩
 |freeze env m nx i cs e h=>
  intro β C;exact NG h C fun hr=>Pd C.m h rfl hr
 |freezeM env m nx i es h=>
  intro β C;exact NG h C fun hr=>ZY C.m h rfl hr
 |nilrow env m nx t e h=>
  intro β C;have hm:=C.m;have hn:β nx=none:=C.n nx (bP _);simp only at hm
  have J:∀ j q b,up β nx (some .nil) j=some q->q.blk=some b->j≠nx/\β j=some q:=fun j q b hq e=>by
   by_cases hj:j=nx
   .subst hj;rw[up_same] at hq;cases hq;simp[Pl.blk] at e
   .rw[up_ne _ _ hj] at hq;exact⟨hj,hq⟩
  have X:Step β w (up β nx (some .nil)) w:=by
   refine⟨bP _,fun b _ hf=>⟨rfl,fun j q hq e1=>?_⟩,fun j q hq=>.inl ?_,rfl,rfl⟩
   .exact hf j q (J j q b hq e1).2 e1
   .rw[up_ne _ _ (fun e1=>by rw[e1,hn] at hq;cases hq)];exact hq
  refine⟨up β nx (some .nil),⟨fun u=>?_,⟨fun j r hj=>?_,fun j k q q' b hq ir e1 e2=>hm.inj j k q q' b (J j q b hq e1).2 (J k q' b ir e2).2 e1 e2,
   fun j q b hq e1=>hm.lt j q b (J j q b hq e1).2 e1,fun j q b hq e1=>hm.nf j q b (J j q b hq e1).2 e1,hm.fb⟩,fun j hj=>?_⟩,⟨X,Nat.le_succ _,fun j hj hb=>?_,rfl,rfl⟩⟩
  .by_cases hu:u=t
   .subst hu;have h1:=C.e u;simp only at h1;rw[h] at h1;obtain⟨x,hx⟩:=h1.z_inv;simp only[up_same,hx];exact .rsn nx x (up_same _ _ _)
   .simp only[up_ne _ _ hu];exact(C.e u).step X
  .simp only at hj;by_cases U:j=nx
   .subst U;rw[up_same] at hj;cases hj;exact⟨.nil,up_same _ _ _,.nil e⟩
   .rw[up_ne _ _ U] at hj;obtain⟨q,hq,ay⟩:=hm.row j r hj;exact⟨q,by rw[up_ne _ _ U];exact hq,ay.step X fun _ _=>rfl⟩
  .simp only at hj;rw[up_ne _ _ (show j≠nx by omega)];exact C.n j (by simp only;omega)
  .simp only at hj;rw[up_ne _ _ (show j≠nx by omega)];exact hb
def kY(N:Nat):Code->Bool
 | .region _ ops _=>zq N ops
 | .seq a b=>kY N a&&kY N b
 | .cond _ a b=>kY N a&&kY N b
 | .block _ b=>kY N b
 | .loop b=>kY N b
 | .scope b=>kY N b
 | .rangeFunc _ ps a b=>(ps.toList.all fun t=>Nat.blt t N)&&(kY N a&&kY N b)
 |_=>true
theorem Xs{Fc:Fence}{n:Nat}{Q:Exit->Act->World->Prop}{c:Code}(J:Nat->Act->World->Prop){j₀:Nat}{a:Act}{w:World}(h₀:J j₀ a w)
 (round:∀ j a w,J j a w->c.wpIn Fc n P (Exit.then (fun a' w'=>∃ j',j'<j/\J j' a' w') Q) a w):(Code.loop c).wpIn Fc n P Q a w:=by
 intro b k cs Me hb hr
 have key:∀ j a w,J j a w->
  ∃ e a' w',Q e a' w'/\ArrivesIn (Machine.fenced P Fc) P (lone (b.atR a (.code c::.inLoop c::k)) cs w) b k cs e a' w':=by
  intro j
  induction j using Nat.strongRecOn with
  |_ j ih=>
   intro a w hI;obtain⟨e,U,X,hq,C⟩:=round j a w hI b (.inLoop c::k) cs Me hb hr;cases e with
   |normal=>
    obtain⟨j',ap,hI₁⟩:=hq;obtain⟨e₂,a₂,w₂,hq₂,ac6⟩:=ih j' ap U X hI₁;exact⟨e₂,a₂,w₂,hq₂,.of_steps (StepsIn.trans C (.one (fenced_calm hb hr rfl) stepR_inLoop)) ac6⟩
   |exit id=>exact⟨_,U,X,hq,.pass (x:=.inLoop c) rfl (fun _ _=>.inl oS) C⟩
   |goto l=>exact⟨_,U,X,hq,.pass (x:=.inLoop c) rfl (fun _ _=>.inl oS) C⟩
   |ret=>exact⟨_,U,X,hq,.pass (x:=.inLoop c) rfl (fun _ _=>.inl oS) C⟩
   |panic ch=>exact⟨_,U,X,hq,.pass (x:=.inLoop c) rfl (fun _ _=>.inl oS) C⟩
   |outgrown=>exact⟨_,U,X,hq,.pass (x:=.inLoop c) rfl (fun _ _=>.inl oS) C⟩
 obtain⟨e,a',w',hq,C⟩:=key _ a w h₀;exact⟨e,a',w',hq,.of_steps (.one (fenced_calm hb hr rfl) stepR_loop) C⟩
def mark(b:Nat):Deferred:={ target:=.collected b,args:= #[] }
def Marks(β:Pla)(w:World)(lo:Nat):List Deferred->Nat->Prop
 |[],_=>True
 |d::ds,hi=>∃ b,d=mark b/\lo<=b/\b<hi/\w.heap[b]? =some (.deferred (some []))/\β.free b/\Marks β w lo ds b
theorem Marks.step{β β':Pla}{w w':World}(C:Step β w β' w'){lo:Nat}:∀ {ds:List Deferred} {hi:Nat},hi<=w.heap.size->Marks β w lo ds hi->Marks β' w' lo ds hi
 |[],_,_,_=>trivial
 |d::ds,hi,hle,⟨b,h1,h2,h3,h4,h5,h6⟩=>by
  obtain⟨J,U⟩:=C.imm b oG h5;exact⟨b,h1,h2,h3,J.trans h4,U,Marks.step C oG h6⟩
theorem Marks.mono{β:Pla}{w:World}{lo hi C:Nat}(h:hi<=C):∀ {ds:List Deferred},Marks β w lo ds hi->Marks β w lo ds C
 |[],_=>trivial
 |_::_,⟨b,h1,h2,h3,h4⟩=>⟨b,h1,h2,oG,h4⟩
theorem Marks.append{β:Pla}{w:World}{lo mid:Nat}(J:lo<=mid){C:List Deferred}:∀ {ds:List Deferred} {hi:Nat},mid<=hi->Marks β w mid ds hi->Marks β w lo C mid->Marks β w lo (ds++C) hi
 |[],_,hle,_,h'=>Marks.mono hle h'
 |_::_,_,_,⟨b,h1,h2,h3,h4,h5,h6⟩,h'=>⟨b,h1,oG,h3,h4,h5,Marks.append J h2 h6 h'⟩
structure rQ(N:Nat)(β:Pla)(w:World)(a:Act)(st':St)(β':Pla)(w':World)(a':Act):Prop where
 step:Step β w β' w'
 le:N<=st'.nx
 grow:∀ i,i<N->β i=none->β' i=none
 size:a'.tmps.size=a.tmps.size
 defers:∃ ds,a'.defers=ds++a.defers/\Marks β' w' w.heap.size ds w'.heap.size
theorem iH.zS{N:Nat}{β β':Pla}{w w':World}{a a':Act}{st':St}(h:iH N β w a st' β' w' a'):rQ N β w a st' β' w' a':=
 ⟨h.step,h.le,h.grow,h.size,[],h.defers,trivial⟩
theorem rQ.trans{N:Nat}{β β₁ β₂:Pla}{w U X:World}{a C J:Act}{yf yg:St}(h:rQ N β w a yf β₁ U C)(k:rQ yf.nx β₁ U C yg β₂ X J):rQ N β w a yg β₂ X J:=by
 obtain⟨ds,e1,h1⟩:=h.defers;obtain⟨ye,e2,h2⟩:=k.defers
 exact⟨h.step.trans k.step,Nat.le_trans h.le k.le,fun i hi hn=>k.grow i (Nat.lt_of_lt_of_le hi h.le) (h.grow i hi hn),k.size.trans h.size,ye++ds,by rw[e2,e1,List.append_assoc],
  Marks.append h.step.size k.step.size h2 (h1.step k.step (bP _))⟩
theorem rQ.since{N:Nat}{β β₁ β₂:Pla}{w U X:World}{a C J:Act}{yf yg:St}(h:rQ N β w a yf β₁ U C)(k:iH yf.nx β₁ U C yg β₂ X J):rQ N β w a yg β₂ X J:=h.trans k.zS
def ac7(P:Program)(F:Nat->Prop)(N:Nat)(β:Pla)(w:World)(a:Act)(Q:Exit->St->Prop)(e:Exit)(a':Act)(w':World):Prop:=
 ∃ st' β',Q e st'/\fm P F st' β' w' a'/\rQ N β w a st' β' w' a'
theorem YCall.base{J:Pla}{C:World}{β:Pla}{w:World}(X:Step J C β w){l:Nat}{args:List D}{m:Mem}{nx:Nat}{K:D->Mem->Nat->Prop}(h:YCall P F J C l args m nx K):YCall P F β w l args m nx K:=
 fun β' w' us U=>h β' w' us (X.trans U)
theorem free_other{β:Pla}{i:Nat}{p:Option Pl}{b:Nat}(h:β.free b)(hp:∀ q,p=some q->q.blk≠some b):Pla.free (up β i p) b:=fun j q hq=>by
 by_cases hj:j=i
 .subst hj;rw[up_same] at hq;exact hp q hq
 .rw[up_ne _ _ hj] at hq;exact h j q hq
theorem R.uA{β:Pla}{w:World}{l:Nat}(hF:F l)(o:Obj){d:D}{v:Value}(h:R F β w d v):R F β (w.putObj l o) d v:=
 h.gen oS (fun b _ hb hf=>⟨same_of (World.putObj_heap_other fun e=>hb (e▸hF)),hf,hb⟩) fun _ _ _ h=>.inl h
theorem RowR.uA{β:Pla}{w:World}{l:Nat}(hF:F l)(o:Obj){r:Row}{p:Pl}(hp:∀ b,p.blk=some b->b≠l)(h:RowR P F β w r p):RowR P F β (w.putObj l o) r p:=
 h.gen oS (fun b _ hb hf=>⟨same_of (World.putObj_heap_other fun e=>hb (e▸hF)),hf,hb⟩) (fun _ _ _ h=>.inl h) fun b hb=>World.putObj_heap_other (hp b hb)
theorem MSim.uA{m:Mem}{β:Pla}{w:World}{l:Nat}(hF:F l)(o:Obj)(h:MSim P F m β w):MSim P F m β (w.putObj l o):=
 ⟨fun i r hi=>by
  obtain⟨p,hp,hr⟩:=h.row i r hi
  exact⟨p,hp,hr.uA hF o fun b hb e=>h.nf i p b hp hb (e▸hF)⟩,h.inj,fun i p b hp hb=>by simpa using h.lt i p b hp hb,h.nf,fun b hb=>by simpa using h.fb b hb⟩
theorem fm.uA{st:St}{β:Pla}{w:World}{a:Act}{l:Nat}(hF:F l)(o:Obj)(h:fm P F st β w a):fm P F st β (w.putObj l o) a:=
 ⟨fun t=>(h.e t).uA hF o,h.m.uA hF o,h.n⟩
theorem R.weak{F':Nat->Prop}(hF:∀ b,F' b->F b){β:Pla}{w:World}{d:D}{v:Value}(h:R F β w d v):R F' β w d v:=
 h.gen (bP _) (fun b _ hb hf=>⟨SameB.refl w b,hf,fun e=>hb (hF b e)⟩) fun _ _ _ h=>.inl h
theorem MSim.weak{F':Nat->Prop}(hF:∀ b,F' b->F b){m:Mem}{β:Pla}{w:World}(h:MSim P F m β w):MSim P F' m β w:=
 ⟨fun i r hi=>by
  obtain⟨p,hp,hr⟩:=h.row i r hi
  exact⟨p,hp,hr.gen (bP _) (fun b _ hb hf=>⟨SameB.refl w b,hf,fun e=>hb (hF b e)⟩) (fun _ _ _ h=>.inl h) fun _ _=>rfl⟩,h.inj,h.lt,fun i p b hp hb e=>h.nf i p b hp hb (hF b e),fun b hb=>h.fb b (hF b hb)⟩
theorem Pe{β:Pla}{b:Nat}(h:¬ β.free b):∃ i p,β i=some p/\p.blk=some b:=by
 unfold Pla.free at h;simp only[Classical.not_forall] at h;obtain⟨i,p,hp,hb⟩:=h;exact⟨i,p,hp,Decidable.not_not.1 hb⟩
structure View(il n₀:Nat)(f:Nat->Option Nat)(mc:Mem)(nc:Nat)(m:Mem)(nx:Nat):Prop where
 low:n₀<=nc
 lt:il<nx
 id:∀ i,i<n₀->f i=some i
 HD:∀ i,i<nc->∃ j,f i=some j/\j<nx/\j≠il
 out:∀ i,nc<=i->f i=none
 inj:∀ i i' j,f i=some j->f i'=some j->i=i'
 rows:∀ i r,mc i=some r->∃ j,f i=some j/\m j=some (r.renB f)
theorem View.xK{il n₀:Nat}{f:Nat->Option Nat}{mc:Mem}{nc:Nat}{m:Mem}{nx:Nat}(h:View il n₀ f mc nc m nx){i j:Nat}(hf:f i=some j):i<nc/\j<nx/\j≠il:=by
 rcases Nat.lt_or_ge i nc with ap|C
 .obtain⟨j',h1,h2,h3⟩:=h.HD i ap;rw[hf] at h1;cases h1;exact⟨ap,h2,h3⟩
 .rw[h.out i C] at hf;cases hf
theorem View.ext{il n₀:Nat}{f:Nat->Option Nat}{mc:Mem}{nc:Nat}{m m':Mem}{nx nx':Nat}(h:View il n₀ f mc nc m nx)(C:nx<=nx')(he:∀ i,i<nx->m' i=m i):View il n₀ f mc nc m' nx':=
 ⟨h.low,Nat.lt_of_lt_of_le h.lt C,h.id,fun i hi=>by
  obtain⟨j,h1,h2,h3⟩:=h.HD i hi;exact⟨j,h1,oG,h3⟩,h.out,h.inj,fun i r hi=>by
  obtain⟨j,h1,h2⟩:=h.rows i r hi
  exact⟨j,h1,(he j (h.xK h1).2.1).trans h2⟩⟩
theorem YL{f:Nat->Option Nat}{m:Mem}{β:Pla}{w:World}(hm:MSim P F m β w){b:Nat}(h:hidden F β f b):b<w.heap.size:=by
 rcases h with h|⟨h,_⟩
 .exact hm.fb b h
 .obtain⟨i,p,hp,hb⟩:=Pe h;exact hm.lt i p b hp hb
theorem View.enter{il n₀:Nat}{f:Nat->Option Nat}{mc:Mem}{nc:Nat}{m:Mem}{nx:Nat}(h:View il n₀ f mc nc m nx){β:Pla}{w:World}(hm:MSim P F m β w):
 MSim P (hidden F β f) mc (β.via f) w/\∀ i,nc<=i->(β.via f) i=none:=by
 have look:∀ i p,(β.via f) i=some p->∃ j,f i=some j/\β j=some p:=fun i p hp=>Option.bind_eq_some_iff.1 hp;refine⟨⟨fun i r hi=>?_,fun i i' p q b hp hq e C=>?_,fun i p b hp e=>?_,fun i p b hp e hF=>?_,fun b hb=>YL hm hb⟩,fun i hi=>?_⟩
 .obtain⟨j,h1,h2⟩:=h.rows i r hi;obtain⟨p,hp,hr⟩:=hm.row j _ h2;exact⟨p,by simp[Pla.via,h1,hp],hr.seen⟩
 .obtain⟨j,h1,h2⟩:=look i p hp;obtain⟨j',h3,h4⟩:=look i' q hq;have:=hm.inj j j' p q b h2 h4 e C;subst this;exact h.inj i i' j h1 h3
 .obtain⟨j,h1,h2⟩:=look i p hp;exact hm.lt j p b h2 e
 .obtain⟨j,h1,h2⟩:=look i p hp;rcases hF with hF|⟨_,hF⟩
  .exact hm.nf j p b h2 e hF
  .exact hF i p hp e
 .simp[Pla.via,h.out i hi]
theorem MSim.Bh{m:Mem}{β:Pla}{w:World}{i l:Nat}{o:Obj}(h:MSim P F m β w)(hm:m i=some (.raw l o)):β i=some (.raw l)/\w.heap[l]? =some o/\¬ F l/\l<w.heap.size:=by
 obtain⟨p,hp,hr⟩:=h.row i _ hm;cases hr with
 |raw _ _ hc=>exact⟨hp,hc,h.nf i _ l hp rfl,h.lt i _ l hp rfl⟩
theorem View.Ga{il n₀:Nat}{f:Nat->Option Nat}{mc:Mem}{nc:Nat}{m:Mem}{nx:Nat}(h:View il n₀ f mc nc m nx){β:Pla}{w:World}(hm:MSim P F m β w){j:Nat}{p:Pl}{b:Nat}(hj:∀ i,f i≠some j)(hp:β j=some p)(hb:p.blk=some b):
 (β.via f).free b/\hidden F β f b:=by
 have C:(β.via f).free b:=fun i q hq e=>by
  obtain⟨j',h1,h2⟩:=Option.bind_eq_some_iff.1 hq;exact hj i (hm.inj j' j q p b h2 hp e hb▸h1)
 exact⟨C,.inr ⟨fun e=>e j p hp hb,C⟩⟩
structure uo(l:Nat)(β:Pla)(w:World)(β':Pla)(w':World):Prop where
 size:w.heap.size<=w'.heap.size
 imm:∀ b,b<w.heap.size->b≠l->β.free b->w'.heap[b]? =w.heap[b]? /\β'.free b
 keep:∀ i p,β i=some p->β' i=some p\/β' i=some .dead
 out:Out w w'
theorem Step.x{β β':Pla}{w w':World}(h:Step β w β' w')(l:Nat):uo l β w β' w':=⟨h.size,fun b hb _=>h.imm b hb,h.keep,h.out⟩
theorem uo.trans{l:Nat}{β₁ β₂ β₃:Pla}{J U X:World}(h:uo l β₁ J β₂ U)(k:uo l β₂ U β₃ X):uo l β₁ J β₃ X:=by
 refine⟨Nat.le_trans h.size k.size,fun b hb C hf=>?_,fun i p hp=>?_,h.out.trans k.out⟩
 .obtain⟨h1,h2⟩:=h.imm b hb C hf;obtain⟨k1,k2⟩:=k.imm b (Nat.lt_of_lt_of_le hb h.size) C h2;exact⟨k1.trans h1,k2⟩
 .rcases h.keep i p hp with h1|h1
  .exact k.keep i p h1
  .right;rcases k.keep i _ h1 with h2|h2<;>exact h2
theorem uo.put(l:Nat)(β:Pla)(w:World)(o:Obj):uo l β w β (w.putObj l o):=⟨oS,fun b _ C hf=>⟨World.putObj_heap_other C,hf⟩,fun _ _ h=>.inl h,rfl,rfl⟩
theorem Ol{n j:Nat}{f:Nat->Option Nat}(C:∀ i i' j,f i=some j->f i'=some j->i=i'):
 (∀ i,(List.range n).find? (fun i=>f i==some j)=some i->f i=some j/\i<n)/\(∀ i,i<n->f i=some j->(List.range n).find? (fun i=>f i==some j)=some i):=by
 refine⟨fun i hi=>⟨by simpa using List.find?_some hi,by simpa using List.mem_of_find?_eq_some hi⟩,fun i hi hf=>?_⟩;cases h:(List.range n).find? (fun i=>f i==some j) with
 |none=>
  have:=List.find?_eq_none.1 h i (by simpa using hi);simp[hf] at this
 |some k=>rw[C i k j hf (by simpa using List.find?_some h)]
theorem View.ac8{il n₀:Nat}{f:Nat->Option Nat}{mc:Mem}{nc:Nat}{m:Mem}{nx:Nat}(h:View il n₀ f mc nc m nx){β:Pla}{w:World}(hm:MSim P F m β w)(hn:∀ i,nx<=i->β i=none){l:Nat}{o o':Obj}(hl:m il=some (.raw l o))
 {m':Mem} {U:Nat} {β':Pla} {w':World} (kF:MSim P (hidden F β f) m' β' w') (hs:uo l (β.via f) w β' w') (dE:∀ i,U<=i->β' i=none) (hle:nc<=U) (hg:∀ i,i<nc->(β.via f) i=none->β' i=none) (ho:w'.heap[l]? =some o'):
 ∃ C X rF J,View il n₀ C m' U X rF/\X il=some (.raw l o')/\MSim P F X J w'/\(∀ i,rF<=i->J i=none)/\Step β w J w'/\nx<=rF/\∀ i,i<nx->β i=none->J i=none:=by
 obtain⟨Mf,jy,rR,ap⟩:=hm.Bh hl
 let C:Nat->Option Nat:=fun i=>if i<nc then f i else if i<U then some (nx+(i - nc)) else none
 have D3:∀ i,i<nc->C i=f i:=fun i hi=>by simp[C,hi]
 have Kv:∀ i,nc<=i->i<U->C i=some (nx+(i - nc)):=fun i h1 h2=>by simp[C,h2,Nat.not_lt.2 h1]
 have SL:∀ i,U<=i->C i=none:=fun i h1=>by simp[C,Nat.not_lt.2 h1,Nat.not_lt.2 (Nat.le_trans hle h1)]
 have y6:∀ i j,C i=some j->(f i=some j/\i<nc/\j<nx)\/(nc<=i/\i<U/\j=nx+(i - nc)):=fun i j hf=>by
  rcases Nat.lt_or_ge i nc with h1|h1
  .rw[D3 i h1] at hf;exact .inl ⟨hf,h.xK hf |>.1,(h.xK hf).2.1⟩
  .rcases Nat.lt_or_ge i U with h2|h2
   .rw[Kv i h1 h2] at hf;cases hf;exact .inr ⟨h1,h2,rfl⟩
   .rw[SL i h2] at hf;cases hf
 have Kw:∀ i i' j,C i=some j->C i'=some j->i=i':=fun i i' j h1 h2=>by
  rcases y6 i j h1 with⟨a1,a2,a3⟩|⟨a1,a2,a3⟩<;>rcases y6 i' j h2 with⟨b1,b2,b3⟩|⟨b1,b2,b3⟩
  .exact h.inj i i' j a1 b1
  .omega
  .omega
  .omega
 let inv:Nat->Option Nat:=fun j=>(List.range U).find? fun i=>C i==some j
 have zB:∀ i j,inv j=some i->C i=some j:=fun i j hi=>((Ol Kw).1 i hi).1;have Le:∀ i j,C i=some j->inv j=some i:=fun i j hf=>(Ol Kw).2 i (by rcases y6 i j hf with h1|h1<;>omega) hf
 have agp:∀ j,inv j=none->∀ i,f i≠some j:=fun j hj i hf=>by
  have:=Le i j (by rw[D3 i (h.xK hf).1];exact hf);rw[hj] at this;cases this
 let J:Pla:=fun j=>match inv j with|some i=>β' i|none=>β j
 let X:Mem:=fun j=>match inv j with|some i=>(m' i).map (Row.renB C)|none=>if j=il then some (.raw l o') else m j
 have βs:∀ i j,C i=some j->J j=β' i:=fun i j hf=>by simp[J,Le i j hf]
 have βn:∀ j,inv j=none->J j=β j:=fun j hj=>by simp[J,hj]
 have ach:inv il=none:=by
  cases hi:inv il with
  |none=>rfl
  |some i=>
   rcases y6 i il (zB i il hi) with⟨a1,a2,a3⟩|⟨a1,a2,a3⟩
   .exact absurd rfl (h.xK a1).2.2
   .have:=h.lt;omega
 have via:J.via C=β':=by
  funext i;simp only[Pla.via];cases hf:C i with
  |some j=>exact βs i j hf
  |none=>
   rcases Nat.lt_or_ge i U with h1|h1
   .rcases Nat.lt_or_ge i nc with h2|h2
    .obtain⟨j,h3,_⟩:=h.HD i h2;rw[D3 i h2,h3] at hf;cases hf
    .rw[Kv i h2 h1] at hf;cases hf
   .exact(dE i h1).symm
 have look:∀ j p,J j=some p->(∃ i,inv j=some i/\C i=some j/\β' i=some p)\/(inv j=none/\β j=some p):=fun j p hp=>by
  cases hi:inv j with
  |some i=>exact .inl ⟨i,rfl,zB i j hi,by rw[<- βs i j (zB i j hi)];exact hp⟩
  |none=>exact .inr ⟨rfl,by rw[<- βn j hi];exact hp⟩
 have agq:∀ b,β.free b->b≠l:=fun b hb e=>hb il _ Mf (e▸rfl)
 have imm:∀ b,b<w.heap.size->β.free b->w'.heap[b]? =w.heap[b]? /\J.free b:=fun b hb hf=>by
  obtain⟨h1,h2⟩:=hs.imm b hb (agq b hf) (Pla.free_via hf f);refine⟨h1,fun j p hp=>?_⟩;rcases look j p hp with⟨i,_,_,h4⟩|⟨_,h4⟩
  .exact h2 i p h4
  .exact hf j p h4
 have keep:∀ j p,β j=some p->J j=some p\/J j=some .dead:=fun j p hp=>by
  cases hi:inv j with
  |none=>exact .inl ((βn j hi).trans hp)
  |some i=>
   have hf:=zB i j hi;rw[βs i j hf];rcases y6 i j hf with⟨a1,a2,a3⟩|⟨a1,a2,a3⟩
   .exact hs.keep i p (by simp[Pla.via,a1,hp])
   .rw[hn j oG] at hp;cases hp
 have own:∀ j p b,inv j=none->β j=some p->p.blk=some b->hidden F β f b/\(b≠l->b<w.heap.size/\w'.heap[b]? =w.heap[b]?):=fun j p b hj hp hb=>by
  obtain⟨h1,h2⟩:=h.Ga hm (agp j hj) hp hb;exact⟨h2,fun aM=>⟨hm.lt j p b hp hb,(hs.imm b (hm.lt j p b hp hb) aM h1).1⟩⟩
 refine⟨C,X,nx+(U - nc),J,⟨Nat.le_trans h.low hle,by have:=h.lt;omega,fun i hi=>?_,fun i hi=>?_,SL,Kw,fun i r hi=>?_⟩,?_,⟨fun j r hj=>?_,fun i j p q b hp hq e e'=>?_,fun j p b hp e=>?_,fun j p b hp e hF=>?_,fun b hb=>?_⟩,fun i hi=>?_,⟨hs.size,imm,keep,hs.out⟩,oG,fun i hi hb=>?_⟩
 .rw[D3 i (Nat.lt_of_lt_of_le hi h.low)];exact h.id i hi
 .rcases Nat.lt_or_ge i nc with h1|h1
  .obtain⟨j,h2,h3,h4⟩:=h.HD i h1;exact⟨j,by rw[D3 i h1];exact h2,oG,h4⟩
  .exact⟨_,Kv i h1 hi,oG,by have:=h.lt;omega⟩
 .obtain⟨p,hp,_⟩:=kF.row i r hi
  have:∃ j,C i=some j:=by
   rw[<- via] at hp;obtain⟨j,h1,_⟩:=Option.bind_eq_some_iff.1 hp;exact⟨j,h1⟩
  obtain⟨j,hj⟩:=this;exact⟨j,hj,by simp[X,Le i j hj,hi]⟩
 .simp[X,ach]
 .cases hi:inv j with
  |some i=>
   simp only[X,hi,dw] at hj;obtain⟨r0,zT,rfl⟩:=hj;obtain⟨p,hp,hr⟩:=kF.row i r0 zT;refine⟨p,(βs i j (zB i j hi)).trans hp,RowR.hide (F':=hidden F β f) (by rw[via];exact hr) (fun b hb=>.inl hb) fun b g1 g2=>?_⟩;obtain⟨k,q,hq,V2⟩:=Pe g1;rcases look k q hq with⟨i',_,_,h4⟩|⟨h3,h4⟩
   .exact absurd V2 (g2 i' q (by rw[via];exact h4))
   .exact(own k q b h3 h4 V2).1
  |none=>
   simp only[X,hi] at hj;split at hj
   .rename_i e;subst e;cases hj;exact⟨.raw l,(βn j hi).trans Mf,.raw l o' ho⟩
   .rename_i aM;obtain⟨p,hp,hr⟩:=hm.row j r hj;refine⟨p,(βn j hi).trans hp,hr.gen hs.size (fun b hb g1 g2=>⟨same_of (imm b hb g2).1,(imm b hb g2).2,g1⟩) (fun i p _=>keep i p) fun b hb=>?_⟩;exact((own j p b hi hp hb).2 fun e=>aM (hm.inj j il p _ b hp Mf hb (e▸rfl))).2
 .rcases look i p hp with⟨i',a1,a2,a3⟩|⟨a1,a2⟩<;>rcases look j q hq with⟨j',b1,b2,b3⟩|⟨b1,b2⟩
  .have:=kF.inj i' j' p q b a3 b3 e e';subst this;rw[a2] at b2;cases b2;rfl
  .exact absurd (own j q b b1 b2 e').1 (kF.nf i' p b a3 e)
  .exact absurd (own i p b a1 a2 e).1 (kF.nf j' q b b3 e')
  .exact hm.inj i j p q b a2 b2 e e'
 .rcases look j p hp with⟨i',a1,a2,a3⟩|⟨a1,a2⟩
  .exact kF.lt i' p b a3 e
  .exact Nat.lt_of_lt_of_le (hm.lt j p b a2 e) hs.size
 .rcases look j p hp with⟨i',a1,a2,a3⟩|⟨a1,a2⟩
  .exact kF.nf i' p b a3 e (.inl hF)
  .exact hm.nf j p b a2 e hF
 .exact Nat.lt_of_lt_of_le (hm.fb b hb) hs.size
 .cases ef:inv i with
  |none=>exact(βn i ef).trans (hn i oG)
  |some i0=>
   rcases y6 i0 i (zB i0 i ef) with⟨a1,a2,a3⟩|⟨a1,a2,a3⟩<;>omega
 .cases ef:inv i with
  |none=>exact(βn i ef).trans hb
  |some i0=>
   have hf:=zB i0 i ef;rw[βs i0 i hf];rcases y6 i0 i hf with⟨a1,a2,a3⟩|⟨a1,a2,a3⟩
   .exact hg i0 a2 (by simp[Pla.via,a1,hb])
   .omega
theorem NT{β:Pla}{w:World}:∀ (ts:List Tmp) (ds:List D) (vs:List Value) (env:Env) (tmps:Array Value),vs.length=ds.length->(∀ (k:Nat) (d:D) (v:Value),ds[k]? =some d->vs[k]? =some v->R F β w d v)->
 (∀ t,t∈ts->t<tmps.size)->ESim F β w env { tmps:=tmps,defers:=[] }->
 ESim F β w (setAll env ts ds) { tmps:=(ts.zip vs).foldl (fun tmps (t,a)=>tmps.setIfInBounds t a) tmps,defers:=[] }/\((ts.zip vs).foldl (fun tmps (t,a)=>tmps.setIfInBounds t a) tmps).size=tmps.size
 |[],_,_,env,tmps,_,_,_,h=>by simpa[setAll] using h
 |_::_,[],[],env,tmps,_,_,_,h=>by simpa[setAll] using h
 |_::_,[],_::_,_,_,hl,_,_,_=>by simp at hl
 |_::_,_::_,[],_,_,hl,_,_,_=>by simp at hl
 |t::ts,d::ds,v::vs,env,tmps,hl,hR,ap,h=>by
  have h1:ESim F β w (up env t d) { tmps:=tmps.setIfInBounds t v,defers:=[] }:=by
   have:=h.put (some t) d v (hR 0 d v rfl rfl) (fun u C=>by cases C;exact ap t oS);simpa[Act.put,up] using this
  have:=NT ts ds vs (up env t d) (tmps.setIfInBounds t v) (by simpa using hl) (fun k d v hd hv=>hR (k+1) d v (by simpa using hd) (by simpa using hv)) (fun u C=>by simpa using ap u (by simp[C])) h1;simp only[setAll,List.zip_cons_cons,List.foldl_cons];exact⟨this.1,by rw[this.2];simp⟩
theorem Cv{c:Code}{b:Frame}{a:Act}{k:List Item}{cs:List Frame}{w:World}:step P (lone (b.atR a (.code (.scope c)::k)) cs w)=.next (lone (b.atR a (.code c::.inScope c::k)) cs w):=
 step_lone_go (by simp[stepG,stepG.exec,Frame.atR])
theorem Xt{c:Code}{b:Frame}{a:Act}{k:List Item}{cs:List Frame}{w:World}:step P (lone (b.atR a (.inScope c::k)) cs w)=.next (lone (b.atR a k) cs w):=
 step_lone_go (by simp[stepG,stepG.exec,Frame.atR])
theorem FA{I:Machine->Prop}{m:Machine}{b:Frame}{c:Code}{k:List Item}{cs:List Frame}{e:Exit}{a:Act}{w:World}
 (hn:e≠ .normal) (hg:∀ l,e≠ .goto l) (h:ArrivesIn I P m b (.inScope c::k) cs e a w):ArrivesIn I P m b k cs e a w:=by
 cases e with
 |normal=>exact absurd rfl hn
 |exit id=>exact⟨fun C hk=>h.1 C (by simp[exitTo,hk]),fun hr hk=>h.2 hr (by simp[exitTo,hk])⟩
 |goto l=>exact absurd rfl (hg l)
 |ret=>exact h
 |panic chain=>exact h
 |outgrown=>exact h
theorem XT{X:Fence}{n:Nat}{Q:Exit->Act->World->Prop}{a:Act}{w:World}{c:Code}(h:c.wpIn X n P (Exit.noGoto Q) a w):(Code.scope c).wpIn X n P Q a w:=by
 intro b k cs Me hb hr;have h0:(lone (b.atR a (.code (.scope c)::k)) cs w).fenced P X:=fenced_calm hb hr rfl;obtain⟨e,C,U,hq,J⟩:=h b (.inScope c::k) cs Me hb hr;cases e with
 |normal=>exact⟨.normal,C,U,hq,.head h0 Cv (StepsIn.trans J (.one (fenced_calm hb hr rfl) Xt))⟩
 |goto l=>exact hq.elim
 |exit id=>exact⟨.exit id,C,U,hq,.of_steps (.one h0 Cv) (FA (c:=c) oS oS J)⟩
 |ret=>exact⟨.ret,C,U,hq,.of_steps (.one h0 Cv) (FA (c:=c) oS oS J)⟩
 |panic ch=>exact⟨.panic ch,C,U,hq,.of_steps (.one h0 Cv) (FA (c:=c) oS oS J)⟩
 |outgrown=>exact⟨.outgrown,C,U,hq,.of_steps (.one h0 Cv) (FA (c:=c) oS oS J)⟩
def Jump(env:Env)(Q:Exit->St->Prop):Code->Mem->Nat->Prop
 | .ret,m,nx=>Q .ret ⟨env,m,nx⟩
 | .exit id,m,nx=>Q (.exit id) ⟨env,m,nx⟩
 |_,_,_=>False
def A'(il l:Nat)(n₀:Nat)(o:Obj)(I:Mem->Nat->Prop)(m:Mem)(nx:Nat):Prop:=∃ f mc nc,View il n₀ f mc nc m nx/\m il=some (.raw l o)/\I mc nc
theorem A'.closed{il l n₀:Nat}{o:Obj}{I:Mem->Nat->Prop}:Closed (A' il l n₀ o I):=by
 rintro m nx m' nx' ⟨f,mc,nc,h1,h2,h3⟩ C he;exact⟨f,mc,nc,h1.ext C he,(he il h1.lt).trans h2,h3⟩
theorem YM(ps:Array Tmp)(us:Array Value)(tmps:Array Value):
 (ps.zip us).foldl (fun tmps (t,a)=>tmps.setIfInBounds t a) tmps=(ps.toList.zip us.toList).foldl (fun tmps (t,a)=>tmps.setIfInBounds t a) tmps:=by
 rw[<- Array.foldl_toList];simp
theorem Xu{β:Pla}{w:World}{a:Act}{g:Operand}{f:FuncId}{fs cs:List D}(hR:R F β w (.fn (.func f) fs cs) (a.eval g))(he:enterOk P f=true)(l:Nat)(w':World):
 ∃ (us vs:List Value) (d:Deferred),us.length=fs.length/\vs.length=cs.length/\(∀ (k:Nat) (d:D) (v:Value),fs[k]? =some d->us[k]? =some v->R F β w d v)/\(∀ (k:Nat) (d:D) (v:Value),cs[k]? =some d->vs[k]? =some v->R F β w d v)/\
  (resolve a.eval (rangeCall g l) 0).run P w'=.ok d w'/\(invoke d.target d.args).run P w'=.ok (.enter f (us.toArray++ #[.func (.yield l) #[] #[]]++vs.toArray)) w':=by
 generalize hv:a.eval g=v at hR;cases hR with
 |fn _ _ _ us vs hl mK J C=>
 refine⟨us,vs,{ target:=.fn (.func f) vs.toArray,args:=us.toArray++ #[.func (.yield l) #[] #[]] },hl,mK,J,C,?_,?_⟩
 .simp only[resolve,hv,Sem.run_bind,Deferred.ofValue];simp[go_sem]
 .simp only[invoke];unfold callFunc;unfold enterOk at he;simp only[Sem.run_bind,run_program,Result.andThen_ok];split at he
  .rename_i fn U;simp only[aO,Bool.not_eq_true'] at he
   have hb:fn.body.isNone=false:=by
    cases X:fn.body<;>simp_all
   rw[U];simp only[he.1,hb,Bool.false_eq_true,if_false,Sem.run_pure]
  .cases he
theorem Rs.append{β:Pla}{w:World}{aS bs:List D}{xs ys:Array Value}(h:Rs F β w aS xs)(k:Rs F β w bs ys):Rs F β w (aS++bs) (xs++ys):=by
 refine⟨by simp[h.1,k.1],fun j d v hd hv=>?_⟩;rcases Nat.lt_or_ge j aS.length with hj|hj
 .rw[List.getElem?_append_left hj] at hd;rw[Array.getElem?_append_left (by rw[h.1];exact hj)] at hv;exact h.2 j d v hd hv
 .rw[List.getElem?_append_right hj] at hd;rw[Array.getElem?_append_right (by rw[h.1];exact hj),h.1] at hv;exact k.2 _ d v hd hv
theorem Z0(mD:P.follows .mixedOrders=true):∀ (c:Code) (F:Nat->Prop) (r:Option Nat) (n:Nat) (Y:YSpec) (rf:Bool) (N₀:Nat) (β₀:Pla) (w₀:World) (a₀:Act),(rf=true->r=none)->
 (∀ l args m nx K,Y l args m nx K->YCall P F β₀ w₀ l args m nx K)->kY a₀.tmps.size c=true->∀ (Q:Exit->St->Prop) (st:St) (β:Pla) (w:World) (a:Act),
 AW P Y rf c Q st->fm P F st β w a->rQ N₀ β₀ w₀ a₀ st β w a->c.wpIn (Fe r) n P (ac7 P F N₀ β₀ w₀ a₀ Q) a w:=by
 intro c
 induction c with
 |skip=>exact fun F r n Y rf N₀ β₀ w₀ a₀ jz X _ Q st β w a h C U=>wpIn_skip ⟨st,β,h,C,U⟩
 |ret=>exact fun F r n Y rf N₀ β₀ w₀ a₀ jz X _ Q st β w a h C U=>wpIn_ret ⟨st,β,h,C,U⟩
 |exit id=>exact fun F r n Y rf N₀ β₀ w₀ a₀ jz X _ Q st β w a h C U=>wpIn_exit ⟨st,β,h,C,U⟩
 |label l=>exact fun F r n Y rf N₀ β₀ w₀ a₀ jz X _ Q st β w a h C U=>wpIn_label ⟨st,β,h,C,U⟩
 |region id ops draw=>
  intro F r n Y rf N₀ β₀ w₀ a₀ jz X ap Q st β w a h C U;have zC:zq a.tmps.size ops=true:=by rw[U.size];exact ap
  cases draw with
  |false=>
   refine wpIn_mono (XG (N:=st.nx) (β₀:=β) (w₀:=w) (a₀:=a) (fun l args m nx K hy=>(X l args m nx K hy).base U.step) zC h C (iH.refl st β w a)) fun e a' w' hp=>?_;obtain⟨st',β',hq,eu,ig⟩:=hp;exact⟨st',β',hq,eu,U.since ig⟩
  |true=>
   simp only[AW] at h;split at h
   .rename_i cf kG;refine wpIn_mono (XH (N₀:=st.nx) (β₀:=β) (w₀:=w) (a₀:=a) mD kG zC h C (iH.refl st β w a)) fun e a' w' hp=>?_;obtain⟨st',β',hq,eu,ig⟩:=hp;exact⟨st',β',hq,eu,U.since ig⟩
   .exact h.elim
 |seq x y HE HF=>
  intro F r n Y rf N₀ β₀ w₀ a₀ jz X ap Q st β w a h C U;simp only[kY,aO] at ap;refine wpIn_seq (wpIn_mono (HE F r n Y rf N₀ β₀ w₀ a₀ jz X ap.1 _ st β w a h C U) fun e a' w' hp=>?_);obtain⟨st',β',hq,eu,ig⟩:=hp;cases e with
  |normal=>
   obtain⟨ju,hg,hy⟩:=hq;obtain⟨jV,zD,Kx⟩:=NH hg eu;exact HF F r n Y rf N₀ β₀ w₀ a₀ jz X ap.2 Q ju jV w' a' hy zD (ig.since Kx)
  |_=>exact⟨st',β',hq,eu,ig⟩
 |cond c x y HE HF=>
  intro F r n Y rf N₀ β₀ w₀ a₀ jz X ap Q st β w a h C U;simp only[kY,aO] at ap;obtain⟨ha,h⟩:=h;have hR:=(C.e.opd c).core_of _ ha;split at h
  .rename_i t ht;rw[ht] at hR;exact wpIn_cond_split hR.s_inv.1 (fun e=>HE F r n Y rf N₀ β₀ w₀ a₀ jz X ap.1 Q st β w a (h.1 e) C U) fun e=>HF F r n Y rf N₀ β₀ w₀ a₀ jz X ap.2 Q st β w a (h.2 e) C U
  .rename_i ht;rw[ht] at hR;obtain⟨b,hb⟩:=hR.ub_inv;exact wpIn_cond_split hb (fun _=>HE F r n Y rf N₀ β₀ w₀ a₀ jz X ap.1 Q st β w a h.1 C U) fun _=>HF F r n Y rf N₀ β₀ w₀ a₀ jz X ap.2 Q st β w a h.2 C U
  .exact h.elim
 |scope b ih=>
  intro F r n Y rf N₀ β₀ w₀ a₀ jz X ap Q st β w a h C U;refine XT (wpIn_mono (ih F r n Y rf N₀ β₀ w₀ a₀ jz X ap _ st β w a h C U) fun e a' w' hp=>?_);obtain⟨st',β',hq,eu,ig⟩:=hp;cases e with
  |goto l=>exact hq.elim
  |_=>exact⟨st',β',hq,eu,ig⟩
 |block id b ih=>
  intro F r n Y rf N₀ β₀ w₀ a₀ jz X ap Q st β w a h C U;refine wpIn_block (wpIn_mono (ih F r n Y rf N₀ β₀ w₀ a₀ jz X ap _ st β w a h C U) fun e a' w' hp=>?_);obtain⟨st',β',hq,eu,ig⟩:=hp;cases e with
  |exit i=>
   simp only[blockQ] at hq;simp only[Exit.inBlock];split at hq
   .rename_i hi;rw[if_pos hi];exact⟨st',β',hq,eu,ig⟩
   .rename_i hi;rw[if_neg hi];exact⟨st',β',hq,eu,ig⟩
  |_=>exact⟨st',β',hq,eu,ig⟩
 |loop b ih=>
  intro F r n Y rf N₀ β₀ w₀ a₀ jz X ap Q st β w a h C U;obtain⟨I,μ,hI,Ba⟩:=h;refine Xs (fun j a w=>∃ st β,I st/\μ st=j/\fm P F st β w a/\rQ N₀ β₀ w₀ a₀ st β w a) ⟨st,β,hI,rfl,C,U⟩ ?_;rintro j a w ⟨st,β,hI,hμ,C,U⟩;refine wpIn_mono (ih F r n Y rf N₀ β₀ w₀ a₀ jz X ap _ st β w a (Ba st hI) C U) fun e a' w' hp=>?_;obtain⟨st',β',hq,eu,ig⟩:=hp;cases e with
  |normal=>
   obtain⟨kH,hg,qy,alu⟩:=hq;obtain⟨jV,zD,Kx⟩:=NH hg eu;exact⟨μ kH,oG,kH,jV,qy,rfl,zD,ig.since Kx⟩
  |_=>exact⟨st',β',hq,eu,ig⟩
 |rangeFunc g ps assign body yh yi=>
  intro F r n Y rf N₀ β₀ w₀ a₀ jz X ap Q st β w a h C U;obtain⟨env,mem,nx⟩:=st;obtain⟨Lf,pu,f,fs,cs,xs,I,Bi,G5,GF,HG,Ba,xx⟩:=h;simp only at pu Bi HG Ba xx;have hr:=jz Lf;subst hr;simp only[kY,aO,bJ,Nat.blt_eq] at ap;obtain⟨zU,agr,ags⟩:=ap;have cA:a.tmps.size=a₀.tmps.size:=U.size;have hR:=(C.e.opd g).core_of _ pu;simp only[Bi] at hR;refine wpIn_rangeFunc fun fn yd=>?_;obtain⟨J,vS⟩:∃ J:LoopState->Option Code->Loop,J=fun st pe=>{ state:=st,pending:=pe,fn,tmps:=a.tmps,params:=ps,assign,body,defers:=w.heap.size }:=⟨_,rfl⟩
  obtain⟨W1,EI⟩:∃ W1,(w.alloc (.deferred (some []))).alloc (.loop (J .ready none))=W1:=⟨_,rfl⟩
  obtain⟨us,vs,d,Mg,rS,hu,hv,nA,hinv⟩:=Xu (P:=P) hR G5.1 (w.heap.size+1) W1;have hn:∀ i,nx<=i->β i=none:=C.n;have rR:¬ F (w.heap.size+1):=fun e=>by have:=C.m.fb _ e;omega
  let f₀:Nat->Option Nat:=fun i=>if i<nx then some i else none
  have UC:β.via f₀=β:=by
   funext i;simp only[Pla.via,f₀];split
   .rfl
   .exact(hn i oG).symm
  have wq:MSim P F (fun i=>(mem i).map (Row.renB f₀)) β w:=⟨fun i r hi=>by
   simp only[dw] at hi;obtain⟨r0,h1,rfl⟩:=hi;obtain⟨p,hp,hr⟩:=C.m.row i r0 h1
   exact⟨p,hp,RowR.hide (F':=F) (by rw[UC];exact hr) (fun _ h=>h) fun b g1 g2=>absurd (UC▸g2) g1⟩,C.m.inj,C.m.lt,C.m.nf,C.m.fb⟩
  have yj:Step β w β (w.alloc (.deferred (some []))):=step_ext oS fun b hb=>heap_alloc_old w _ hb;have rT:MSim P F (fun i=>(mem i).map (Row.renB f₀)) β (w.alloc (.deferred (some []))):=wq.ext oS fun b hb=>heap_alloc_old w _ hb
  have zV:MSim P F (up (fun i=>(mem i).map (Row.renB f₀)) nx (some (.raw (w.heap.size+1) (.loop (J .ready none))))) (up β nx (some (.raw (w.heap.size+1)))) W1:=by
   rw[<- EI];refine rT.alloc (hn nx (bP _)) _ _ _ (fun b hb=>by simp only[Pl.blk,aQ] at hb;simp;omega) (.raw _ _ ?_);have:=World.alloc_heap_new (w.alloc (.deferred (some []))) (.loop (J .ready none))
   rwa[World.size_alloc] at this
  have uR:Step β w (up β nx (some (.raw (w.heap.size+1)))) W1:=by
   rw[<- EI];exact yj.trans (step_alloc rT _ (hn nx (bP _)) _ (fun b hb=>by simp only[Pl.blk,aQ] at hb;simp;omega))
  have hD1:W1.heap[w.heap.size]? =some (.deferred (some [])):=by
   rw[<- EI];rw[heap_alloc_old _ _ oS];exact World.alloc_heap_new w _
  have RA:Pla.free (up β nx (some (.raw (w.heap.size+1)))) w.heap.size:=
   free_other (fun i p hp e=>by have:=C.m.lt i p _ hp e;omega) (by rintro q hq;cases hq;simp[Pl.blk])
  have alv:W1.heap.size=w.heap.size+2:=by rw[<- EI];simp
  have abh:∀ i,nx<=i->mem i=none:=fun i hi=>by
   cases hm:mem i with
   |none=>rfl
   |some row=>
    obtain⟨p,hp,_⟩:=C.m.row i row hm;rw[hn i hi] at hp;cases hp
  have own:∀ {f:Nat->Option Nat} {mc:Mem} {nc:Nat} {m:Mem} {gX:Nat} {β2:Pla} {w2:World},View nx nx f mc nc m gX->Step (up β nx (some (.raw (w.heap.size+1)))) W1 β2 w2->
   ∀ {d:D} {v:Value},R F β w d v->R (hidden F β2 f) (β2.via f) w2 d v:=fun {_ _ _ _ _ _ _} jL aU {d v} h=>by
   have sX:=uR.trans aU;refine h.gen sX.size (fun b hb hf nt=>?_) fun i p _ hp=>?_
   .obtain⟨g1,g2⟩:=sX.imm b hb nt;exact⟨same_of g1,Pla.free_via g2 _,fun e=>e.elim hf fun e=>e.1 g2⟩
   .have hi:i<nx:=by
     rcases Nat.lt_or_ge i nx with h1|h1
     .exact h1
     .rw[hn i h1] at hp;cases hp
    simp only[Pla.via,jL.id i hi,Option.bind_some];exact sX.keep i p hp
  refine⟨w.heap.size+1,[mark w.heap.size],W1,d,W1,f,_,W1,?_,nA,fun f' _=>trivial,hinv,fun hd=>by simp at hd,Pf ?_⟩
  .rw[<- EI,vS];exact run_enterLoop_outer _ _ _ _ _
  refine(G5.2 F (w.heap.size+1) (fun k=>A' nx (w.heap.size+1) nx (.loop (J .ready none)) (I k)) (fun m k=>∃ c,A' nx (w.heap.size+1) nx (.loop (J .done (some c))) (Jump env Q c) m k)
   (up (fun i=>(mem i).map (Row.renB f₀)) nx (some (.raw (w.heap.size+1) (.loop (J .ready none))))) (nx+1) (up β nx (some (.raw (w.heap.size+1)))) W1 _ (fun k=>A'.closed) ?_ zV ?_ ?_ ?_ ?_).mono ?_
  .rintro m k m' k' ⟨c,hc⟩ hle he;exact⟨c,A'.closed m k m' k' hc hle he⟩
  .intro i hi;rw[up_ne _ _ (show i≠nx by omega)];exact hn i oG
  .refine Rs.append (Rs.append ?_ ?_) ?_
   .exact⟨by simp[Mg],fun k d v hd hv=>(hu k d v hd (by simpa using hv)).step uR⟩
   .refine⟨rfl,fun k d v hd hv=>?_⟩;cases k with
    |zero=>
     simp only[List.getElem?_cons_zero,aQ] at hd;simp only[List.getElem?_toArray,List.getElem?_cons_zero,aQ] at hv;subst hd;subst hv;exact .fn _ [] [] [] [] rfl rfl oS oS
    |succ k=>simp at hd
   .exact⟨by simp[rS],fun k d v hd Mh=>(hv k d v hd (by simpa using Mh)).step uR⟩
  .rintro k x m k' hx ⟨g,mc,nc,jL,fB,hIk⟩ β2 w2 HH agt mM BT EJ;obtain⟨V3,Bj,_,Lg⟩:=mM.Bh fB;have agu:HH.size=ps.size:=by rw[EJ.1];exact(GF x (cx hx)).1
   have hy:=run_yield (P:=P) (args:=HH) Bj (by rw[vS];exact agu);simp only[vS,YM] at hy;refine⟨fn,_,assign,body,hy,fun n'=>?_⟩;obtain⟨Mi,BU⟩:=jL.enter mM;have EK:hidden F β2 g (w.heap.size+1):=(jL.Ga mM (fun i e=>(jL.xK e).2.2 rfl) V3 rfl).2;have RB:(β2.via g).free (w.heap.size+1):=(jL.Ga mM (fun i e=>(jL.xK e).2.2 rfl) V3 rfl).1;have hE2:ESim (hidden F β2 g) (β2.via g) w2 env { tmps:=a.tmps,defers:=[] }:=fun t=>own jL agt (C.e t)
   obtain⟨hE3,UD⟩:=NT ps.toList x HH.toList env a.tmps (by simp[EJ.1]) (fun j d v hd hv=>
    ((GF x (cx hx)).2 d (cx hd) F β2 w2 v (EJ.2 j d v hd (by simpa using hv))).gen (bP _)
     (fun b _ hb _=>⟨SameB.refl _ b,Pla.free_via (owned_free hb).2 _,fun e=>e.elim (owned_free hb).1 fun e=>e.1 (owned_free hb).2⟩) (fun i p _ hp=>by cases hp)) (fun t ht=>by rw[cA];exact zU t ht) hE2
   have agv:=yh (hidden F β2 g) (some (w.heap.size+1)) n' noY false nc (β2.via g) w2
    { tmps:=(ps.toList.zip HH.toList).foldl (fun tmps (t,a)=>tmps.setIfInBounds t a) a.tmps,defers:=[] } oS (fun _ _ _ _ _ h=>h.elim) (by show kY (Array.size _) assign=true;rw[UD,cA];exact agr) _ ⟨setAll env ps.toList x,mc,nc⟩ (β2.via g) w2 _
    (Ba k mc nc x hx hIk) ⟨hE3,Mi,BU⟩ (iH.refl ⟨setAll env ps.toList x,mc,nc⟩ _ _ _).zS
   refine roundIn_of_wpIn trivial (wpIn_mono agv fun e a3 w3 hp=>?_);obtain⟨kH,β3,rU,HI,yk⟩:=hp;cases e with
   |normal=>
    have Ky:w.heap.size+1<w3.heap.size:=Nat.lt_of_lt_of_le Lg yk.step.size;have ac9:w3.heap[w.heap.size+1]? =some (.loop (J .ready none)):=(yk.step.imm _ Lg RB).1.trans Bj;refine⟨_,run_beginRound ac9 (by rw[vS]),?_⟩;have agw:=HI.uA (l:=w.heap.size+1) EK (.loop { J .ready none with state:=.busy });have ac':=yi (hidden F β2 g) (some (w.heap.size+1)) n' noY false kH.nx β3 _ a3 oS (fun _ _ _ _ _ h=>h.elim) (by rw[yk.size];show kY (Array.size _) body=true;rw[UD,cA];exact ags) _ kH β3 _ a3 rU agw (iH.refl kH _ _ _).zS;refine wpIn_mono ac' fun e a4 w4 hp4=>?_;obtain⟨V4,β4,ym,V5,EL⟩:=hp4;have ada:w.heap.size+1<w4.heap.size:=Nat.lt_of_lt_of_le (by simpa using Ky) EL.step.size
    have adb:w4.heap[w.heap.size+1]? =some (.loop { J .ready none with state:=.busy }):=
     (EL.step.imm _ (by simpa using Ky) (yk.step.imm _ Lg RB).2).1.trans (World.putObj_heap_same Ky)
    have fin:∀ (jump:Option Code) (K:D->Mem->Nat->Prop),(∀ f' lq rF,View nx nx f' V4.mem V4.nx lq rF->lq nx=some (.raw (w.heap.size+1) (.loop (J (if jump.isNone then .ready else .done) jump)))->K (.s (.bool jump.isNone)) lq rF)->
     ∃ v w',(Instr.endRound (w.heap.size+1) jump).run P w4=.ok v w'/\∃ v' d m' nx' β',Ending.returned v=.returned v'/\K d m' nx'/\MSim P F m' β' w'/\(∀ i,nx'<=i->β' i=none)/\R F β' w' d v'/\Step β2 w2 β' w'/\k'<=nx'/\∀ i,i<k'->β2 i=none->β' i=none:=fun jump K hK=>by
     have gg:=run_endRound (P:=P) jump adb;have e1:∀ s p,({ ({ J .ready none with state:=.busy }:Loop) with state:=s,pending:=p }:Loop)=J s p:=fun s p=>by rw[vS]
     rw[e1] at gg
     obtain⟨f',lq,rF,jV,v1,v2,v3,v4,v5,v6,v7⟩:=jL.ac8 mM BT fB (o':=.loop (J (if jump.isNone then .ready else .done) jump)) (V5.m.uA EK _)
      (((yk.step.x _).trans (uo.put _ β3 w3 _)).trans ((EL.step.x _).trans (uo.put _ β4 w4 _))) V5.n (Nat.le_trans yk.le EL.le) (fun i hi hb=>EL.grow i (Nat.lt_of_lt_of_le hi yk.le) (yk.grow i hi hb)) (World.putObj_heap_same ada)
     exact⟨_,_,gg,.bool jump.isNone,_,lq,rF,jV,rfl,hK f' lq rF v1 v2,v3,v4,.s _ rfl,v5,v6,v7⟩
    cases e with
    |normal=>exact fin none _ fun f' lq rF v1 v2=>.inl ⟨rfl,f',_,_,v1,v2,ym⟩
    |ret=>exact fin (some .ret) _ fun f' lq rF v1 v2=>.inr ⟨rfl,.ret,f',_,_,v1,v2,ym⟩
    |exit id=>exact fin (some (.exit id)) _ fun f' lq rF v1 v2=>.inr ⟨rfl,.exit id,f',_,_,v1,v2,ym⟩
    |_=>exact ym.elim
   |_=>exact rU.elim
  .refine⟨f₀,mem,nx,⟨bP _,oG,fun i hi=>by simp[f₀,hi],fun i hi=>⟨i,by simp[f₀,hi],oG,oG⟩,fun i hi=>by simp[f₀,Nat.not_lt.2 hi],fun i i' j h1 h2=>?_,fun i r hi=>?_⟩,up_same _ _ _,HG⟩
   .simp only[f₀,Option.ite_none_right_eq_some,aQ] at h1 h2;omega
   .have ap:i<nx:=by
     rcases Nat.lt_or_ge i nx with h1|h1
     .exact h1
     .rw[abh i h1] at hi;cases hi
    exact⟨i,by simp[f₀,ap],by rw[up_ne _ _ (show i≠nx by omega),hi];rfl⟩
  .rintro e w6 ⟨v,d6,m6,nx6,β6,rfl,UE,wu,hn6,_,vT,alw,agx⟩
   have fin:∀ {g:Nat->Option Nat} {mc:Mem} {nc:Nat} (o':Obj),View nx nx g mc nc m6 nx6->
    fm P F ⟨env,mc,nc⟩ (β6.via g) (w6.putObj (w.heap.size+1) o') { a with defers:=[mark w.heap.size]++a.defers }/\
    rQ N₀ β₀ w₀ a₀ ⟨env,mc,nc⟩ (β6.via g) (w6.putObj (w.heap.size+1) o') { a with defers:=[mark w.heap.size]++a.defers }:=fun {g mc nc} o' jL=>by
    obtain⟨Mi,BU⟩:=jL.enter wu
    have EK:hidden F β6 g (w.heap.size+1):=by
     have hβ:β6 nx=some (.raw (w.heap.size+1))\/β6 nx=some .dead:=vT.keep nx _ (up_same _ _ _);rcases hβ with hβ|hβ
     .exact(jL.Ga wu (fun i e=>(jL.xK e).2.2 rfl) hβ rfl).2
     .exfalso;rcases UE with⟨f',mc',qx,_,Lh,_⟩|⟨c,f',mc',qx,_,Lh,_⟩
      .rw[(wu.Bh Lh).1] at hβ;cases hβ
      .rw[(wu.Bh Lh).1] at hβ;cases hβ
    refine⟨⟨fun t=>((own jL vT (C.e t)).uA EK o').weak fun b hb=>.inl hb,(Mi.uA EK o').weak fun b hb=>.inl hb,BU⟩,U.trans ⟨⟨?_,fun b hb hf=>?_,fun i p hp=>?_,(uR.out.trans vT.out).trans ⟨rfl,rfl⟩⟩,jL.low,fun i hi hb=>?_,rfl,[mark w.heap.size],rfl,?_⟩⟩
    .have:=vT.size;simp;omega
    .obtain⟨g1,g2⟩:=uR.imm b hb hf;obtain⟨g3,g4⟩:=vT.imm b oG g2;exact⟨(World.putObj_heap_other oG).trans (g3.trans g1),Pla.free_via g4 _⟩
    .have hi:i<nx:=by
      rcases Nat.lt_or_ge i nx with h1|h1
      .exact h1
      .rw[hn i h1] at hp;cases hp
     simp only[Pla.via,jL.id i hi,Option.bind_some];exact(uR.trans vT).keep i p hp
    .have hi:i<nx:=hi;simp only[Pla.via,jL.id i hi,Option.bind_some];exact agx i oG (by rw[up_ne _ _ oG];exact hb)
    .refine⟨w.heap.size,rfl,bP _,?_,?_,?_,trivial⟩
     .have:=vT.size;simp;omega
     .exact(World.putObj_heap_other oG).trans ((vT.imm _ oG RA).1.trans hD1)
     .exact Pla.free_via (vT.imm _ oG RA).2 _
   rcases UE with⟨g,mc,nc,jL,fB,hI⟩|⟨c,g,mc,nc,jL,fB,hj⟩
   .have gg:(Instr.endLoop (w.heap.size+1)).run P w6=.ok none (w6.putObj (w.heap.size+1) (.loop (J .exhausted none))):=by
     have:=run_endLoop (P:=P) (wu.Bh fB).2.1 (by rw[vS];simp);rw[vS] at this ⊢;exact this
    obtain⟨g1,g2⟩:=fin (.loop (J .exhausted none)) jL;exact⟨none,_,gg,⟨env,mc,nc⟩,_,xx mc nc hI,g1,g2⟩
   .have gg:(Instr.endLoop (w.heap.size+1)).run P w6=.ok (some c) (w6.putObj (w.heap.size+1) (.loop (J .exhausted (some c)))):=by
     have:=run_endLoop (P:=P) (wu.Bh fB).2.1 (by rw[vS];simp);rw[vS] at this ⊢;exact this
    obtain⟨g1,g2⟩:=fin (.loop (J .exhausted (some c))) jL;refine⟨some c,_,gg,?_⟩;cases c with
    |ret=>exact wpIn_ret ⟨⟨env,mc,nc⟩,_,hj,g1,g2⟩
    |exit id=>exact wpIn_exit ⟨⟨env,mc,nc⟩,_,hj,g1,g2⟩
    |_=>exact hj.elim
 |_=>intro F r n Y rf N₀ β₀ w₀ a₀ jz X ap Q st β w a h;exact h.elim
end
section
variable{P:Program}{F:Nat->Prop}{fn:Func}
def Bv(tmps:Array Value):ResultVar->Sem Value
 | .tmp t=>pure (tmps.getD t undef)
 | .cell x t=>do loadVar t (<- asAddr (tmps.getD x undef))
theorem XW(fn:Func)(tmps:Array Value):results fn tmps=(do
 let vs<- fn.results.mapM (Bv tmps)
 pure (if h:vs.size=1 then vs[0] else .tuple vs)):=by
 unfold results;congr 1
theorem abo{st:St}{β:Pla}{w:World}{a:Act}(C:fm P F st β w a){r:ResultVar}{p:Prop}{d:D}(h:resD P st r=some (p,d))(hp:p):
 ∃ v,(Bv a.tmps r).run P w=.ok v w/\R F β w d v:=by
 unfold resD at h;split at h
 .cases h;exact⟨_,by simp[Bv],C.e _⟩
 .rename_i x t;have hx:=C.e x;split at h
  .rename_i i off U;rw[U] at hx;split at h
   .rename_i cs e hm;cases h;obtain⟨b,o,room,sz,hβ,hv,ay⟩:=hx.rp_inv C.m hm;obtain⟨u,J,hr⟩:=run_load_rd (P:=P) hp.1 (ay.rd.1.drop off) oP;refine⟨u,?_,hr⟩;simp only[Bv,hv,Sem.run_bind];simp[asAddr,J]
   .cases h
  .rename_i cs U;rw[U] at hx;cases h;obtain⟨b,o,hv,_,_,_,X⟩:=hx.pt_inv;obtain⟨u,J,hr⟩:=run_load_rd (P:=P) hp.1 X hp.2;refine⟨u,?_,hr⟩;simp only[Bv,hv,Sem.run_bind];simp[asAddr,J]
  .cases h
theorem Pm{st:St}{β:Pla}{w:World}{a:Act}(J:fm P F st β w a){K:List D->Prop}:∀ (rs:List ResultVar) (C:List D),retL P st rs C K->
 ∃ vs ds,(rs.mapM (Bv a.tmps)).run P w=.ok vs w/\vs.length=ds.length/\K (C++ds)/\
  ∀ (k:Nat) (d:D) (v:Value),ds[k]? =some d->vs[k]? =some v->R F β w d v
 |[],C,h=>⟨[],[],oS,rfl,by simpa[retL] using h,oS⟩
 |r::rs,C,h=>by
  simp only[retL] at h;split at h
  .rename_i p d hr;obtain⟨v,h1,h2⟩:=abo J hr h.1;obtain⟨vs,ds,h3,h4,h5,U⟩:=Pm J rs _ h.2;refine⟨v::vs,d::ds,?_,by simp[h4],by simpa using h5,fun k d' X hd hv=>?_⟩
   .rw[List.mapM_cons];simp only[Sem.run_bind];rw[h1];simp only[Result.andThen_ok,Sem.run_bind];rw[h3];simp
   .cases k with
    |zero=>simp at hd hv;subst hd;subst hv;exact h2
    |succ k=>exact U k d' X (by simpa using hd) (by simpa using hv)
  .exact h.elim
theorem XI{st:St}{β:Pla}{w:World}{a:Act}(C:fm P F st β w a){K:D->Prop}(h:retL P st fn.results.toList [] fun ds=>K (one1 ds)):
 ∃ v d,(results fn a.tmps).run P w=.ok v w/\K d/\R F β w d v:=by
 obtain⟨vs,ds,h1,h2,h3,h4⟩:=Pm C _ _ h;simp only[List.nil_append] at h3;refine⟨if h:vs.toArray.size=1 then vs.toArray[0] else .tuple vs.toArray,one1 ds,?_,h3,?_⟩
 .rw[XW,Array.mapM_eq_mapM_toList];simp only[Sem.run_bind,map_eq_pure_bind,bind_assoc];rw[h1];simp
 .split
  .rename_i cA;simp only[List.size_toArray] at cA;obtain⟨v,rfl⟩:=List.length_eq_one_iff.1 cA;obtain⟨d,rfl⟩:=List.length_eq_one_iff.1 (show ds.length=1 by simpa using h2.symm);exact h4 0 d v rfl rfl
  .rename_i cA;simp only[List.size_toArray] at cA
   have:one1 ds=.tup ds:=by
    unfold one1;split
    .rename_i d;simp at h2;exact absurd h2 cA
    .rfl
   rw[this];exact .tup ds vs h2 h4
theorem Xw{w:World}{b:Nat}{x:Option (List Deferred)}(h:w.heap[b]? =some (.deferred x))(o:Nat):w.cell? ⟨b,o,none⟩=none:=by
 simp[World.cell?,h]
theorem R.Pn{w:World}{b:Nat}{x:Option (List Deferred)}(hb:w.heap[b]? =some (.deferred x))(o:Obj)(J:Nat):SameB w (w.putObj b o) J:=by
 refine⟨fun k u U=>?_,fun ms c hm=>?_⟩
 .have C:J≠b:=fun e=>by rw[e,Xw hb] at U;cases U
  exact(cell_of_heap (World.putObj_heap_other C)).trans U
 .have C:J≠b:=fun e=>by rw[e,hb] at hm;cases hm
  exact(World.putObj_heap_other C).trans hm
theorem fm.putD{st:St}{β:Pla}{w:World}{a:Act}{b:Nat}{x:Option (List Deferred)}(hb:w.heap[b]? =some (.deferred x))(hf:β.free b)(o:Obj)(h:fm P F st β w a):fm P F st β (w.putObj b o) a:=
 ⟨fun t=>(h.e t).gen oS (fun C _ h1 h2=>⟨R.Pn hb o C,h2,h1⟩) fun _ _ _ h=>.inl h,⟨fun i r hi=>by
  obtain⟨p,hp,hr⟩:=h.m.row i r hi;exact⟨p,hp,hr.gen oS (fun C _ h1 h2=>⟨R.Pn hb o C,h2,h1⟩) (fun _ _ _ h=>.inl h) fun c hc=>World.putObj_heap_other fun e=>hf i p hp (e▸hc)⟩,
  h.m.inj,fun i p c hp hc=>by simpa using h.m.lt i p c hp hc,h.m.nf,fun c hc=>by simpa using h.m.fb c hc⟩,h.n⟩
theorem Marks.put{β:Pla}{w:World}{lo b:Nat}(o:Obj):∀ {ds:List Deferred} {hi:Nat},hi<=b->Marks β w lo ds hi->Marks β (w.putObj b o) lo ds hi
 |[],_,_,_=>trivial
 |_::_,_,hle,⟨c,h1,h2,h3,h4,h5,h6⟩=>⟨c,h1,h2,h3,(World.putObj_heap_other oG).trans h4,h5,Marks.put o oG h6⟩
theorem ND{n:Nat}{tmps:Array Value}{R:Ending->World->Prop}{st:St}{β₀ β:Pla}{w₀:World}{a:Act}:∀ (ds:List Deferred) (hi:Nat) (w:World),Marks β w w₀.heap.size ds hi->fm P F st β w a->Step β₀ w₀ β w->
 (∀ w',fm P F st β w' a->Step β₀ w₀ β w'->∃ v,(results fn tmps).run P w'=.ok v w'/\R (.returned v) w')->LeavesInM (Fe none) n P fn tmps R ds .returning w
 |[],_,w,_,hs,aU,K=>K w hs aU
 |d::ds,hi,w,⟨b,h1,h2,h3,h4,h5,h6⟩,hs,aU,K=>by
  subst h1;refine⟨oS,.inl ⟨b,_,rfl,run_takeDeferred h4,ND ds b _ (h6.put _ (bP _)) (hs.putD h4 h5 _) ?_ K⟩⟩;refine⟨by simpa using aU.size,fun c hc hf=>?_,aU.keep,aU.out.trans ⟨rfl,rfl⟩⟩;obtain⟨C,J⟩:=aU.imm c hc hf;exact⟨(World.putObj_heap_other oG).trans C,J⟩
theorem AT(mD:P.follows .mixedOrders=true){Y:YSpec}{f:FuncId}{c:Code}(hf:P.funcs[f]? =some fn)(hb:fn.body=some c)(ap:kY fn.ntmps c=true){args:List D}(hn:Nat.ble args.length fn.ntmps=true){m:Mem}{nx:Nat}{K:D->St->Prop}
 (h:AW P Y true c (retQ P fn.results.toList K) ⟨envOf args,m,nx⟩) {β:Pla} {w:World} {vs:Array Value} (hY:∀ l args m nx K,Y l args m nx K->YCall P F β w l args m nx K) (hm:MSim P F m β w) (gh:∀ i,nx<=i->β i=none) (hR:Rs F β w args vs):
 Calls P f vs w fun e w'=>∃ v d st' β',e=.returned v/\K d st'/\R F β' w' d v/\MSim P F st'.mem β' w'/\(∀ i,st'.nx<=i->β' i=none)/\Step β w β' w'/\nx<=st'.nx/\∀ i,i<nx->β i=none->β' i=none:=by
 have hle:args.length<=fn.ntmps:=by simpa using hn
 refine(callsIn_wide (n:=0)).1 (callsIn_of_wp_marks hf hb trivial ?_)
 have cA:(vs++Array.replicate (fn.ntmps - vs.size) undef).size=fn.ntmps:=by
  simp only[Array.size_append,Array.size_replicate,hR.1];omega
 let a₀:Act:={ tmps:=vs++Array.replicate (fn.ntmps - vs.size) undef,defers:=[] }
 have hE:ESim F β w (envOf args) a₀:=fun t=>by
  unfold envOf;rcases Nat.lt_or_ge t args.length with ap|bh
  .have h1:args.getD t .u=args[t]:=by simp[ap]
   have h2:a₀.tmps.getD t undef=vs[t]'(by rw[hR.1];exact ap):=by
    show(vs++Array.replicate (fn.ntmps - vs.size) undef).getD t undef=_;have h3:t<vs.size:=by rw[hR.1];exact ap
    simp[Array.getD_eq_getD_getElem?,Array.getElem?_append_left h3,h3]
   rw[h1,h2];exact hR.2 t _ _ (by simp[ap]) (by simp[hR.1,ap])
  .have h1:args.getD t .u=.u:=by simp[bh]
   rw[h1];exact .u _
 have:=Z0 mD c F none 0 Y true nx β w a₀ (fun _=>rfl) hY (by show kY (vs++Array.replicate (fn.ntmps - vs.size) undef).size c=true;rw[cA];exact ap) _ ⟨envOf args,m,nx⟩ β w a₀ h ⟨hE,hm,gh⟩ (iH.refl ⟨envOf args,m,nx⟩ β w a₀).zS;refine wpIn_mono this fun e a' w' hp=>?_;obtain⟨st',β',hq,eu,C⟩:=hp
 have X:(retL P st' fn.results.toList [] fun ds=>K (one1 ds) st')->LeavesInM (Fe none) 0 P fn a'.tmps (fun e w'=>∃ v d st' β',e=.returned v/\K d st'/\R F β' w' d v/\MSim P F st'.mem β' w'/\(∀ i,st'.nx<=i->β' i=none)/\Step β w β' w'/\nx<=st'.nx/\∀ i,i<nx->β i=none->β' i=none) a'.defers .returning w':=fun hq=>by
  obtain⟨ds,h1,h2⟩:=C.defers;rw[h1,show a₀.defers=[] from rfl,List.append_nil];refine ND ds _ w' h2 eu C.step fun w'' U J=>?_;obtain⟨v,d,g1,g2,g3⟩:=XI (K:=fun d=>K d st') U hq;exact⟨v,g1,v,d,st',β',rfl,g2,g3,U.m,U.n,J,C.le,C.grow⟩
 cases e with
 |normal=>exact X hq
 |ret=>exact X hq
 |_=>exact hq.elim
theorem FL{w:World}(hF:∀ b,F b->b<w.heap.size):MSim P F (fun _=>none) noRows w:=
 ⟨fun i r h=>oH,fun i j p q b h=>oH,fun i p b h=>oH,fun i p b h=>oH,hF⟩
theorem FB{β':Pla}{w w':World}(h:Step noRows w β' w'):Kept w w':=
 ⟨h.size,fun b hb=>(h.imm b hb fun i p hp=>by cases hp).1,h.out⟩
theorem Tr.Bk{d:D}(h:Tr d){β:Pla}{w:World}{v:Value}(hv:R F β w d v):R F noRows w d v:=
 (h F β w v hv).lift fun b hb=>⟨fun e=>hb (.inl e),fun i p hp=>by cases hp⟩
structure mE(P:Program)(f:FuncId)(fn:Func)(c:Code):Prop where
 hf:P.funcs[f]? =some fn
 hb:fn.body=some c
 ap:kY fn.ntmps c=true
 he:enterOk P f=true
theorem Po(mD:P.follows .mixedOrders=true){f:FuncId}{c:Code}(hf:mE P f fn c){args:List D}(hn:Nat.ble args.length fn.ntmps=true){m:Mem}{nx:Nat}{de:D->Mem->Nat->Prop}
 (h:AW P noY true c (retQ P fn.results.toList fun d st=>de d st.mem st.nx) ⟨envOf args,m,nx⟩):ACalls P f args m nx de:=
 ⟨hf.he,fun F β w vs hm C hR=>(AT mD hf.hf hf.hb hf.ap hn h (fun _ _ _ _ _ h=>h.elim) hm C hR).mono fun e w' ⟨v,d,st',β',h1,h2,h3,h4,h5,J,U,X⟩=>⟨v,d,st'.mem,st'.nx,β',h1,h2,h4,h5,h3,J,U,X⟩⟩
theorem Z4(J:P.follows .mixedOrders=true){f:FuncId}{c:Code}(hf:mE P f fn c){args:List D}(hn:Nat.ble args.length fn.ntmps=true)(ht:∀ a∈args,Tr a){r:D}(hr:Tr r)
 (h:AW P noY true c (retQ P fn.results.toList fun d _=>d=r) ⟨envOf args,fun _=>none,0⟩):PCall P f args r:=
 ⟨hf.he,ht,fun F w vs hF hR=>(AT J hf.hf hf.hb hf.ap hn h (fun _ _ _ _ _ h=>h.elim) (FL hF) (fun _ _=>rfl) hR).mono fun e w' hp=>by
  obtain⟨v,d,st',β',h1,rfl,h3,h4,h5,C,U,X⟩:=hp
  exact⟨v,h1,hr.Bk h3,FB C⟩⟩
theorem Pp (mD:P.follows .mixedOrders=true){f:FuncId}{c:Code}(hf:mE P f fn c){args:List D}(hn:Nat.ble args.length fn.ntmps=true)(ht:∀ a∈args,Tr a){es:List D}(iu:∀ a∈es,Tr a){k:Nat}{t:TypeId}
 (h:AW P noY true c (retQ P fn.results.toList fun d st=>∃ i,d=.rs i 0 k/\st.mem i=some (.cells es t)) ⟨envOf args,fun _=>none,0⟩):OCall P f args es k t:=
 ⟨hf.he,ht,fun F w vs hF hR=>(AT mD hf.hf hf.hb hf.ap hn h (fun _ _ _ _ _ h=>h.elim) (FL hF) (fun _ _=>rfl) hR).mono fun e w' hp=>by
  obtain⟨v,d,st',β',h1,⟨i,rfl,hi⟩,h3,h4,h5,J,h7,h8⟩:=hp;obtain⟨p,hp,ay⟩:=h4.row i _ hi;refine⟨v,p,h1,?_,fun b hb=>⟨?_,h4.lt i p b hp hb⟩,?_,?_,FB J⟩
  .rintro rfl;cases ay
  .rcases Nat.lt_or_ge b w.heap.size with ap|U
   .exact absurd hb ((J.imm b ap fun i p hp=>by cases hp).2 i p hp)
   .exact U
  .have lift:∀ d∈es,∀ u,R F β' w' d u->R (fun x=>F x\/p.blk=some x) noRows w' d u:=fun d hd u hu=>
    (iu d hd F β' w' u hu).lift fun b hb=>⟨fun e=>hb (by
     rcases e with e|e
     .exact .inl e
     .exact .inr fun nt=>nt i p hp e),fun i p hp=>by cases hp⟩
   cases ay with
   |nil _=>exact .nil _
   |cells _ _ b o room sz c q1 q2 q3 q4 q5=>
    refine .cells es t b o room sz c q1 q2 q3 q4 fun j d hd=>?_;obtain⟨u,u1,u2,u3⟩:=q5 j d hd;exact⟨u,u1,lift d (cx hd) u u2,u3⟩
  .cases h3 with
   |rsd _ _ _ _ C _=>rw[C] at hp;cases hp;cases ay
   |rsn _ a C=>rw[C] at hp;cases hp;exact .rsn 0 a (up_same _ _ _)
   |rsz _ _ a b o len room sz C=>rw[C] at hp;cases hp;exact .rsz 0 0 a b o len room sz (up_same _ _ _)
   |rs _ _ _ cap b o len room sz C X g2 g3 g4=>rw[C] at hp;cases hp;exact .rs 0 0 k cap b o len room sz (up_same _ _ _) X g2 g3 g4⟩
def UI(C:Nat)(xs:List (List D))(I:Nat->Mem->Nat->Prop)(Stop:Mem->Nat->Prop):YSpec:=fun l args m nx de=>
 l=C/\∃ k,xs[k]? =some args/\I k m nx/\∀ d m' nx',SeqPost I Stop k d m' nx'->de d m' nx'
theorem YCall.mono{β:Pla}{w:World}{l:Nat}{args:List D}{m:Mem}{nx:Nat}{K K':D->Mem->Nat->Prop}(hk:∀ d m nx,K d m nx->K' d m nx)(h:YCall P F β w l args m nx K):YCall P F β w l args m nx K':=
 fun β' w' us h1 h2 h3 h4=>by
  obtain⟨f,tmps,assign,body,C,J⟩:=h β' w' us h1 h2 h3 h4;exact⟨f,tmps,assign,body,C,fun n=>RoundIn.mono (F:=Fence.wide) (J n) fun e w' ⟨v,d,m',nx',β',U,X,q3⟩=>⟨v,d,m',nx',β',U,hk _ _ _ X,q3⟩⟩
theorem Ke(mD:P.follows .mixedOrders=true){f:FuncId}{c:Code}(hf:mE P f fn c){fs cs:List D}(hn:Nat.ble (fs.length+1+cs.length) fn.ntmps=true){xs:List (List D)}
 (h:∀ (l:Nat) (I:Nat->Mem->Nat->Prop) (Stop:Mem->Nat->Prop) (m:Mem) (nx:Nat),(∀ k,Closed (I k))->Closed Stop->I 0 m nx->
  AW P (UI l xs I Stop) true c (retQ P fn.results.toList fun _ st=>I xs.length st.mem st.nx\/Stop st.mem st.nx) ⟨envOf (fs++[.fn (.yield l) [] []]++cs),m,nx⟩):SeqA P f fs cs xs:=
 ⟨hf.he,fun F l I Stop m nx β w vs hI C hm J hR hy h0=>
  (AT mD hf.hf hf.hb hf.ap (by simpa[Nat.add_assoc,Nat.add_comm,Nat.add_left_comm] using hn) (h l I Stop m nx hI C h0) (fun l' args m' nx' K hK=>by
   obtain⟨rfl,k,h1,h2,h3⟩:=hK
   exact(hy k args m' nx' h1 h2).mono h3) hm J hR).mono fun e w' ⟨v,d,st',β',h1,h2,h3,h4,h5,U,X,h8⟩=>⟨v,d,st'.mem,st'.nx,β',h1,h2,h4,h5,h3,U,X,h8⟩⟩
end
section
variable{P:Program}{Y:YSpec}{rf:Bool}{Q:Exit->St->Prop}{st:St}
theorem Qr(c a b):AW P Y rf (.cond c a b) Q st=((opd st.env c).ask/\match (opd st.env c).core with
 | .s (.bool t)=>(t=true->AW P Y rf a Q st)/\(t=false->AW P Y rf b Q st)
 | .ub=>AW P Y rf a Q st/\AW P Y rf b Q st
 |_=>False):=rfl
theorem Qs{b:Code}(I:St->Prop)(μ:St->Nat)(h0:I st)(h:∀ st',I st'->AW P Y rf b (seqQ (fun J=>∃ C,Ghost P J C/\I C/\μ C<μ st') Q) st'):AW P Y rf (.loop b) Q st:=⟨I,μ,h0,h⟩
theorem ACalls.mono{f:FuncId}{args:List D}{m:Mem}{nx:Nat}{de C:D->Mem->Nat->Prop}(h:ACalls P f args m nx de)(hp:∀ d m' nx',de d m' nx'->C d m' nx'):ACalls P f args m nx C:=
 ⟨h.1,fun F β w vs hm hn hR=>(h.2 F β w vs hm hn hR).mono fun e w' ⟨v,d,m',nx',β',h1,h2,h3⟩=>⟨v,d,m',nx',β',h1,hp _ _ _ h2,h3⟩⟩
theorem CallOp.mono{dr:Bool}{f:FuncId}{args:List D}{K K':D->Mem->Nat->List Nat->List Nat->Prop}(hk:∀ d m nx rd wr,K d m nx rd wr->K' d m nx rd wr)(h:CallOp P dr st f args K):CallOp P dr st f args K':=by
 rcases h with⟨r,h1,h2⟩|⟨args',rds,r,h1,h2,h3,h4⟩|⟨es,n,t,h1,h2⟩|⟨h1,h2⟩|⟨r,ups,rds,h1,h2,h3⟩|⟨es,n,t,ups,rds,h1,h2,h3,h4⟩
 .exact .inl ⟨r,h1,hk _ _ _ _ _ h2⟩
 .exact .inr (.inl ⟨args',rds,r,h1,h2,h3,hk _ _ _ _ _ h4⟩)
 .exact .inr (.inr (.inl ⟨es,n,t,h1,hk _ _ _ _ _ h2⟩))
 .exact .inr (.inr (.inr (.inl ⟨h1,h2.mono fun d m nx h=>hk _ _ _ _ _ h⟩)))
 .exact .inr (.inr (.inr (.inr (.inl ⟨r,ups,rds,h1,h2,hk _ _ _ _ _ h3⟩))))
 .exact .inr (.inr (.inr (.inr (.inr ⟨es,n,t,ups,rds,h1,h2,h3,hk _ _ _ _ _ h4⟩))))
class eD(Y:YSpec):Prop where
 mono:∀ l args m nx K K',(∀ d m nx,K d m nx->K' d m nx)->Y l args m nx K->Y l args m nx K'
instance:eD noY:=⟨fun _ _ _ _ _ _ _ h=>h⟩
instance{l:Nat}{xs:List (List D)}{I:Nat->Mem->Nat->Prop}{Stop:Mem->Nat->Prop}:eD (UI l xs I Stop):=⟨fun _ _ _ _ _ _ hk ⟨h1,k,h2,h3,h4⟩=>⟨h1,k,h2,h3,fun d m nx h=>hk _ _ _ (h4 d m nx h)⟩⟩
theorem AOp.mono[eD Y]{ops:Array Oper}{dr:Bool}{o:Oper}{K K':St->List Nat->List Nat->Prop}(hk:∀ st rd wr,K st rd wr->K' st rd wr)(h:AOp P Y ops dr o st K):AOp P Y ops dr o st K':=by
 unfold AOp at h ⊢;split at h
 .refine⟨h.1,?_⟩;have h:=h.2;split at h
  .exact h.mono fun _ _ _ _ _ h=>hk _ _ _ h
  .split at h
   .exact⟨h.1,eD.mono _ _ _ _ _ _ (fun _ _ _ h=>hk _ _ _ h) h.2⟩
   .split at h
    .exact⟨h.1,hk _ _ _ h.2⟩
    .exact h
 .split at h
  .exact h
  .split at h
   .rcases h with⟨r,h1,h2⟩|⟨h1,h2⟩
    .exact .inl ⟨r,h1,hk _ _ _ h2⟩
    .exact .inr ⟨fun hc=>⟨(h1 hc).1,(h1 hc).2.mono fun _ _ _ _ _ h=>hk _ _ _ h⟩,fun hc=>hk _ _ _ (h2 hc)⟩
   .split at h
    .exact⟨fun hc=>⟨(h.1 hc).1,(h.1 hc).2.1,eD.mono _ _ _ _ _ _ (fun _ _ _ h=>hk _ _ _ h) (h.1 hc).2.2⟩,fun hc=>hk _ _ _ (h.2 hc)⟩
    split at h
    .split at h
     .rename_i hc;rw[if_pos hc];exact⟨h.1,hk _ _ _ h.2⟩
     .rename_i hc;rw[if_neg hc];exact⟨fun hc=>⟨(h.1 hc).1,(h.1 hc).2.1,hk _ _ _ (h.1 hc).2.2⟩,fun hc=>hk _ _ _ (h.2 hc)⟩
    .exact⟨h.1,hk _ _ _ h.2⟩
theorem AOps.mono[eD Y]{ops:Array Oper}{dr:Bool}{cf:List (Nat×Nat)}{Q C:Exit->St->Prop}(hq:∀ st,Q .normal st->C .normal st):∀ (l:List Oper) (st:St) (tr:Tra),AOps P Y ops dr cf Q l st tr->AOps P Y ops dr cf C l st tr
 |[],st,tr,h=>⟨h.1,hq _ h.2⟩
 |o::l,st,tr,h=>AOp.mono (fun st' rd wr h=>AOps.mono hq l st' _ h) h
theorem vt:∀ (c:Code) {Y:YSpec} [eD Y] {rf:Bool} {Q C:Exit->St->Prop} {st:St},(∀ e st,Q e st->C e st)->AW P Y rf c Q st->AW P Y rf c C st:=by
 intro c
 induction c with
 |skip=>intro Y _ rf;exact fun hq h=>hq _ _ h
 |ret=>intro Y _ rf;exact fun hq h=>hq _ _ h
 |exit id=>intro Y _ rf;exact fun hq h=>hq _ _ h
 |region id ops draw=>
  intro Y _ rf Q C st hq h;cases draw with
  |false=>exact AOps.mono (hq .normal) _ _ _ h
  |true=>
   simp only[AW] at h ⊢;split at h
   .exact AOps.mono (hq .normal) _ _ _ h
   .exact h
 |seq a b J U=>
  intro Y _ rf Q C st hq h;refine J (fun e st' h=>?_) h;cases e with
  |normal=>obtain⟨X,hg,hb⟩:=h;exact⟨X,hg,U hq hb⟩
  |_=>exact hq _ _ h
 |cond c a b J U=>
  intro Y _ rf Q C st hq h;refine⟨h.1,?_⟩;have h:=h.2;split at h
  .exact⟨fun ht=>J hq (h.1 ht),fun ht=>U hq (h.2 ht)⟩
  .exact⟨J hq h.1,U hq h.2⟩
  .exact h
 |block id b ih=>
  intro Y _ rf Q C st hq h;refine ih (fun e st' h=>?_) h;cases e with
  |exit i=>
   simp only[blockQ] at h ⊢;split at h
   .rename_i hi;rw[if_pos hi];exact hq _ _ h
   .rename_i hi;rw[if_neg hi];exact hq _ _ h
  |_=>exact hq _ _ h
 |scope b ih=>
  intro Y _ rf Q C st hq h;refine ih (fun e st' h=>?_) h;cases e with
  |goto l=>exact h
  |_=>exact hq _ _ h
 |loop b ih=>
  intro Y _ rf Q C st hq h;obtain⟨I,μ,h0,h1⟩:=h;refine⟨I,μ,h0,fun st' hi=>ih (fun e X h=>?_) (h1 st' hi)⟩;cases e with
  |normal=>exact h
  |_=>exact hq _ _ h
 |label l=>intro Y _ rf;exact fun hq h=>hq _ _ h
 |rangeFunc g ps assign body J U=>
  intro Y _ rf Q C st hq h;obtain⟨Lf,pu,f,fs,cs,xs,I,Bi,G5,GF,HG,Ba,xx⟩:=h;refine⟨Lf,pu,f,fs,cs,xs,I,Bi,G5,GF,HG,fun k m nx x hx hI=>J (fun e s h=>?_) (Ba k m nx x hx hI),fun m nx h=>hq _ _ (xx m nx h)⟩;cases e with
  |normal=>
   refine U (fun e s h=>?_) h;cases e with
   |normal=>exact h
   |ret=>exact hq _ _ h
   |exit id=>exact hq _ _ h
   |_=>exact h
  |_=>exact h
 |_=>intro Y _ rf;exact fun _ h=>h.elim
theorem least{p:Nat->Prop}:∀ j,p j->∃ i,p i/\∀ k,p k->i<=k:=by
 intro j
 induction j using Nat.strongRecOn with
 |_ j ih=>
  intro hj;by_cases h:∃ k,k<j/\p k
  .obtain⟨k,hk,hp⟩:=h;exact ih k hk hp
  .exact⟨j,hj,fun k hk=>Nat.le_of_not_lt fun ap=>h ⟨k,ap,hk⟩⟩
open Classical in
theorem Pt[eD Y]{b:Code}(J:Nat->St->Prop){j₀:Nat}(h0:J j₀ st)(h:∀ j st',J j st'->AW P Y rf b (seqQ (fun ju=>∃ U,Ghost P ju U/\∃ j',j'<j/\J j' U) Q) st'):AW P Y rf (.loop b) Q st:=by
 have C:∀ st,(∃ j,J j st)->∃ i,J i st/\∀ k,J k st->i<=k:=fun st ⟨j,hj⟩=>least j hj
 let μ:St->Nat:=fun st=>if h:∃ j,J j st then Classical.choose (C st h) else 0
 have hμ:∀ st,(hj:∃ j,J j st)->J (μ st) st/\∀ k,J k st->μ st<=k:=fun st hj=>by
  have:μ st=Classical.choose (C st hj):=by simp only[μ];rw[dif_pos hj]
  rw[this];exact Classical.choose_spec (C st hj)
 refine Qs (fun st=>∃ j,J j st) μ ⟨j₀,h0⟩ fun st' hj=>vt b (fun e ju hq=>?_) (h (μ st') st' (hμ st' hj).1);cases e with
 |normal=>
  obtain⟨U,hg,j',ap,X⟩:=hq;exact⟨U,hg,⟨j',X⟩,Nat.lt_of_le_of_lt ((hμ U ⟨j',X⟩).2 j' X) ap⟩
 |_=>exact hq
end
section
variable{P:Program}{F:Nat->Prop}{β:Pla}{w:World}
theorem Tr.opt{c:Bool}{d:D}(h:Tr d):Tr (.opt c d):=fun F β w v hv=>by
 cases hv with
 |opt _ _ _ h1 h2=>exact .opt c d v (fun hc=>h F β w v (h1 hc)) h2
theorem Tr.agg{cs:List D}(h:∀ d∈cs,Tr d):Tr (.agg cs):=fun F β w v hv=>by
 obtain⟨vs,rfl,hl,C⟩:=hv.agg_inv;exact .agg cs vs hl fun k d u hd J=>h d (cx hd) F β w u (C k d u hd J)
theorem Tr.tup{cs:List D}(h:∀ d∈cs,Tr d):Tr (.tup cs):=fun F β w v hv=>by
 obtain⟨vs,rfl,hl,C⟩:=hv.tup_inv;exact .tup cs vs hl fun k d u hd J=>h d (cx hd) F β w u (C k d u hd J)
theorem Tr.sl{cs:List D}{n:Nat}(h:∀ d∈cs,Tr d):Tr (.sl cs n):=fun F β w v hv=>by
 cases hv with
 |sln a cap=>exact .sln a cap
 |sl _ _ b o cap us hf hb ap rG fx hc C=>
  exact .sl cs n b o cap us (fun e=>e.elim hf fun e=>e hb) (fun i p hp=>by cases hp) ap rG fx hc fun k d hd=>h d (cx hd) F β w _ (C k d hd)
theorem Tr.pt{cs:List D}(h:∀ d∈cs,Tr d):Tr (.pt cs):=fun F β w v hv=>by
 cases hv with
 |pt _ b o us hf hb ap hc C=>
  exact .pt cs b o us (fun e=>e.elim hf fun e=>e hb) (fun i p hp=>by cases hp) ap hc fun k d hd=>h d (cx hd) F β w _ (C k d hd)
theorem Tr.fn{f:Fn}{fs cs:List D}(h:∀ d∈fs,Tr d)(h':∀ d∈cs,Tr d):Tr (.fn f fs cs):=fun F β w v hv=>by
 cases hv with
 |fn _ _ _ us vs hl mK h1 h2=>
  exact .fn f fs cs us vs hl mK (fun k d u hd C=>h d (cx hd) F β w u (h1 k d u hd C)) fun k d u hd C=>h' d (cx hd) F β w u (h2 k d u hd C)
theorem Tr.im{es:List (Value×D)}(h:∀ x∈es,Tr x.2):Tr (.im es):=fun F β w v hv=>by
 cases hv with
 |im _ r ms clock hf hb hc hl dZ hk C=>
  exact .im es r ms clock (fun e=>e.elim hf fun e=>e hb) (fun i p hp=>by cases hp) hc hl dZ hk fun k x m hx hm=>h x (cx hx) F β w _ (C k x m hx hm)
theorem Tr.s(x:Value):Tr (.s x):=fun F β w v hv=>by
 obtain⟨rfl,h⟩:=hv.s_inv;exact .s _ h
theorem Tr.ub:Tr .ub:=fun F β w v hv=>by
 obtain⟨b,rfl⟩:=hv.ub_inv;exact .ub b
theorem Tr.u:Tr .u:=fun F β w v _=>.u v
theorem Tr.z:Tr .z:=fun F β w v hv=>by
 obtain⟨a,rfl⟩:=hv.z_inv;exact .z a
theorem Tr.nil:∀ a∈([]:List D),Tr a:=fun _ h=>by cases h
theorem Tr.cons{d:D}{l:List D}(h:Tr d)(hl:∀ a∈l,Tr a):∀ a∈d::l,Tr a:=fun a ha=>by
 cases ha with
 |head=>exact h
 |tail _ ha=>exact hl a ha
theorem Tr.map{α:Type}{f:α->D}{l:List α}(h:∀ x,Tr (f x)):∀ a∈l.map f,Tr a:=fun a ha=>by
 obtain⟨x,_,rfl⟩:=List.mem_map.1 ha;exact h x
theorem Tr.flat{α:Type}{f:α->List D}{l:List α}(h:∀ x,∀ a∈f x,Tr a):∀ a∈l.flatMap f,Tr a:=fun a ha=>by
 obtain⟨x,_,hx⟩:=List.mem_flatMap.1 ha;exact h x a hx
end
instance(d:D):Decidable d.ask:=match d with
 | .opt c _=>inferInstanceAs (Decidable (c=true))
 | .u | .s _ | .ub | .agg _ | .tup _ | .z | .sl _ _ | .pt _ | .rs _ _ _ | .rp _ _ | .mp _ | .im _ | .fn _ _ _=>isTrue trivial
structure fy where
 pre:Prop
 [dec:Decidable pre]
 val:D
 ups:List (Nat×Option Row):=[]
 rd:List Nat:=[]
 new:Nat:=0
structure PD(α:Type) where
 p:Prop
 [dec:Decidable p]
 d:α
def fy.iR(e:fy):Eff:=⟨e.pre,e.val,e.ups,e.rd,e.new⟩
def GI(op:BinOp)(x y:Value):Option (PD Value):=
 match op,x,y with
 | .shl,.int k a,.int _ b=>some ⟨0<=b,.int k (k.wrap (a*2 ^ (min b.toNat k.bits)))⟩
 | .shr,.int k a,.int _ b=>some ⟨0<=b,.int k (a.fdiv (2 ^ (min b.toNat k.bits)))⟩
 | .add,.int k a,.int k' b=>some ⟨k=k',.int k (k.wrap (a+b))⟩
 | .sub,.int k a,.int k' b=>some ⟨k=k',.int k (k.wrap (a - b))⟩
 | .mul,.int k a,.int k' b=>some ⟨k=k',.int k (k.wrap (a*b))⟩
 | .quo,.int k a,.int k' b=>some ⟨k=k'/\b≠0,.int k (k.wrap (a.tdiv b))⟩
 | .rem,.int k a,.int k' b=>some ⟨k=k'/\b≠0,.int k (a.tmod b)⟩
 | .and,.int k a,.int k' b=>some ⟨k=k',.int k (intBitsV .and k a b)⟩
 | .or,.int k a,.int k' b=>some ⟨k=k',.int k (intBitsV .or k a b)⟩
 | .xor,.int k a,.int k' b=>some ⟨k=k',.int k (intBitsV .xor k a b)⟩
 | .andNot,.int k a,.int k' b=>some ⟨k=k',.int k (intBitsV .andNot k a b)⟩
 | .eql,.int k a,.int k' b=>some ⟨k=k',.bool (a==b)⟩
 | .neq,.int k a,.int k' b=>some ⟨k=k',.bool (a !=b)⟩
 | .lss,.int k a,.int k' b=>some ⟨k=k',.bool (decide (a<b))⟩
 | .leq,.int k a,.int k' b=>some ⟨k=k',.bool (decide (a<=b))⟩
 | .gtr,.int k a,.int k' b=>some ⟨k=k',.bool (decide (b<a))⟩
 | .geq,.int k a,.int k' b=>some ⟨k=k',.bool (decide (b<=a))⟩
 | .eql,.string a,.string b=>some ⟨True,.bool (a.toList==b.toList)⟩
 | .neq,.string a,.string b=>some ⟨True,.bool !(a.toList==b.toList)⟩
 | .lss,.string a,.string b=>some ⟨True,.bool (Op.bytesLess a.toList b.toList)⟩
 | .geq,.string a,.string b=>some ⟨True,.bool !(Op.bytesLess a.toList b.toList)⟩
 |_,_,_=>none
def JL(P:Program)(op:BinOp)(t:TypeId)(xs ys:List D):Option (PD D):=
 match op,flatT P t,zipV xs ys with
 | .eql,some ks,some q=>some ⟨q.1.map kindV=ks/\P.eqGuardType P.depth t=false,.s (.bool (veqs q.1 q.2))⟩
 | .neq,some ks,some q=>some ⟨q.1.map kindV=ks/\P.eqGuardType P.depth t=false,.s (.bool !(veqs q.1 q.2))⟩
 |_,_,_=>none
def KJ(P:Program)(op:BinOp)(t:TypeId)(x y:D):Option (PD D):=
 match x,y with
 | .s (.bool a),.s (.bool b)=>match op with
  | .eql=>some ⟨boT P t=true,.s (.bool (a==b))⟩
  | .neq=>some ⟨boT P t=true,.s (.bool !(a==b))⟩
  |_=>none
 | .s a,.s b=>(GI op a b).map fun r=> @PD.mk _ r.p r.dec (.s r.d)
 | .agg xs,.agg ys=>JL P op t xs ys
 |_,_=>none
def GJ(P:Program)(m:Mem)(op:BinOp)(t:TypeId)(x:D)(y:Operand):Option fy:=
 match y,op,x with
 | .const (.slice none 0 0),.eql,.sl _ n=>some { pre:=slT P t=true,val:=if n=0 then .ub else .s (.bool false) }
 | .const (.pointer none),.eql,.rp i _=>match m i with
  |some _=>some { pre:=ptT P t=true,val:=.s (.bool false),rd:=[i] }
  |none=>none
 | .const (.pointer none),.neq,.rp i _=>match m i with
  |some _=>some { pre:=ptT P t=true,val:=.s (.bool true),rd:=[i] }
  |none=>none
 |_,_,_=>none
def KK(P:Program)(m:Mem)(t:TypeId):D->Option fy
 | .sl _ n=>some { pre:=slT P t=true,val:=.s (.int .i64 n) }
 | .rs i _ n=>match m i with
  |some _=>some { pre:=slT P t=true,val:=.s (.int .i64 n),rd:=[i] }
  |none=>none
 | .z=>some { pre:=slT P t=true,val:=.s (.int .i64 0) }
 | .s (.string b)=>some { pre:=stT P t=true,val:=.s (.int .i64 b.size) }
 | .agg _=>some { pre:=arT P t=true,val:=.s (.int .i64 (lenP P t)) }
 |_=>none
def FD(m:Mem)(sz:Nat):D->Option (PD (List Nat×Nat×List D))
 | .sl es n=>some ⟨n*sz<=es.length,([],n,es.take (n*sz))⟩
 | .z=>some ⟨True,([],0,[])⟩
 | .rs i off n=>match m i with
  |some (.cells cs _)=>some ⟨off+n*sz<=cs.length,([i],n,(cs.drop off).take (n*sz))⟩
  |_=>none
 |_=>none
def Jc(P:Program)(m:Mem)(nx:Nat)(t:TypeId)(s x:D):Option fy:=
 let e:=elemP P t
 let sz:=P.cellsOf e
 match FD m sz x with
 |none=>none
 |some (@PD.mk _ p _ (rd,k,news))=>
  match s with
  | .z=>some { pre:=slT P t=true/\p/\0<sz/\k<=maxLen/\k*P.bytesOf e<=140737488355328,val:=.rs nx 0 k,ups:=[(nx,some (.cells news e))],rd:=rd,new:=1 }
  | .rs i off n=>match m i with
   |some (.cells cs e')=>some { pre:=slT P t=true/\e'=e/\p/\0<sz/\off+n*sz=cs.length/\n+k<=maxLen/\(n+k)*P.bytesOf e<=140737488355328/\i∉rd,val:=.rs nx 0 (n+k),ups:=[(i,none),(nx,some (.cells (cs.drop off++news) e))],rd:=i::rd,new:=1 }
   |_=>none
  |_=>none
def Jd(P:Program)(m:Mem)(t:TypeId)(x k:D)(ok:Bool):Option fy:=match keyV k,x with
 |some key,.mp i=>match m i with
  |some (.map es)=>some { pre:=mapT P t=true/\keyP P (mkeyP P t) key=true/\es.all (fun e=>keyP P (mkeyP P t) e.1)=true,val:=gotD P t ok (lookD key es),rd:=[i] }
  |_=>none
 |some key,.im es=>some { pre:=mapT P t=true/\keyP P (mkeyP P t) key=true/\es.all (fun e=>keyP P (mkeyP P t) e.1)=true,val:=gotD P t ok (lookD key es) }
 |some key,.s (.map none)=>some { pre:=mapT P t=true/\keyP P (mkeyP P t) key=true,val:=gotD P t ok none }
 |_,_=>none
def F0(P:Program)(m:Mem)(t:TypeId)(x k v:D):Option fy:=match keyV k,x with
 |some key,.mp i=>match m i with
  |some (.map es)=>some { pre:=mapT P t=true/\keyP P (mkeyP P t) key=true/\es.all (fun e=>keyP P (mkeyP P t) e.1)=true,val:=.tup [],ups:=[(i,some (.map (putD key v es)))],rd:=[i] }
  |_=>none
 |_,_=>none
def Je(P:Program)(m:Mem)(t:TypeId)(x k:D):Option fy:=match keyV k,x with
 |some key,.mp i=>match m i with
  |some (.map es)=>some { pre:=mapT P t=true/\keyP P (mkeyP P t) key=true/\es.all (fun e=>keyP P (mkeyP P t) e.1)=true,val:=.tup [],ups:=[(i,some (.map (delD key es)))],rd:=[i] }
  |_=>none
 |_,_=>none
def FM(P:Program)(m:Mem)(nx:Nat)(b:Builtin)(ts:Array TypeId)(args:List D):Option fy:=
 match b,args with
 | .len,[x]=>KK P m (ts.getD 0 0) x
 | .append,[s,x]=>if ts.getD 0 0=ts.getD 1 0 then Jc P m nx (ts.getD 0 0) s x else none
 | .min,[.s (.int k a),.s (.int k' b)]=>some { pre:=k=k',val:=.s (.int k (if b<a then b else a)) }
 | .clear,[.rs i off n]=>match m i with
  |some (.cells cs e)=>some { pre:=slT P (ts.getD 0 0)=true/\off+n*P.cellsOf e<=cs.length/\e=elemP P (ts.getD 0 0),val:=.tup [],ups:=[(i,some (.cells (splice cs off (replD n (zeroP P e))) e))],rd:=[i] }
  |_=>none
 | .delete,[x,k]=>Je P m (ts.getD 0 0) x k
 |_,_=>none
def JM(P:Program)(m:Mem)(t:TypeId)(x:D)(lo hi C:Option D):Option fy:=
 match x with
 | .sl es n=>match bndD lo 0,bndD hi n,C with
  |some l,some h,none=>some { pre:=slT P t=true/\0<=l/\l<=h/\h<=n,val:=.sl ((es.drop (l.toNat*P.cellsOf (elemP P t))).take ((h - l).toNat*P.cellsOf (elemP P t))) (h - l).toNat }
  |some l,some h,some d=>match d.int? with
   |some k=>some { pre:=slT P t=true/\hi.isSome=true/\0<=l/\l<=h/\h<=k/\k<=n,val:=.sl ((es.drop (l.toNat*P.cellsOf (elemP P t))).take ((h - l).toNat*P.cellsOf (elemP P t))) (h - l).toNat }
   |none=>none
  |_,_,_=>none
 | .rs i off n=>match m i with
  |some (.cells _ e)=>match bndD lo 0,bndD hi n,C with
   |some l,some h,none=>some { pre:=(slT P t=true/\P.cellsOf e=P.cellsOf (elemP P t))/\0<=l/\l<=h/\h<=n,val:=.rs i (off+l.toNat*P.cellsOf (elemP P t)) (h - l).toNat,rd:=[i] }
   |_,_,_=>none
  |_=>none
 | .s (.string b)=>match bndD lo 0,bndD hi b.size,C with
  |some l,some h,none=>some { pre:=stT P t=true/\0<=l/\l<=h/\h<=b.size,val:=.s (.string (b.extract l.toNat h.toNat)) }
  |_,_,_=>none
 |_=>none
def jN(P:Program)(o:Op)(ρ:Operand->D)(m:Mem)(nx:Nat):Option fy:=
 match o with
 | .move x=>some { pre:=True,val:=ρ x }
 | .assign x=>some { pre:=True,val:=ρ x }
 | .pick c a b=>match (ρ c).core.bool? with
  |some t=>some { pre:=(t=true->(ρ a).ask/\(ρ a).core.bool?.isSome=true)/\(t=false->(ρ b).ask/\(ρ b).core.bool?.isSome=true),val:=.s (.bool (if t then(ρ a).core.bool?.getD false else(ρ b).core.bool?.getD false)) }
  |none=>none
 | .alloc t=>some { pre:=tyOk P t=true,val:=.rp nx 0,ups:=[(nx,some (.cells (zeroP P t) t))],new:=1 }
 | .box t x=>some { pre:=(ρ x).cells.all D.one=true,val:=.rp nx 0,ups:=[(nx,some (.cells (ρ x).cells t))],new:=1 }
 | .build t ps=>match P.underlying t with
  |some (.struct fs)=>(fillD (fun i=>(fs[i]?).map fun f=>(f.offset,P.cellsOf f.type)) (zeroP P t) (ps.toList.map fun q=>(q.1,ρ q.2))).map fun cs=>{ pre:=tyOk P t=true/\fs.toList.all (fun f=>(P.info? f.type).isSome)=true,val:=.agg cs }
  |some (.array _ e)=>(fillD (fun i=>some (i*P.cellsOf e,P.cellsOf e)) (zeroP P t) (ps.toList.map fun q=>(q.1,ρ q.2))).map fun cs=>{ pre:=tyOk P t=true/\tyOk P e=true,val:=.agg cs }
  |_=>none
 | .buildSlice t n ps=>(fillD (fun i=>some (i*P.cellsOf (elemP P t),P.cellsOf (elemP P t))) (replD n (zeroP P (elemP P t))) (ps.toList.map fun q=>(q.1,ρ q.2))).map fun cs=>
   { pre:=cs.all D.one=true/\n*P.cellsOf (elemP P t)<=2 ^ 24/\slT P t=true/\n<=maxLen,val:=.rs nx 0 n,ups:=[(nx,some (.cells cs (elemP P t)))],new:=1 }
 | .load t a=>match ρ a with
  | .pt cs=>some { pre:=tyOk P t=true/\P.cellsOf t<=cs.length,val:=takeV P t cs }
  | .rp i off=>match m i with
   |some (.cells cs _)=>some { pre:=tyOk P t=true/\off+P.cellsOf t<=cs.length,val:=takeV P t (cs.drop off),rd:=[i] }
   |_=>none
  |_=>none
 | .store t a x=>match ρ a with
  | .rp i off=>match m i with
   |some (.cells cs e)=>some { pre:=tyOk P t=true/\(ρ x).cells.length=P.cellsOf t/\off+P.cellsOf t<=cs.length/\(ρ x).cells.all D.one=true,val:=.tup [],ups:=[(i,some (.cells (splice cs off (ρ x).cells) e))],rd:=[i] }
   |_=>none
  |_=>none
 | .nilCheck x=>match ρ x with
  | .pt cs=>some { pre:=True,val:=.pt cs }
  | .rp i off=>match m i with
   |some _=>some { pre:=True,val:=.rp i off,rd:=[i] }
   |none=>none
  |_=>none
 | .binOp op t x y _=>match GJ P m op t (ρ x) y with
  |some e=>some e
  |none=>(KJ P op t (ρ x) (ρ y)).map fun r=> @fy.mk r.p r.dec r.d [] [] 0
 | .unOp op _ x=>match ρ x with
  | .s v=>(unV op v).map fun r=>{ pre:=True,val:=.s r }
  |_=>none
 | .convert src dst x=>match P.underlying dst,ρ x with
  |some (.int k),.s (.int _ n)=>some { pre:=tyOk P src=true,val:=.s (.int k (k.wrap n)) }
  |some (.slice e),.s (.string b)=>match P.underlying e with
   |some (.int .u8)=>some { pre:=stT P src=true/\b.size<=maxLen,val:=.sl (b.data.toList.map fun c=>.s (.int .u8 c.toNat)) b.size }
   |_=>none
  |_,_=>none
 | .makeFunc f fs cs=>some { pre:=True,val:=.fn f (fs.toList.map ρ) (cs.toList.map ρ) }
 | .makeMap _ r=>match r with
  |none=>some { pre:=True,val:=.mp nx,ups:=[(nx,some (.map []))],new:=1 }
  |some _=>none
 | .makeSlice t l c=>match ρ l,ρ c with
  | .s (.int .i64 n),.s (.int .i64 k)=>some { pre:=0<=n/\n=k/\n<=9223372036854775807/\P.bytesOf (elemP P t)*n<=281474976710656/\slT P t=true,val:=.rs nx 0 n.toNat,ups:=[(nx,some (.cells (replD n.toNat (zeroP P (elemP P t))) (elemP P t)))],new:=1 }
  |_,_=>none
 | .lookup t x k ok=>Jd P m t (ρ x) (ρ k) ok
 | .mapUpdate t x k v=>F0 P m t (ρ x) (ρ k) (ρ v)
 | .insert t x k v=>F0 P m t (ρ x) (ρ k) (ρ v)
 | .slice t x lo hi C=>JM P m t (ρ x) (lo.map ρ) (hi.map ρ) (C.map ρ)
 | .fieldAddr t x k=>match fieldP P t k,ρ x with
  |some (off,ft),.pt cs=>some { pre:=0<P.cellsOf ft,val:=.pt (cs.drop off) }
  |some (off,ft),.rp i o=>match m i with
   |some _=>some { pre:=0<P.cellsOf ft,val:=.rp i (o+off),rd:=[i] }
   |none=>none
  |_,_=>none
 | .field t x k=>match fieldP P t k,ρ x with
  |some (off,ft),.agg cs=>some { pre:=tyOk P ft=true/\off+P.cellsOf ft<=cs.length,val:=takeV P ft (cs.drop off) }
  |_,_=>none
 | .indexAddr t x i=>match ρ x,ρ i with
  | .sl es n,.s (.int _ k)=>some { pre:=slT P t=true/\0<=k/\k<n/\(k.toNat+1)*P.cellsOf (elemP P t)<=es.length,val:=.pt (es.drop (k.toNat*P.cellsOf (elemP P t))) }
  | .rs j off n,.s (.int _ k)=>match m j with
   |some _=>some { pre:=slT P t=true/\0<=k/\k<n,val:=.rp j (off+k.toNat*P.cellsOf (elemP P t)),rd:=[j] }
   |none=>none
  | .rp j off,.s (.int _ k)=>match m j with
   |some _=>some { pre:=arT P t=true/\0<=k/\k<lenP P t,val:=.rp j (off+k.toNat*P.cellsOf (elemP P t)),rd:=[j] }
   |none=>none
  |_,_=>none
 | .index t x i=>match ρ x,ρ i with
  | .s (.string b),.s (.int _ k)=>some { pre:=stT P t=true/\0<=k/\k<b.size,val:=.s (.int .u8 (b.data.toList.getD k.toNat 0).toNat) }
  | .agg cs,.s (.int _ k)=>some { pre:=arT P t=true/\0<=k/\k<lenP P t/\(k.toNat+1)*P.cellsOf (elemP P t)<=cs.length,val:=takeV P (elemP P t) (cs.drop (k.toNat*P.cellsOf (elemP P t))) }
  |_,_=>none
 | .extract x k=>match ρ x with
  | .tup cs=>some { pre:=k<cs.length,val:=cs.getD k .u }
  |_=>none
 | .call c=>match c.callee with
  | .builtin b=>if c.argTypes.size=c.args.size then FM P m nx b c.argTypes (c.args.toList.map ρ) else none
  |_=>none
 |_=>none
theorem Z5(op:BinOp)(x y:Value):binV op x y=(GI op x y).map fun r=>(r.p,r.d):=by
 cases op<;>cases x<;>first|rfl|(cases y<;>rfl)
theorem XX(P:Program)(op:BinOp)(t:TypeId)(xs ys:List D):aggEqD P op t xs ys=(JL P op t xs ys).map fun r=>(r.p,r.d):=by
 unfold aggEqD JL;cases op<;>first|rfl|skip
 all_goals cases flatT P t<;>first|rfl|skip
 all_goals cases zipV xs ys<;>rfl
theorem Z6(P:Program)(op:BinOp)(t:TypeId)(x y:D):binD P op t x y=(KJ P op t x y).map fun r=>(r.p,r.d):=by
 have C:∀ a b,(binV op a b).map (fun r=>(r.1,D.s r.2))=((GI op a b).map fun r=> @PD.mk _ r.p r.dec (D.s r.d)).map fun r=>(r.p,r.d):=fun a b=>by
  rw[Z5];cases GI op a b<;>rfl
 cases x with
 |s a=>
  cases y with
  |s b=>
   cases a with
   |bool a=>
    cases b with
    |bool b=>cases op<;>rfl
    |_=>exact C _ _
   |_=>exact C _ _
  |_=>cases a<;>rfl
 |agg xs=>
  cases y with
  |agg ys=>exact XX P op t xs ys
  |_=>rfl
 |_=>rfl
theorem Z7(P:Program)(m:Mem)(op:BinOp)(t:TypeId)(x:D)(y:Operand):nilD P m op t x y=(GJ P m op t x y).map fy.iR:=by
 unfold nilD GJ;split<;>split<;>simp_all[fy.iR]
 all_goals split<;>simp_all[fy.iR]
theorem Z8(P:Program)(m:Mem)(t:TypeId)(x:D):lenD P m t x=(KK P m t x).map fy.iR:=by
 unfold lenD KK;split<;>first|rfl|skip
 all_goals split<;>simp_all[fy.iR]
theorem Xq(m:Mem)(sz:Nat)(x:D):sliceCells m sz x=(FD m sz x).map fun r=>(r.p,r.d):=by
 unfold sliceCells FD;split<;>first|rfl|skip
 all_goals split<;>simp_all
theorem XJ(P:Program)(m:Mem)(nx:Nat)(t:TypeId)(s x:D):appendD P m nx t s x=(Jc P m nx t s x).map fy.iR:=by
 unfold appendD Jc;simp only[Xq];cases FD m (P.cellsOf (elemP P t)) x with
 |none=>rfl
 |some r=>
  obtain⟨p,rd,k,news⟩:=r;simp only[Option.map_some];split<;>first|rfl|skip
  all_goals split<;>simp_all[fy.iR]
theorem XK(P:Program)(m:Mem)(t:TypeId)(x k:D)(ok:Bool):lookupD P m t x k ok=(Jd P m t x k ok).map fy.iR:=by
 unfold lookupD Jd;split<;>first|rfl|skip
 all_goals split<;>simp_all[fy.iR]
theorem NK(P:Program)(m:Mem)(t:TypeId)(x k v:D):mapPutD P m t x k v=(F0 P m t x k v).map fy.iR:=by
 unfold mapPutD F0;split<;>first|rfl|skip
 all_goals split<;>simp_all[fy.iR]
theorem XL(P:Program)(m:Mem)(t:TypeId)(x k:D):mapDelD P m t x k=(Je P m t x k).map fy.iR:=by
 unfold mapDelD Je;split<;>first|rfl|skip
 all_goals split<;>simp_all[fy.iR]
theorem Xz(P:Program)(m:Mem)(nx:Nat)(b:Builtin)(ts:Array TypeId)(args:List D):builtinD P m nx b ts args=(FM P m nx b ts args).map fy.iR:=by
 cases b with
 |len=>
  match args with
  |[]=>rfl
  |[x]=>exact Z8 _ _ _ _
  |_::_::_=>rfl
 |append=>
  match args with
  |[]=>rfl
  |[x]=>rfl
  |[s,x]=>
   simp only[builtinD,FM];split
   .exact XJ _ _ _ _ _ _
   .rfl
  |_::_::_::_=>rfl
 |min=>
  match args with
  |[]=>rfl
  |[x]=>
   cases x with
   |s a=>cases a<;>rfl
   |_=>rfl
  |[x,y]=>
   cases x with
   |s a=>
    cases a with
    |int k a=>
     cases y with
     |s b=>cases b<;>rfl
     |_=>rfl
    |_=>rfl
   |_=>rfl
  |x::y::_::_=>
   cases x with
   |s a=>
    cases a with
    |int k a=>
     cases y with
     |s b=>cases b<;>rfl
     |_=>rfl
    |_=>rfl
   |_=>rfl
 |clear=>
  match args with
  |[]=>rfl
  |[x]=>
   cases x with
   |rs i off n=>
    simp only[builtinD,FM];cases m i with
    |none=>rfl
    |some r=>cases r<;>rfl
   |_=>rfl
  |x::_::_=>cases x<;>rfl
 |delete=>
  match args with
  |[]=>rfl
  |[x]=>rfl
  |[x,k]=>exact XL _ _ _ _ _
  |_::_::_::_=>rfl
 |_=>rfl
theorem XY(P:Program)(m:Mem)(t:TypeId)(x:D)(lo hi C:Option D):sliceD P m t x lo hi C=(JM P m t x lo hi C).map fy.iR:=by
 unfold sliceD JM;cases x with
 |sl es n=>
  simp only;cases bndD lo 0<;>first|rfl|skip
  cases bndD hi n<;>first|rfl|skip
  cases C with
  |none=>rfl
  |some d=>
   simp only;cases d.int? <;>rfl
 |rs i off n=>
  simp only;cases m i with
  |none=>rfl
  |some r=>
   cases r<;>first|rfl|skip
   simp only;cases bndD lo 0<;>first|rfl|skip
   cases bndD hi n<;>first|rfl|skip
   cases C<;>rfl
 |s v=>
  cases v<;>first|rfl|skip
  simp only;cases bndD lo 0<;>first|rfl|skip
  rename_i b _;cases bndD hi b.size<;>first|rfl|skip
  cases C<;>rfl
 |_=>rfl
theorem Qo(P:Program)(o:Op)(ρ:Operand->D)(m:Mem)(nx:Nat):aop P o ρ m nx=(jN P o ρ m nx).map fy.iR:=by
 cases o with
 |call c=>
  simp only[aop,jN];cases c.callee with
  |builtin b=>
   simp only;split
   .exact Xz _ _ _ _ _ _
   .rfl
  |_=>rfl
 |binOp op t x y _=>
  simp only[aop,jN,Z7,Z6];cases GJ P m op t (ρ x) y with
  |some e=>rfl
  |none=>
   cases KJ P op t (ρ x) (ρ y) with
   |some r=>rfl
   |none=>rfl
 |lookup t x k ok=>exact XK _ _ _ _ _ _
 |mapUpdate t x k v=>exact NK _ _ _ _ _ _
 |insert t x k v=>exact NK _ _ _ _ _ _
 |slice t x lo hi J=>exact XY _ _ _ _ _ _ _
 |build t ps=>
  simp only[aop,jN];cases P.underlying t with
  |none=>rfl
  |some u=>
   cases u with
   |struct fs=>simp only;cases fillD _ _ _<;>rfl
   |array n e=>simp only;cases fillD _ _ _<;>rfl
   |_=>rfl
 |buildSlice t n ps=>
  simp only[aop,jN];cases fillD _ _ _<;>rfl
 |unOp op t x=>
  simp only[aop,jN];cases ρ x with
  |s v=>simp only;cases unV op v<;>rfl
  |_=>rfl
 |load t a=>
  simp only[aop,jN];cases ρ a with
  |rp i off=>simp only;cases m i with
   |none=>rfl
   |some r=>cases r<;>rfl
  |_=>rfl
 |store t a x=>
  simp only[aop,jN];cases ρ a with
  |rp i off=>simp only;cases m i with
   |none=>rfl
   |some r=>cases r<;>rfl
  |_=>rfl
 |pick c a b=>
  simp only[aop,jN];cases (ρ c).core.bool? <;>rfl
 |nilCheck x=>
  simp only[aop,jN];cases ρ x with
  |rp i off=>simp only;cases m i<;>rfl
  |_=>rfl
 |makeMap t r=>cases r<;>rfl
 |makeSlice t l c=>
  simp only[aop,jN];cases ρ l with
  |s v=>
   cases v with
   |int k n=>
    cases k with
    |i64=>
     cases ρ c with
     |s v=>cases v with
      |int k n=>cases k<;>rfl
      |_=>rfl
     |_=>rfl
    |_=>rfl
   |_=>rfl
  |_=>rfl
 |convert src dst x=>
  simp only[aop,jN];cases P.underlying dst with
  |none=>rfl
  |some u=>
   cases u with
   |int k=>cases ρ x with
    |s v=>cases v<;>rfl
    |_=>rfl
   |slice e=>cases ρ x with
    |s v=>cases v with
     |string b=>
      simp only;cases P.underlying e with
      |none=>rfl
      |some u=>
       cases u with
       |int k=>cases k<;>rfl
       |_=>rfl
     |_=>rfl
    |_=>rfl
   |_=>rfl
 |fieldAddr t x k=>
  simp only[aop,jN];cases fieldP P t k with
  |none=>rfl
  |some q=>
   obtain⟨off,C⟩:=q;cases ρ x with
   |rp i o=>simp only;cases m i<;>rfl
   |_=>rfl
 |field t x k=>
  simp only[aop,jN];cases fieldP P t k with
  |none=>rfl
  |some q=>
   obtain⟨off,C⟩:=q;cases ρ x<;>rfl
 |indexAddr t x i=>
  simp only[aop,jN];cases ρ x with
  |sl es n=>cases ρ i with
   |s v=>cases v<;>rfl
   |_=>rfl
  |rs j off n=>cases ρ i with
   |s v=>cases v with
    |int k n=>simp only;cases m j<;>rfl
    |_=>rfl
   |_=>rfl
  |rp j off=>cases ρ i with
   |s v=>cases v with
    |int k n=>simp only;cases m j<;>rfl
    |_=>rfl
   |_=>rfl
  |_=>rfl
 |index t x i=>
  simp only[aop,jN];cases ρ x with
  |s v=>cases v with
   |string b=>cases ρ i with
    |s v=>cases v<;>rfl
    |_=>rfl
   |_=>rfl
  |agg cs=>cases ρ i with
   |s v=>cases v<;>rfl
   |_=>rfl
  |_=>rfl
 |extract x k=>
  simp only[aop,jN];cases ρ x<;>rfl
 |_=>rfl
inductive T(α:Type) where
 |leaf
 |node (v:Option α) (l r:T α)
def T.get{α:Type}:T α->Nat->Option α
 | .leaf,_=>none
 | .node v l r,i=>bif Nat.beq i 0 then v else bif Nat.beq (i % 2) 1 then l.get (i / 2) else r.get (i / 2 - 1)
def T.set{α:Type}:Nat->T α->Nat->Option α->T α
 |0,t,_,_=>t
 |f+1,.leaf,i,v=>bif Nat.beq i 0 then .node v .leaf .leaf else bif Nat.beq (i % 2) 1 then .node none (T.set f .leaf (i / 2) v) .leaf else .node none .leaf (T.set f .leaf (i / 2 - 1) v)
 |f+1,.node v0 l r,i,v=>bif Nat.beq i 0 then .node v l r else bif Nat.beq (i % 2) 1 then .node v0 (T.set f l (i / 2) v) r else .node v0 l (T.set f r (i / 2 - 1) v)
theorem T.vp{α:Type}(v:Option α)(l r:T α)(i:Nat):(T.node v l r).get i=if i=0 then v else if i % 2=1 then l.get (i / 2) else r.get (i / 2 - 1):=by
 simp only[T.get,Bool.cond_eq_ite,Nat.beq_eq]
theorem T.CT{α:Type}(v:Option α):∀ (f:Nat) (t:T α) (i j:Nat),i+1<2 ^ f->(T.set f t i v).get j=if j=i then v else t.get j
 |0,t,i,j,h=>by simp at h
 |f+1,t,i,j,h=>by
  have h2:2 ^ (f+1)=2*2 ^ f:=by rw[Nat.pow_succ];omega
  have X:i % 2=1->i / 2+1<2 ^ f:=fun _=>by omega
  have jW:i≠0->i % 2≠1->i / 2 - 1+1<2 ^ f:=fun _ _=>by omega
  have U:∀ k,(T.leaf:T α).get k=none:=fun k=>rfl;cases t with
  |leaf=>
   simp only[T.set,Bool.cond_eq_ite,Nat.beq_eq];by_cases h0:i=0
   .subst h0;simp only[if_true,T.vp,U];by_cases hj:j=0<;>simp[hj]
   .rw[if_neg h0];by_cases h1:i % 2=1
    .rw[if_pos h1,T.vp,T.CT v f _ _ _ (X h1)];simp only[U];by_cases hj:j=i
     .subst hj;simp[h0,h1]
     .rw[if_neg hj];by_cases J:j=0
      .rw[if_pos J]
      .rw[if_neg J];by_cases C:j % 2=1
       .rw[if_pos C,if_neg oG]
       .rw[if_neg C]
    .rw[if_neg h1,T.vp,T.CT v f _ _ _ (jW h0 h1)];simp only[U];by_cases hj:j=i
     .subst hj;simp[h0,h1]
     .rw[if_neg hj];by_cases J:j=0
      .rw[if_pos J]
      .rw[if_neg J];by_cases C:j % 2=1
       .rw[if_pos C]
       .rw[if_neg C,if_neg oG]
  |node v0 l r=>
   simp only[T.set,Bool.cond_eq_ite,Nat.beq_eq];by_cases h0:i=0
   .subst h0;simp only[if_true,T.vp];by_cases hj:j=0<;>simp[hj]
   .rw[if_neg h0];by_cases h1:i % 2=1
    .rw[if_pos h1,T.vp,T.vp,T.CT v f _ _ _ (X h1)];by_cases hj:j=i
     .subst hj;simp[h0,h1]
     .rw[if_neg hj];by_cases J:j=0
      .rw[if_pos J,if_pos J]
      .rw[if_neg J,if_neg J];by_cases C:j % 2=1
       .rw[if_pos C,if_pos C,if_neg oG]
       .rw[if_neg C,if_neg C]
    .rw[if_neg h1,T.vp,T.vp,T.CT v f _ _ _ (jW h0 h1)];by_cases hj:j=i
     .subst hj;simp[h0,h1]
     .rw[if_neg hj];by_cases J:j=0
      .rw[if_pos J,if_pos J]
      .rw[if_neg J,if_neg J];by_cases C:j % 2=1
       .rw[if_pos C,if_pos C]
       .rw[if_neg C,if_neg C,if_neg oG]
def T.put{α:Type}(t:T α)(i:Nat)(v:Option α):Option (T α):=bif Nat.blt i 1000000 then some (T.set 20 t i v) else none
theorem T.Qp{α:Type}{t C:T α}{i:Nat}{v:Option α}(h:t.put i v=some C)(j:Nat):C.get j=if j=i then v else t.get j:=by
 unfold T.put at h;cases hb:Nat.blt i 1000000 with
 |false=>rw[hb] at h;cases h
 |true=>
  rw[hb] at h;simp only[cond_true,aQ] at h;subst h;have:i<1000000:=by simpa using hb
  exact T.CT v 20 t i j oG
structure cw where
 env:T D
 mem:T Row
 nx:Nat
def dA(t:T D):Env:=fun i=>(t.get i).getD .u
def eW(t:T Row):Mem:=fun i=>t.get i
def cw.st(c:cw):St:=⟨dA c.env,eW c.mem,c.nx⟩
theorem Jf{t C:T D}{i:Nat}{d:D}(h:t.put i (some d)=some C):dA C=up (dA t) i d:=by
 funext j;simp only[dA,T.Qp h,up_apply];split<;>rfl
theorem Pq{t C:T Row}{i:Nat}{r:Option Row}(h:t.put i r=some C):eW C=up (eW t) i r:=by
 funext j;simp only[eW,T.Qp h,up_apply]
def Bw(t:T D):Option Nat->D->Option (T D)
 |none,_=>some t
 |some i,d=>t.put i (some d)
def Eh(m:T Row):List (Nat×Option Row)->Option (T Row)
 |[]=>some m
 |(i,r)::us=>match m.put i r with
  |some m'=>Eh m' us
  |none=>none
theorem JN{t C:T D}{dst:Option Nat}{d:D}(h:Bw t dst d=some C)(m:Mem)(nx:Nat):(⟨dA C,m,nx⟩:St)=St.put ⟨dA t,m,nx⟩ dst d:=by
 cases dst with
 |none=>simp only[Bw,aQ] at h;subst h;rfl
 |some i=>simp only[Bw] at h;simp only[St.put,Jf h]
theorem Pr:∀ {us:List (Nat×Option Row)} {m m':T Row},Eh m us=some m'->eW m'=upds (eW m) us
 |[],m,m',h=>by simp only[Eh,aQ] at h;subst h;rfl
 |(i,r)::us,m,m',h=>by
  simp only[Eh] at h;cases hp:m.put i r with
  |none=>rw[hp] at h;cases h
  |some C=>
   rw[hp] at h;simp only at h;rw[Pr h,Pq hp];rfl
def qB:Nat->D->Bool
 |0,_=>false
 |n+1,d=>match d with
  | .rs .. | .rp .. | .mp _=>false
  | .opt _ d=>qB n d
  | .agg cs | .tup cs | .pt cs | .sl cs _=>cs.all (qB n)
  | .fn _ fs cs=>fs.all (qB n)&&cs.all (qB n)
  | .im es=>es.all fun x=>qB n x.2
  |_=>true
section
variable{P:Program}{F:Nat->Prop}{β:Pla}{w:World}
theorem pV:∀ {n:Nat} {d:D},qB n d=true->Tr d
 |0,_,h=>by cases h
 |n+1,d,h=>by
  cases d with
  |rs=>cases h
  |rp=>cases h
  |mp=>cases h
  |opt c d=>exact .opt (pV h)
  |agg cs=>exact .agg fun d hd=>pV (bJ.1 h d hd)
  |tup cs=>exact .tup fun d hd=>pV (bJ.1 h d hd)
  |sl cs n=>exact .sl fun d hd=>pV (bJ.1 h d hd)
  |pt cs=>exact .pt fun d hd=>pV (bJ.1 h d hd)
  |fn f fs cs=>
   simp only[qB,aO] at h;exact .fn (fun d hd=>pV (bJ.1 h.1 d hd)) fun d hd=>pV (bJ.1 h.2 d hd)
  |im es=>exact .im fun x hx=>pV (bJ.1 h x hx)
  |s v=>exact .s v
  |ub=>exact .ub
  |u=>exact .u
  |z=>exact .z
def iK{α β:Type}(f:α->Option (β×List Nat)):List α->Option (List β×List Nat)
 |[]=>some ([],[])
 |x::xs=>match f x with
  |none=>none
  |some y=>match iK f xs with
   |none=>none
   |some ys=>some (y.1::ys.1,y.2++ys.2)
theorem FN{α β:Type}{f:α->Option (β×List Nat)}:∀ {xs:List α} {ys:List β} {r:List Nat},iK f xs=some (ys,r)->
 ys.length=xs.length/\(∀ (k:Nat) (y:β),ys[k]? =some y->∃ x r',xs[k]? =some x/\f x=some (y,r')/\∀ i∈r',i∈r)
 |[],ys,r,h=>by simp only[iK,aQ,b8] at h;obtain⟨rfl,rfl⟩:=h;simp
 |x::xs,ys,r,h=>by
  simp only[iK] at h;cases hx:f x with
  |none=>rw[hx] at h;cases h
  |some y=>
   rw[hx] at h;simp only at h;cases J:iK f xs with
   |none=>rw[J] at h;cases h
   |some U=>
    rw[J] at h;simp only[aQ,b8] at h;obtain⟨rfl,rfl⟩:=h;obtain⟨h1,h2⟩:=FN (ys:=U.1) (r:=U.2) J;refine⟨by simp[h1],fun k z C=>?_⟩;cases k with
    |zero=>
     simp only[List.getElem?_cons_zero,aQ] at C;subst C;exact⟨x,y.2,rfl,hx,fun i hi=>by simp[hi]⟩
    |succ k=>
     obtain⟨x',r',X,g2,g3⟩:=h2 k z (by simpa using C);exact⟨x',r',by simpa using X,g2,fun i hi=>by simp[g3 i hi]⟩
def cL(P:Program)(m:Mem):Nat->D->Option (D×List Nat)
 |0,_=>none
 |n+1,d=>match d with
  | .mp i=>match m i with
   |some (.map es)=>(iK (fun x=>(cL P m n x.2).map fun y=>((x.1,y.1),y.2)) es).map fun x=>(.im x.1,i::x.2)
   |_=>none
  | .im es=>(iK (fun x=>(cL P m n x.2).map fun y=>((x.1,y.1),y.2)) es).map fun x=>(.im x.1,x.2)
  | .rs i off k=>match m i with
   |some (.cells cs e)=>(iK (cL P m n) ((cs.drop off).take (k*P.cellsOf e))).map fun x=>(.sl x.1 k,i::x.2)
   |_=>none
  | .rp i off=>match m i with
   |some (.cells cs _)=>(iK (cL P m n) (cs.drop off)).map fun x=>(.pt x.1,i::x.2)
   |_=>none
  | .opt true d=>(cL P m n d).map fun x=>(.opt true x.1,x.2)
  | .opt false _=>some (.opt false .u,[])
  | .agg cs=>(iK (cL P m n) cs).map fun x=>(.agg x.1,x.2)
  | .tup cs=>(iK (cL P m n) cs).map fun x=>(.tup x.1,x.2)
  | .sl cs k=>(iK (cL P m n) cs).map fun x=>(.sl x.1 k,x.2)
  | .pt cs=>(iK (cL P m n) cs).map fun x=>(.pt x.1,x.2)
  | .fn f fs cs=>match iK (cL P m n) fs with
   |none=>none
   |some x=>(iK (cL P m n) cs).map fun y=>(.fn f x.1 y.1,x.2++y.2)
  | .s v=>some (.s v,[])
  | .ub=>some (.ub,[])
  | .u=>some (.u,[])
  | .z=>some (.z,[])
theorem sr{α β:Type}{f:α->Option (β×List Nat)}{xs:List α}{ys:List β}{r:List Nat}(h:iK f xs=some (ys,r)){p:β->Prop}(hp:∀ x y r',f x=some (y,r')->p y):∀ y∈ys,p y:=fun y hy=>by
 obtain⟨k,hk⟩:=dt hy;obtain⟨x,r',_,h2,_⟩:=(FN h).2 k y hk;exact hp x y r' h2
theorem Gd{m:Mem}:∀ {n:Nat} {d d':D} {r:List Nat},cL P m n d=some (d',r)->Tr d'
 |0,_,_,_,h=>by cases h
 |n+1,d,d',r,h=>by
  have ih:∀ x y r',cL P m n x=some (y,r')->Tr y:=fun x y r' h=>Gd h
  have C:∀ (x:Value×D) (y:Value×D) r',(cL P m n x.2).map (fun y=>((x.1,y.1),y.2))=some (y,r')->Tr y.2:=fun x y r' h=>by
   simp only[dw,b8] at h;obtain⟨z,J,rfl,_⟩:=h;exact Gd (r:=z.2) J
  cases d with
  |mp i=>
   simp only[cL] at h;split at h
   .simp only[dw,b8] at h;obtain⟨x,hx,rfl,_⟩:=h;exact .im (sr (ys:=x.1) (r:=x.2) hx C)
   .cases h
  |im es=>
   simp only[cL,dw,b8] at h;obtain⟨x,hx,rfl,_⟩:=h;exact .im (sr (ys:=x.1) (r:=x.2) hx C)
  |rs i off k=>
   simp only[cL] at h;split at h
   .simp only[dw,b8] at h;obtain⟨x,hx,rfl,_⟩:=h;exact .sl (sr (ys:=x.1) (r:=x.2) hx ih)
   .cases h
  |rp i off=>
   simp only[cL] at h;split at h
   .simp only[dw,b8] at h;obtain⟨x,hx,rfl,_⟩:=h;exact .pt (sr (ys:=x.1) (r:=x.2) hx ih)
   .cases h
  |opt c d=>
   cases c with
   |true=>
    simp only[cL,dw,b8] at h;obtain⟨x,hx,rfl,_⟩:=h;exact .opt (Gd (r:=x.2) hx)
   |false=>simp only[cL,aQ,b8] at h;obtain⟨rfl,_⟩:=h;exact .opt .u
  |agg cs=>
   simp only[cL,dw,b8] at h;obtain⟨x,hx,rfl,_⟩:=h;exact .agg (sr (ys:=x.1) (r:=x.2) hx ih)
  |tup cs=>
   simp only[cL,dw,b8] at h;obtain⟨x,hx,rfl,_⟩:=h;exact .tup (sr (ys:=x.1) (r:=x.2) hx ih)
  |sl cs k=>
   simp only[cL,dw,b8] at h;obtain⟨x,hx,rfl,_⟩:=h;exact .sl (sr (ys:=x.1) (r:=x.2) hx ih)
  |pt cs=>
   simp only[cL,dw,b8] at h;obtain⟨x,hx,rfl,_⟩:=h;exact .pt (sr (ys:=x.1) (r:=x.2) hx ih)
  |fn f fs cs=>
   simp only[cL] at h;cases hx:iK (cL P m n) fs with
   |none=>rw[hx] at h;cases h
   |some x=>
    rw[hx] at h;simp only[dw,b8] at h;obtain⟨y,hy,rfl,_⟩:=h;exact .fn (sr (ys:=x.1) (r:=x.2) hx ih) (sr (ys:=y.1) (r:=y.2) hy ih)
  |s v=>simp only[cL,aQ,b8] at h;obtain⟨rfl,_⟩:=h;exact .s v
  |ub=>simp only[cL,aQ,b8] at h;obtain⟨rfl,_⟩:=h;exact .ub
  |u=>simp only[cL,aQ,b8] at h;obtain⟨rfl,_⟩:=h;exact .u
  |z=>simp only[cL,aQ,b8] at h;obtain⟨rfl,_⟩:=h;exact .z
def adl(P:Program)(F:Nat->Prop)(β:Pla)(w:World)(m:Mem)(rds:List Nat):Prop:=∀ i∈rds,∀ r,m i=some r->∃ p,β i=some p/\RowR P F β w r p/\∀ b,p.blk=some b->¬ F b
theorem AG(b:Nat):noRows.free b:=fun i p hp=>by cases hp
theorem DH{m:Mem}:∀ {n:Nat} {d d':D} {r:List Nat},cL P m n d=some (d',r)->adl P F β w m r->∀ {v:Value},R F β w d v->R F noRows w d' v
 |0,_,_,_,h,_,_,_=>by cases h
 |n+1,d,d',r,h,hl,v,hv=>by
  have many:∀ {xs ys:List D} {r':List Nat},iK (cL P m n) xs=some (ys,r')->(∀ i∈r',i∈r)->ys.length=xs.length/\∀ (k:Nat) (d:D) (u:Value),ys[k]? =some d->(∀ d0,xs[k]? =some d0->R F β w d0 u)->R F noRows w d u:=fun h hr=>by
   obtain⟨h1,h2⟩:=FN h;refine⟨h1,fun k d u hd hu=>?_⟩;obtain⟨x,r2,C,J,g3⟩:=h2 k d hd;exact DH J (fun i hi=>hl i (hr i (g3 i hi))) (hu x C)
  have look:∀ {i:Nat} {cs:List D} {e:TypeId},i∈r->m i=some (.cells cs e)->∃ p,β i=some p/\RowR P F β w (.cells cs e) p/\∀ b,p.blk=some b->¬ F b:=fun hi hm=>hl _ hi _ hm
  have UK:∀ {es ys:List (Value×D)} {r':List Nat} {ms:Array MapEntry},iK (fun x=>(cL P m n x.2).map fun y=>((x.1,y.1),y.2)) es=some (ys,r')->(∀ i∈r',i∈r)->ms.size=es.length->(es.map (·.1)).Nodup->
   (∀ (k:Nat) (x:Value×D) (m:MapEntry),es[k]? =some x->ms[k]? =some m->m.key=x.1/\R F β w x.2 m.val)->
   ms.size=ys.length/\(ys.map (·.1)).Nodup/\(∀ (k:Nat) (x:Value×D) (m:MapEntry),ys[k]? =some x->ms[k]? =some m->m.key=x.1)/\∀ (k:Nat) (x:Value×D) (m:MapEntry),ys[k]? =some x->ms[k]? =some m->R F noRows w x.2 m.val:=fun {es ys r' ms} h hr cA dZ X=>by
   obtain⟨h1,h2⟩:=FN h
   have key:∀ (k:Nat) (y:Value×D),ys[k]? =some y->∃ x r2,es[k]? =some x/\y.1=x.1/\cL P m n x.2=some (y.2,r2)/\∀ i∈r2,i∈r':=fun k y hy=>by
    obtain⟨x,r2,C,J,g3⟩:=h2 k y hy;simp only[dw,b8] at J;obtain⟨z,hz,rfl,rfl⟩:=J;exact⟨x,z.2,C,rfl,hz,g3⟩
   have keys:ys.map (·.1)=es.map (·.1):=by
    refine List.ext_getElem? fun k=>?_;simp only[List.getElem?_map];cases hy:ys[k]? with
    |some y=>
     obtain⟨x,_,C,J,_⟩:=key k y hy;simp[C,J]
    |none=>
     have:es[k]? =none:=by
      rw[List.getElem?_eq_none_iff] at hy ⊢;omega
     simp[this]
   refine⟨by rw[h1];exact cA,by rw[keys];exact dZ,fun k y mm hy eX=>?_,fun k y mm hy eX=>?_⟩
   .obtain⟨x,r2,C,J,_⟩:=key k y hy;rw[J];exact(X k x mm C eX).1
   .obtain⟨x,r2,C,_,g3,g4⟩:=key k y hy;exact DH g3 (fun i hi=>hl i (hr i (g4 i hi))) (X k x mm C eX).2
  cases d with
  |mp i=>
   simp only[cL] at h;split at h
   .rename_i es hm;simp only[dw,b8] at h;obtain⟨x,hx,rfl,rfl⟩:=h;obtain⟨p,hp,ay,ww⟩:=hl i (List.mem_cons_self ..) _ hm;cases hv with
    |mpd _ _ h1 _=>rw[h1] at hp;cases hp;exact absurd rfl ay.live
    |mp _ b h1=>
     rw[h1] at hp;cases hp;cases ay with
     |map _ _ ms clock C J g3 g4=>
      obtain⟨k1,k2,k3,k4⟩:=UK (ys:=x.1) (r':=x.2) hx (fun i hi=>List.mem_cons_of_mem _ hi) J g3 g4;exact .im x.1 b ms clock (ww b rfl) (AG b) C k1 k2 k3 k4
   .cases h
  |im es=>
   simp only[cL,dw,b8] at h;obtain⟨x,hx,rfl,rfl⟩:=h;cases hv with
   |im _ b ms clock hf hb hc J g3 g4 g5=>
    obtain⟨k1,k2,k3,k4⟩:=UK (ys:=x.1) (r':=x.2) hx (fun _ h=>h) J g3 (fun k x m hx hm=>⟨g4 k x m hx hm,g5 k x m hx hm⟩);exact .im x.1 b ms clock hf (AG b) hc k1 k2 k3 k4
  |rs i off k=>
   simp only[cL] at h;split at h
   .rename_i cs e hm;simp only[dw,b8] at h;obtain⟨x,hx,rfl,rfl⟩:=h;obtain⟨p,hp,ay,ww⟩:=look (List.mem_cons_self ..) hm;obtain⟨C,J⟩:=many (ys:=x.1) (r':=x.2) hx (fun i hi=>List.mem_cons_of_mem _ hi)
    have nil:(cs.drop off).take (k*P.cellsOf e)=[]->x.1=[]:=fun e=>by
     rw[e] at C;exact List.eq_nil_of_length_eq_zero (by simpa using C)
    cases hv with
    |rsd _ _ _ _ h1 _=>
     rw[h1] at hp;cases hp;exact absurd rfl ay.live
    |rsn _ a h1=>
     rw[h1] at hp;cases hp;cases ay;rw[nil oS];exact .sln a 0
    |rsz _ _ a b o len room sz h1=>
     rw[nil oS];exact .sln a 0
    |rs _ _ _ cap b o len room sz h1 hn fx h2 h3=>
     rw[h1] at hp;cases hp;obtain⟨df,hl,cA,_⟩:=ay.rd;obtain⟨us,u1,u2⟩:=(df.drop off).take (k*P.cellsOf e)
     have ap:b<w.heap.size:=by
      cases ay with
      |cells _ _ _ _ _ _ c hb=>exact(Array.getElem?_eq_some_iff.1 hb).1
     exact .sl x.1 k b (o+off) cap us (ww b rfl) (AG b) ap hn fx (fun j hj=>u1 j (by rw[<- C];exact hj)) fun j d hd=>J j d _ hd fun d0 U=>u2 j d0 U
   .cases h
  |rp i off=>
   simp only[cL] at h;split at h
   .rename_i cs e hm;simp only[dw,b8] at h;obtain⟨x,hx,rfl,rfl⟩:=h;obtain⟨p,hp,ay,ww⟩:=look (List.mem_cons_self ..) hm;obtain⟨C,J⟩:=many (ys:=x.1) (r':=x.2) hx (fun i hi=>List.mem_cons_of_mem _ hi);cases hv with
    |rpd _ _ _ h1 _=>
     rw[h1] at hp;cases hp;exact absurd rfl ay.live
    |rp _ _ b o len room sz h1=>
     rw[h1] at hp;cases hp;obtain⟨df,hl,cA,_⟩:=ay.rd;obtain⟨us,u1,u2⟩:=df.drop off
     have ap:b<w.heap.size:=by
      cases ay with
      |cells _ _ _ _ _ _ c hb=>exact(Array.getElem?_eq_some_iff.1 hb).1
     exact .pt x.1 b (o+off) us (ww b rfl) (AG b) ap (fun j hj=>u1 j (by rw[<- C];exact hj)) fun j d hd=>J j d _ hd fun d0 U=>u2 j d0 U
   .cases h
  |opt c d=>
   cases hv with
   |opt _ _ _ h1 h2=>
   cases c with
   |true=>
    simp only[cL,dw,b8] at h;obtain⟨x,hx,rfl,rfl⟩:=h;exact .opt true _ v (fun _=>DH (r:=x.2) hx hl (h1 rfl)) oS
   |false=>simp only[cL,aQ,b8] at h;obtain⟨rfl,_⟩:=h;exact .opt false _ v oS h2
  |agg cs=>
   simp only[cL,dw,b8] at h;obtain⟨x,hx,rfl,rfl⟩:=h;obtain⟨vs,rfl,rS,X⟩:=hv.agg_inv;obtain⟨C,J⟩:=many (ys:=x.1) (r':=x.2) hx (fun _ h=>h);exact .agg _ vs (by rw[C];exact rS) fun k d u hd hu=>J k d u hd fun d0 U=>X k d0 u U hu
  |tup cs=>
   simp only[cL,dw,b8] at h;obtain⟨x,hx,rfl,rfl⟩:=h;obtain⟨vs,rfl,rS,X⟩:=hv.tup_inv;obtain⟨C,J⟩:=many (ys:=x.1) (r':=x.2) hx (fun _ h=>h);exact .tup _ vs (by rw[C];exact rS) fun k d u hd hu=>J k d u hd fun d0 U=>X k d0 u U hu
  |sl cs k=>
   simp only[cL,dw,b8] at h;obtain⟨x,hx,rfl,rfl⟩:=h;obtain⟨C,J⟩:=many (ys:=x.1) (r':=x.2) hx (fun _ h=>h);cases hv with
   |sln a cap=>
    have:x.1=[]:=List.eq_nil_of_length_eq_zero (by simpa using C);rw[this];exact .sln a cap
   |sl _ _ b o cap us hf hb ap rG fx hc X=>
    exact .sl _ k b o cap us hf (AG b) ap rG fx (fun j hj=>hc j (by rw[<- C];exact hj)) fun j d hd=>J j d _ hd fun d0 U=>X j d0 U
  |pt cs=>
   simp only[cL,dw,b8] at h;obtain⟨x,hx,rfl,rfl⟩:=h;obtain⟨C,J⟩:=many (ys:=x.1) (r':=x.2) hx (fun _ h=>h);cases hv with
   |pt _ b o us hf hb ap hc X=>
    exact .pt _ b o us hf (AG b) ap (fun j hj=>hc j (by rw[<- C];exact hj)) fun j d hd=>J j d _ hd fun d0 U=>X j d0 U
  |fn f fs cs=>
   simp only[cL] at h;cases hx:iK (cL P m n) fs with
   |none=>rw[hx] at h;cases h
   |some x=>
    rw[hx] at h;simp only[dw,b8] at h;obtain⟨y,hy,rfl,rfl⟩:=h;obtain⟨C,J⟩:=many (ys:=x.1) (r':=x.2) hx (fun _ h=>List.mem_append_left _ h);obtain⟨k1,k2⟩:=many (ys:=y.1) (r':=y.2) hy (fun _ h=>List.mem_append_right _ h);cases hv with
    |fn _ _ _ us vs Mg rS h1 h2=>
     exact .fn f _ _ us vs (by rw[C];exact Mg) (by rw[k1];exact rS) (fun k d u hd hu=>J k d u hd fun d0 U=>h1 k d0 u U hu) fun k d u hd hu=>k2 k d u hd fun d0 U=>h2 k d0 u U hu
  |s v=>simp only[cL,aQ,b8] at h;obtain⟨rfl,_⟩:=h;obtain⟨rfl,h⟩:=hv.s_inv;exact .s _ h
  |ub=>simp only[cL,aQ,b8] at h;obtain⟨rfl,_⟩:=h;obtain⟨b,rfl⟩:=hv.ub_inv;exact .ub b
  |u=>simp only[cL,aQ,b8] at h;obtain⟨rfl,_⟩:=h;exact .u v
  |z=>simp only[cL,aQ,b8] at h;obtain⟨rfl,_⟩:=h;obtain⟨a,rfl⟩:=hv.z_inv;exact .z a
end
section
variable(P:Program)
def xz(env:Env)(o:Op):Bool:=match o with
 | .pick c _ _=>decide (opd env c).ask
 |o=>o.operands.toList.all fun x=>decide (opd env x).ask
theorem IB{env:Env}{o:Op}(h:xz env o=true):asks env o:=by
 unfold xz at h;unfold asks;cases o<;>first|exact of_decide_eq_true h|exact fun x hx=>of_decide_eq_true (bJ.1 h x hx)
abbrev uq:=FuncId->List D->Bool->T Row->Nat->Option (D×T Row×Nat×List Nat×List Nat)
def Ge(call:uq)(f:FuncId)(args:List D)(dr:Bool)(o:Oper)(c:cw):Option (cw×List Nat×List Nat):=
 bif xz (dA c.env) o.op then match call f args dr c.mem c.nx with
  |some (r,m,nx,rd,wr)=>match Bw c.env o.dst r with
   |some env=>some (⟨env,m,nx⟩,rd,wr)
   |none=>none
  |none=>none
 else none
def G8(e:fy)(o:Oper)(c:cw):Option (cw×List Nat×List Nat):=
 bif xz (dA c.env) o.op then match e.dec with
  |isTrue _=>match Eh c.mem e.ups with
   |some m=>match Bw c.env o.dst e.val with
    |some env=>some (⟨env,m,c.nx+e.new⟩,e.rd,e.ups.map (·.1))
    |none=>none
   |none=>none
  |isFalse _=>none
 else none
def xA(o:Oper)(d:D)(rd:List Nat)(c:cw):Option (cw×List Nat×List Nat):=match Bw c.env o.dst d with
 |some env=>some (⟨env,c.mem,c.nx⟩,rd,[])
 |none=>none
def Mp(call:uq)(ops:Array Oper)(dr:Bool)(o:Oper)(c:cw):Option (cw×List Nat×List Nat):=
 match o.guard with
 |none=>match callD (rho (dA c.env) o.op) o.op with
  |some (f,args)=>Ge call f args dr o c
  |none=>match yieldD (rho (dA c.env) o.op) o.op with
   |some _=>none
   |none=>match jN P o.op (rho (dA c.env) o.op) (eW c.mem) c.nx with
    |some e=>G8 e o c
    |none=>none
 |some (j,b)=>match ((ops[j]?).bind (·.dst)).bind fun t=>guardC (dA c.env t) b with
  |none=>none
  |some g=>match callD (rho (dA c.env) o.op) o.op with
   |some (f,args)=>bif g then Ge call f args dr o c else xA o skipD [] c
   |none=>match yieldD (rho (dA c.env) o.op) o.op with
    |some _=>bif g then none else xA o skipD [] c
    |none=>match jN P o.op (rho (dA c.env) o.op) (eW c.mem) c.nx with
     |some e=>bif e.ups.isEmpty&&Nat.beq e.new 0 then
      bif g then bif xz (dA c.env) o.op then match e.dec with
       |isTrue _=>xA o (.opt true e.val) e.rd c
       |isFalse _=>none
      else none
      else xA o (.opt false e.val) e.rd c
      else bif g then G8 e o c else xA o skipD [] c
     |none=>bif g then none else xA o skipD [] c
def Bx(call:uq)(ops:Array Oper)(dr:Bool):List Oper->cw->Tra->Option (cw×Tra)
 |[],c,tr=>some (c,tr)
 |o::os,c,tr=>match Mp P call ops dr o c with
  |some (c',rd,wr)=>Bx call ops dr os c' (tr++[(rd,wr)])
  |none=>none
def Gy(tr:Tra)(i j:Nat):Bool:=
 let a:=tr.getD i ([],[])
 let b:=tr.getD j ([],[])
 (a.2.all fun x=> !(b.1.any (Nat.beq x))&& !(b.2.any (Nat.beq x)))&&b.2.all fun x=> !(a.1.any (Nat.beq x))
theorem Z9{tr:Tra}{i j:Nat}(h:Gy tr i j=true):apartT tr i j:=by
 unfold Gy at h;simp only[aO,bJ,Bool.not_eq_true',List.any_eq_false,Nat.beq_eq] at h;obtain⟨h1,h2⟩:=h;exact⟨fun x hx=>⟨fun hb=>(h1 x hx).1 x hb rfl,fun hb=>(h1 x hx).2 x hb rfl⟩,fun x hx ha=>h2 x hx x ha rfl⟩
def JO(call:uq)(ops:Array Oper)(dr:Bool)(c:cw):Option cw:=
 bif dr then match drawInfo ops with
  |some cf=>match Bx P call ops true ops.toList c [] with
   |some (c',tr)=>bif cf.all fun q=>Gy tr q.1 q.2 then some c' else none
   |none=>none
  |none=>none
 else match Bx P call ops false ops.toList c [] with
  |some (c',_)=>some c'
  |none=>none
def DI(call:uq):Prop:=∀ f args dr m nx r m' nx' rd wr,call f args dr m nx=some (r,m',nx',rd,wr)->∀ env (K:D->Mem->Nat->List Nat->List Nat->Prop),K r (eW m') nx' rd wr->CallOp P dr ⟨env,eW m,nx⟩ f args K
end
section
variable{P:Program}
theorem NZ{call:uq}(hc:DI P call){f:FuncId}{args:List D}{dr:Bool}{o:Oper}{c:cw}{C:cw}{rd wr:List Nat}(h:Ge call f args dr o c=some (C,rd,wr)){K:St->List Nat->List Nat->Prop}(J:K C.st rd wr):
 asks c.st.env o.op/\CallOp P dr c.st f args fun r m nx rd wr=>K (St.put ⟨c.st.env,m,nx⟩ o.dst r) rd wr:=by
 unfold Ge at h;cases ha:xz (dA c.env) o.op with
 |false=>rw[ha] at h;cases h
 |true=>
  rw[ha] at h;simp only[cond_true] at h;refine⟨IB ha,?_⟩;split at h
  .rename_i r m nx Mq wr' U;split at h
   .rename_i env X;simp only[aQ,b8] at h;obtain⟨rfl,rfl,rfl⟩:=h;refine hc _ _ _ _ _ _ _ _ _ _ U _ _ ?_;have:=JN X (eW m) nx;simp only[cw.st] at J ⊢;rw[<- this];exact J
   .cases h
  .cases h
theorem AJ{o:Oper}{d:D}{rd C wr:List Nat}{c J:cw}(h:xA o d rd c=some (J,C,wr)):J.st=St.put c.st o.dst d/\C=rd/\wr=[]:=by
 unfold xA at h;split at h
 .rename_i env U;simp only[aQ,b8] at h;obtain⟨rfl,rfl,rfl⟩:=h;exact⟨JN U (eW c.mem) c.nx,rfl,rfl⟩
 .cases h
theorem Ps{e:fy}{o:Oper}{c C:cw}{rd wr:List Nat}(h:G8 e o c=some (C,rd,wr)){K:St->List Nat->List Nat->Prop}(J:K C.st rd wr):
 asks c.st.env o.op/\e.pre/\K (St.put ⟨c.st.env,upds c.st.mem e.ups,c.st.nx+e.new⟩ o.dst e.val) e.rd (e.ups.map (·.1)):=by
 unfold G8 at h;cases ha:xz (dA c.env) o.op with
 |false=>rw[ha] at h;cases h
 |true=>
  rw[ha] at h;simp only[cond_true] at h;refine⟨IB ha,?_⟩;split at h
  .rename_i hp _;refine⟨hp,?_⟩;split at h
   .rename_i m hm;split at h
    .rename_i env U;simp only[aQ,b8] at h;obtain⟨rfl,rfl,rfl⟩:=h;have:=JN U (eW m) (c.nx+e.new);simp only[cw.st] at J ⊢;rw[<- Pr hm, <- this];exact J
    .cases h
   .cases h
  .cases h
theorem Oo{o:Op}{ρ:Operand->D}{m:Mem}{nx:Nat}{e:fy}(h:jN P o ρ m nx=some e):aop P o ρ m nx=some e.iR:=by rw[Qo,h];rfl
theorem YP{o:Op}{ρ:Operand->D}{m:Mem}{nx:Nat}(h:jN P o ρ m nx=none):aop P o ρ m nx=none:=by rw[Qo,h];rfl
theorem acr{call:uq}(pd:DI P call){ops:Array Oper}{dr:Bool}{o:Oper}{c c':cw}{rd wr:List Nat}(h:Mp P call ops dr o c=some (c',rd,wr)){K:St->List Nat->List Nat->Prop}(C:K c'.st rd wr):
 AOp P noY ops dr o c.st K:=by
 unfold Mp at h;unfold AOp;split at h
 .rename_i hg;simp only[hg];split at h
  .rename_i f args hc;obtain⟨h1,h2⟩:=NZ pd h C;refine⟨h1,?_⟩;simp only[cw.st] at h2 ⊢;rw[hc];exact h2
  .rename_i hc;split at h
   .cases h
   .rename_i hy;split at h
    .rename_i e he;obtain⟨h1,h2,h3⟩:=Ps h C;refine⟨h1,?_⟩;have:=Oo he;simp only[cw.st] at h2 h3 ⊢;rw[hc];simp only;rw[hy];simp only;rw[this];exact⟨h2,h3⟩
    .cases h
 .rename_i j b hg;simp only[hg];split at h
  .cases h
  .rename_i g zY;have agB:(((ops[j]?).bind (·.dst)).bind fun t=>guardC (c.st.env t) b)=some g:=zY;rw[agB];simp only;split at h
   .rename_i f args hc;have U:callD (rho c.st.env o.op) o.op=some (f,args):=hc;rw[U];simp only;cases g with
    |true=>
     simp only[cond_true] at h;exact .inr ⟨fun _=>NZ pd h C,oS⟩
    |false=>
     simp only[cond_false] at h;obtain⟨h1,rfl,rfl⟩:=AJ h;exact .inr ⟨oS,fun _=>h1▸C⟩
   .rename_i hc;have U:callD (rho c.st.env o.op) o.op=none:=hc;rw[U];simp only;split at h
    .rename_i y hy;have X:yieldD (rho c.st.env o.op) o.op=some y:=hy;rw[X];obtain⟨l,args⟩:=y;cases g with
     |true=>simp at h
     |false=>
      simp only[cond_false] at h;obtain⟨h1,rfl,rfl⟩:=AJ h;exact⟨oS,fun _=>h1▸C⟩
    .rename_i hy;have X:yieldD (rho c.st.env o.op) o.op=none:=hy;rw[X];simp only;split at h
     .rename_i e he;have gZ:aop P o.op (rho c.st.env o.op) c.st.mem c.st.nx=some e.iR:=Oo he;rw[gZ];cases J:(e.ups.isEmpty&&Nat.beq e.new 0) with
      |true=>
       have hb:(e.iR.ups.isEmpty&&e.iR.new==0)=true:=by
        have:∀ a:Nat,(a==0)=Nat.beq a 0:=fun a=>by cases a<;>rfl
        simp only[fy.iR,this];exact J
       simp only[hb,if_true];rw[J] at h;simp only[cond_true] at h;cases g with
       |true=>
        simp only[cond_true] at h;cases ha:xz (dA c.env) o.op with
        |false=>rw[ha] at h;cases h
        |true=>
         rw[ha] at h;simp only[cond_true] at h;split at h
         .rename_i hp _;obtain⟨h1,rfl,rfl⟩:=AJ h;exact⟨fun _=>⟨IB ha,hp⟩,h1▸C⟩
         .cases h
       |false=>
        simp only[cond_false] at h;obtain⟨h1,rfl,rfl⟩:=AJ h;exact⟨oS,h1▸C⟩
      |false=>
       have hb:(e.iR.ups.isEmpty&&e.iR.new==0)=false:=by
        have:∀ a:Nat,(a==0)=Nat.beq a 0:=fun a=>by cases a<;>rfl
        simp only[fy.iR,this];exact J
       simp only[hb,Bool.false_eq_true,if_false];rw[J] at h;simp only[cond_false] at h;cases g with
       |true=>
        simp only[cond_true] at h;exact⟨fun _=>Ps h C,oS⟩
       |false=>
        simp only[cond_false] at h;obtain⟨h1,rfl,rfl⟩:=AJ h;exact⟨oS,fun _=>h1▸C⟩
     .rename_i he;have gZ:aop P o.op (rho c.st.env o.op) c.st.mem c.st.nx=none:=YP he;rw[gZ];simp only;cases g with
      |true=>simp at h
      |false=>
       simp only[cond_false] at h;obtain⟨h1,rfl,rfl⟩:=AJ h;exact⟨rfl,h1▸C⟩
theorem Jg{call:uq}(X:DI P call){ops:Array Oper}{dr:Bool}{cf:List (Nat×Nat)}{Q:Exit->St->Prop}:∀ (U:List Oper) (c C:cw) (tr J:Tra),Bx P call ops dr U c tr=some (C,J)->(∀ q∈cf,apartT J q.1 q.2)->Q .normal C.st->
 AOps P noY ops dr cf Q U c.st tr
 |[],c,C,tr,J,h,kG,hQ=>by
  simp only[Bx,aQ,b8] at h;obtain⟨rfl,rfl⟩:=h;exact⟨kG,hQ⟩
 |o::U,c,C,tr,J,h,kG,hQ=>by
  simp only[Bx] at h;split at h
  .rename_i c1 rd wr h1;exact acr X h1 (Jg X U c1 C _ J h kG hQ)
  .cases h
theorem XZ{call:uq}(X:DI P call){ops:Array Oper}{dr:Bool}{c J:cw}(h:JO P call ops dr c=some J){id:Nat}{rf:Bool}{Q:Exit->St->Prop}(U:Q .normal J.st):AW P noY rf (.region id ops dr) Q c.st:=by
 unfold JO at h;cases dr with
 |true=>
  simp only[cond_true] at h;split at h
  .rename_i cf kG;split at h
   .rename_i c1 tr h1;cases C:cf.all fun q=>Gy tr q.1 q.2 with
    |false=>rw[C] at h;cases h
    |true=>
     rw[C] at h;simp only[cond_true,aQ] at h;subst h
     show match drawInfo ops with
      |some cf=>AOps P noY ops true cf Q ops.toList c.st []
      |none=>False
     rw[kG];exact Jg X _ _ _ _ _ h1 (fun q hq=>Z9 (bJ.1 C q hq)) U
   .cases h
  .cases h
 |false=>
  simp only[cond_false] at h;split at h
  .rename_i c1 tr h1;simp only[aQ] at h;subst h;exact Jg (cf:=[]) X _ _ _ _ _ h1 oS U
  .cases h
end
structure Ctx where
 HL:FuncId->Option (Func×Code)
 iter:FuncId->List D->List D->Option (List (List D))
 known:FuncId->List D->Option D
structure Ctx.Ok(P:Program)(x:Ctx):Prop where
 mix:P.follows .mixedOrders=true
 HL:∀ f fn c,x.HL f=some (fn,c)->mE P f fn c
 iter:∀ f fs cs xs,x.iter f fs cs=some xs->SeqA P f fs cs xs/\∀ y∈xs,∀ d∈y,Tr d
 known:∀ f args r,x.known f args=some r->PCall P f args r
def xj:Nat->List D->T D->Option (T D)
 |_,[],t=>some t
 |k,d::ds,t=>match t.put k (some d) with
  |some C=>xj (k+1) ds C
  |none=>none
theorem N2:∀ {ds:List D} {k:Nat} {t C:T D},xj k ds t=some C->∀ j,dA C j=if k<=j/\j<k+ds.length then ds.getD (j - k) .u else dA t j
 |[],k,t,C,h,j=>by
  simp only[xj,aQ] at h;subst h;rw[if_neg oS]
 |d::ds,k,t,C,h,j=>by
  simp only[xj] at h;split at h
  .rename_i J h1;rw[N2 h j,Jf h1];by_cases hj:j=k
   .subst hj;rw[if_neg oG,up_same,if_pos oS];simp
   .rw[up_ne _ _ hj];by_cases ap:k+1<=j/\j<k+1+ds.length
    .rw[if_pos ap,if_pos oP];have:j - k=(j - (k+1))+1:=by omega
     rw[this];simp
    .rw[if_neg ap,if_neg oP]
  .cases h
theorem N5{args:List D}{t:T D}(h:xj 0 args .leaf=some t):dA t=envOf args:=by
 funext j;rw[N2 h j];unfold envOf;split
 .simp
 .rename_i hj;have:args.length<=j:=by omega
  simp[dA,T.get,this]
def A0:T D->List Tmp->List D->Option (T D)
 |t,p::ps,d::ds=>match t.put p (some d) with
  |some C=>A0 C ps ds
  |none=>none
 |t,_,_=>some t
theorem NL:∀ {ps:List Tmp} {ds:List D} {t C:T D},A0 t ps ds=some C->dA C=setAll (dA t) ps ds
 |[],ds,t,C,h=>by simp only[A0,aQ] at h;subst h;rfl
 |_::_,[],t,C,h=>by simp only[A0,aQ] at h;subst h;rfl
 |p::ps,d::ds,t,C,h=>by
  simp only[A0] at h;split at h
  .rename_i J h1;rw[NL h,Jf h1];rfl
  .cases h
section
variable(P:Program)
def Lk(c:cw):ResultVar->Option D
 | .tmp t=>some (dA c.env t)
 | .cell a t=>match dA c.env a with
  | .rp i off=>match c.mem.get i with
   |some (.cells cs _)=>bif tyOk P t&&Nat.ble (off+P.cellsOf t) cs.length then some (takeV P t (cs.drop off)) else none
   |_=>none
  | .pt cs=>bif tyOk P t&&Nat.ble (P.cellsOf t) cs.length then some (takeV P t cs) else none
  |_=>none
def By(c:cw):List ResultVar->Option (List D)
 |[]=>some []
 |r::rs=>match Lk P c r with
  |some d=>match By c rs with
   |some ds=>some (d::ds)
   |none=>none
  |none=>none
def Ei(x:Ctx)(C:Bool->Code->cw->Option (Exit×cw))(f:FuncId)(args:List D)(m:T Row)(nx:Nat):Option (D×T Row×Nat):=
 match x.HL f with
 |none=>none
 |some (fn,c)=>bif Nat.ble args.length fn.ntmps then
  match xj 0 args .leaf with
  |none=>none
  |some t=>match C true c ⟨t,m,nx⟩ with
   |some (.normal,s)=>match By P s fn.results.toList with
    |some ds=>some (one1 ds,s.mem,s.nx)
    |none=>none
   |some (.ret,s)=>match By P s fn.results.toList with
    |some ds=>some (one1 ds,s.mem,s.nx)
    |none=>none
   |_=>none
  else none
def depth:Nat:=12
def Bl(x:Ctx)(C:Bool->Code->cw->Option (Exit×cw))(f:FuncId)(args:List D):Option (D ⊕ (List D×Nat×TypeId)):=
 match Ei P x C f args .leaf 0 with
 |none=>none
 |some (d,m,_)=>match d with
  | .rs i 0 k=>match m.get i with
   |some (.cells es t)=>bif es.all (qB depth) then some (.inr (es,k,t)) else match cL P (eW m) depth (.rs i 0 k) with
    |some (r,_)=>some (.inl r)
    |none=>none
   |_=>none
  |d=>match cL P (eW m) depth d with
   |some (r,_)=>some (.inl r)
   |none=>none
def KL(x:Ctx)(C:Bool->Code->cw->Option (Exit×cw)):uq:=fun f args dr m nx=>
 match x.known f args with
 |some r=>some (r,m,nx,[],[])
 |none=>bif args.all (qB depth) then match Bl P x C f args with
  |some (.inl r)=>some (r,m,nx,[],[])
  |some (.inr (es,k,t))=>match m.put nx (some (.cells es t)) with
   |some m'=>some (.rs nx 0 k,m',nx+1,[],[nx])
   |none=>none
  |none=>none
  else bif dr then match iK (cL P (eW m) depth) args with
   |none=>none
   |some (args',rds)=>match x.known f args' with
    |some r=>bif r.scal then some (r,m,nx,rds,[]) else none
    |none=>match Bl P x C f args' with
     |some (.inl r)=>bif r.scal then some (r,m,nx,rds,[]) else none
     |_=>none
  else match Ei P x C f args m nx with
   |some (d,m',nx')=>some (d,m',nx',[],[])
   |none=>none
def CU(C:Bool->Code->cw->Option (Exit×cw))(env:T D)(ps:List Tmp)(assign body:Code):List (List D)->T Row->Nat->Option (Exit×T Row×Nat)
 |[],m,nx=>some (.normal,m,nx)
 |y::ys,m,nx=>match A0 env ps y with
  |none=>none
  |some t=>match C false assign ⟨t,m,nx⟩ with
   |some (.normal,s)=>match C false body s with
    |some (.normal,s')=>CU C env ps assign body ys s'.mem s'.nx
    |some (.ret,s')=>some (.ret,s'.mem,s'.nx)
    |some (.exit i,s')=>some (.exit i,s'.mem,s'.nx)
    |_=>none
   |_=>none
def ru(x:Ctx)(C:Bool->Code->cw->Option (Exit×cw))(rf:Bool)(c:Code)(s:cw):Option (Exit×cw):=match c with
 | .skip=>some (.normal,s)
 | .region _ ops dr=>match JO P (KL P x C) ops dr s with
  |some s'=>some (.normal,s')
  |none=>none
 | .seq a b=>match C rf a s with
  |some (.normal,s')=>C rf b s'
  |r=>r
 | .cond c a b=>bif decide (opd (dA s.env) c).ask then match (opd (dA s.env) c).core with
   | .s (.bool t)=>bif t then C rf a s else C rf b s
   |_=>none
  else none
 | .block id b=>match C rf b s with
  |some (.exit i,s')=>bif Nat.beq i id then some (.normal,s') else some (.exit i,s')
  |r=>r
 | .scope b=>match C rf b s with
  |some (.goto _,_)=>none
  |r=>r
 | .loop b=>match C rf b s with
  |some (.normal,s')=>C rf (.loop b) s'
  |r=>r
 | .rangeFunc g ps assign body=>bif rf&&decide (opd (dA s.env) g).ask then match (opd (dA s.env) g).core with
   | .fn (.func f) fs cs=>match x.iter f fs cs with
    |some ys=>bif ys.all fun y=>Nat.beq y.length ps.size then match CU C s.env ps.toList assign body ys s.mem s.nx with
     |some (e,m,nx)=>some (e,⟨s.env,m,nx⟩)
     |none=>none
     else none
    |none=>none
   |_=>none
  else none
 | .exit id=>some (.exit id,s)
 | .label _=>some (.normal,s)
 | .ret=>some (.ret,s)
 |_=>none
def zZ(x:Ctx):Nat->Bool->Code->cw->Option (Exit×cw)
 |0=>fun _ _ _=>none
 |n+1=>ru P x (zZ x n)
end
section
variable{P:Program}{x:Ctx}
theorem Kf{c:cw}{K:List D->Prop}:∀ {rs:List ResultVar} {ds C:List D},By P c rs=some ds->K (C++ds)->retL P c.st rs C K
 |[],ds,C,h,hK=>by
  simp only[By,aQ] at h;subst h;simpa[retL] using hK
 |r::rs,ds,C,h,hK=>by
  simp only[By] at h;split at h
  .rename_i d hd;split at h
   .rename_i ye J;simp only[aQ] at h;subst h
    have X:∃ p,resD P c.st r=some (p,d)/\p:=by
     cases r with
     |tmp t=>
      simp only[Lk,aQ] at hd;exact⟨True,by simp only[resD,cw.st,hd],trivial⟩
     |cell a t=>
      simp only[Lk] at hd;simp only[resD,cw.st];split at hd
      .rename_i i off ha;rw[ha];simp only;split at hd
       .rename_i cs e hm;have U:eW c.mem i=some (.cells cs e):=hm;rw[U];simp only;cases hb:(tyOk P t&&Nat.ble (off+P.cellsOf t) cs.length) with
        |false=>rw[hb] at hd;cases hd
        |true=>
         rw[hb] at hd;simp only[cond_true,aQ] at hd;simp only[aO,Nat.ble_eq] at hb;exact⟨_,by rw[hd],hb⟩
       .cases hd
      .rename_i cs ha;rw[ha];simp only;cases hb:(tyOk P t&&Nat.ble (P.cellsOf t) cs.length) with
       |false=>rw[hb] at hd;cases hd
       |true=>
        rw[hb] at hd;simp only[cond_true,aQ] at hd;simp only[aO,Nat.ble_eq] at hb;exact⟨_,by rw[hd],hb⟩
      .cases hd
    obtain⟨p,h1,h2⟩:=X;simp only[retL,h1];exact⟨h2,Kf J (by simpa using hK)⟩
   .cases h
  .cases h
def Bz(P:Program)(C:Bool->Code->cw->Option (Exit×cw)):Prop:=∀ rf c s e s',C rf c s=some (e,s')->∀ Q:Exit->St->Prop,Q e s'.st->AW P noY rf c Q s.st
theorem Qq(hx:x.Ok P){X:Bool->Code->cw->Option (Exit×cw)}(jW:Bz P X){f:FuncId}{args:List D}{m m':T Row}{nx nx':Nat}{d:D}(h:Ei P x X f args m nx=some (d,m',nx')):
 ∃ fn c,mE P f fn c/\Nat.ble args.length fn.ntmps=true/\∀ K:D->St->Prop,(∀ env,K d ⟨env,eW m',nx'⟩)->AW P noY true c (retQ P fn.results.toList K) ⟨envOf args,eW m,nx⟩:=by
 unfold Ei at h;split at h
 .cases h
 .rename_i fn c C;cases hb:Nat.ble args.length fn.ntmps with
  |false=>rw[hb] at h;cases h
  |true=>
   rw[hb] at h;simp only[cond_true] at h;split at h
   .cases h
   .rename_i t ht;refine⟨fn,c,hx.HL f fn c C,hb,fun K hK=>?_⟩;rw[<- N5 ht];split at h
    .rename_i s U;split at h
     .rename_i ds J;simp only[aQ,b8] at h;obtain⟨rfl,rfl,rfl⟩:=h;exact jW _ _ _ _ _ U _ (Kf (K:=fun ds=>K (one1 ds) s.st) J (hK _))
     .cases h
    .rename_i s U;split at h
     .rename_i ds J;simp only[aQ,b8] at h;obtain⟨rfl,rfl,rfl⟩:=h;exact jW _ _ _ _ _ U _ (Kf (K:=fun ds=>K (one1 ds) s.st) J (hK _))
     .cases h
    .cases h
theorem YQ:eW .leaf=fun _=>none:=rfl
theorem X0(J:P.follows .mixedOrders=true){fn:Func}{f:FuncId}{c:Code}(hf:mE P f fn c){args:List D}(hn:Nat.ble args.length fn.ntmps=true)(ht:∀ a∈args,Tr a){d r:D}{m:Mem}{n:Nat}{rds:List Nat}(hd:cL P m n d=some (r,rds))
 (h:AW P noY true c (retQ P fn.results.toList fun d' st=>d'=d/\st.mem=m) ⟨envOf args,fun _=>none,0⟩):PCall P f args r:=
 ⟨hf.he,ht,fun F w vs hF hR=>(AT J hf.hf hf.hb hf.ap hn h (fun _ _ _ _ _ h=>h.elim) (FL hF) (fun _ _=>rfl) hR).mono fun e w' hp=>by
  obtain⟨v,d',st',β',h1,⟨rfl,rfl⟩,h3,h4,h5,C,U,X⟩:=hp
  exact⟨v,h1,DH hd (fun i _ r hr=>by
   obtain⟨p,hp,ay⟩:=h4.row i r hr
   exact⟨p,hp,ay,fun b hb=>h4.nf i p b hp hb⟩) h3,FB C⟩⟩
theorem IC(hx:x.Ok P){J:Bool->Code->cw->Option (Exit×cw)}(jW:Bz P J){f:FuncId}{args:List D}(ht:∀ a∈args,Tr a):
 (∀ r,Bl P x J f args=some (.inl r)->PCall P f args r)/\∀ es k t,Bl P x J f args=some (.inr (es,k,t))->OCall P f args es k t:=by
 unfold Bl;cases X:Ei P x J f args .leaf 0 with
 |none=>exact⟨fun r h=>oH,fun es k t h=>oH⟩
 |some q=>
  obtain⟨d,m,nx⟩:=q;obtain⟨fn,c,hf,hn,C⟩:=Qq hx jW X
  have deep:∀ d r rds,d=d->cL P (eW m) depth d=some (r,rds)->(∀ K:D->St->Prop,(∀ env,K d ⟨env,eW m,nx⟩)->AW P noY true c (retQ P fn.results.toList K) ⟨envOf args,eW .leaf,0⟩)->PCall P f args r:=fun d r rds _ hd C=>
   X0 hx.mix hf hn ht hd (C _ fun env=>⟨rfl,rfl⟩)
  simp only;split
  .rename_i i k;split
   .rename_i es t hm;cases U:es.all (qB depth) with
    |true=>
     simp only[cond_true];refine⟨fun r h=>(by simp at h),fun es' k' t' h=>?_⟩;simp only[aQ,Sum.inr.injEq,b8] at h;obtain⟨rfl,rfl,rfl⟩:=h;exact Pp hx.mix hf hn ht (fun a ha=>pV (bJ.1 U a ha)) (C _ fun env=>⟨i,rfl,hm⟩)
    |false=>
     simp only[cond_false];split
     .rename_i r rds hd;exact⟨fun r' h=>(by simp only[aQ,Sum.inl.injEq] at h;subst h;exact deep _ _ _ rfl hd C),fun es k t h=>(by simp at h)⟩
     .exact⟨fun r h=>oH,fun es k t h=>oH⟩
   .exact⟨fun r h=>oH,fun es k t h=>oH⟩
  .split
   .rename_i r rds hd;exact⟨fun r' h=>(by simp only[aQ,Sum.inl.injEq] at h;subst h;exact deep _ _ _ rfl hd C),fun es k t h=>(by simp at h)⟩
   .exact⟨fun r h=>oH,fun es k t h=>oH⟩
theorem NM{m:Mem}{n:Nat}{rds:List Nat}:∀ {aS bs:List D} {r:List Nat},iK (cL P m n) aS=some (bs,r)->(∀ i∈r,i∈rds)->Sns P rds m aS bs
 |[],bs,r,h,_=>by
  simp only[iK,aQ,b8] at h;obtain⟨rfl,_⟩:=h;trivial
 |a::aS,bs,r,h,hr=>by
  simp only[iK] at h;split at h
  .cases h
  .rename_i y hy;split at h
   .cases h
   .rename_i ys C;simp only[aQ,b8] at h;obtain⟨rfl,rfl⟩:=h;exact⟨fun F β w v hl hv=>DH (r:=y.2) hy (fun i hi=>hl i (hr i (List.mem_append_left _ hi))) hv,NM (r:=ys.2) C fun i hi=>hr i (List.mem_append_right _ hi)⟩
theorem Z'(hx:x.Ok P){ev:Bool->Code->cw->Option (Exit×cw)}(X:Bz P ev):DI P (KL P x ev):=by
 intro f args dr m nx r m' nx' rd wr h env K C;unfold KL at h;split at h
 .rename_i r' hk;simp only[aQ,b8] at h;obtain⟨rfl,rfl,rfl,rfl,rfl⟩:=h;exact .inl ⟨_,hx.known _ _ _ hk,C⟩
 .cases U:args.all (qB depth) with
  |true=>
   rw[U] at h;simp only[cond_true] at h;obtain⟨h1,h2⟩:=IC hx X (f:=f) (args:=args) fun a ha=>pV (bJ.1 U a ha);split at h
   .rename_i r' hp;simp only[aQ,b8] at h;obtain⟨rfl,rfl,rfl,rfl,rfl⟩:=h;exact .inl ⟨_,h1 _ hp,C⟩
   .rename_i es k t hp;split at h
    .rename_i m1 hm;simp only[aQ,b8] at h;obtain⟨rfl,rfl,rfl,rfl,rfl⟩:=h;rw[Pq hm] at C;exact .inr (.inr (.inl ⟨es,k,t,h2 _ _ _ hp,C⟩))
    .cases h
   .cases h
  |false=>
   rw[U] at h;simp only[cond_false] at h;cases dr with
   |true=>
    simp only[cond_true] at h;split at h
    .cases h
    .rename_i args' rds SW;have aZ:∀ a∈args',Tr a:=sr SW fun x y r' h=>Gd h;have ot:Sns P rds (eW m) args args':=NM SW fun _ h=>h;split at h
     .rename_i r' hk;cases J:r'.scal with
      |false=>rw[J] at h;cases h
      |true=>
       rw[J] at h;simp only[cond_true,aQ,b8] at h;obtain⟨rfl,rfl,rfl,rfl,rfl⟩:=h;exact .inr (.inl ⟨args',_,_,ot,hx.known _ _ _ hk,J,C⟩)
     .split at h
      .rename_i r' hp;cases J:r'.scal with
       |false=>rw[J] at h;cases h
       |true=>
        rw[J] at h;simp only[cond_true,aQ,b8] at h;obtain⟨rfl,rfl,rfl,rfl,rfl⟩:=h;exact .inr (.inl ⟨args',_,_,ot,(IC hx X aZ).1 _ hp,J,C⟩)
      .cases h
   |false=>
    simp only[cond_false] at h;split at h
    .rename_i d m1 Wa gg;simp only[aQ,b8] at h;obtain⟨rfl,rfl,rfl,rfl,rfl⟩:=h;obtain⟨fn,c,hf,hn,z1⟩:=Qq hx X gg;exact .inr (.inr (.inr (.inl ⟨rfl,Po hx.mix hf hn (z1 (fun d st=>K d st.mem st.nx [] []) fun env=>C)⟩)))
    .cases h
theorem N6{ev:Bool->Code->cw->Option (Exit×cw)}(J:Bz P ev){env:T D}{ps:List Tmp}{assign body:Code}{Q:Exit->St->Prop}:∀ {ys:List (List D)} {m m':T Row} {nx nx':Nat} {e:Exit},CU ev env ps assign body ys m nx=some (e,m',nx')->
 Q e ⟨dA env,eW m',nx'⟩->∃ I:Nat->Mem->Nat->Prop,I 0 (eW m) nx/\
  (∀ k m nx y,ys[k]? =some y->I k m nx->AW P noY false assign (assignQ fun s=>AW P noY false body (roundQ (dA env) (I (k+1)) Q) s) ⟨setAll (dA env) ps y,m,nx⟩)/\
  ∀ m nx,I ys.length m nx->Q .normal ⟨dA env,m,nx⟩
 |[],m,m',nx,nx',e,h,hQ=>by
  simp only[CU,aQ,b8] at h;obtain⟨rfl,rfl,rfl⟩:=h;exact⟨fun _ a b=>a=eW m/\b=nx,⟨rfl,rfl⟩,fun k _ _ y hy=>by simp at hy,fun a b h=>by obtain⟨rfl,rfl⟩:=h;exact hQ⟩
 |y::ys,m,m',nx,nx',e,h,hQ=>by
  simp only[CU] at h;split at h
  .cases h
  .rename_i t ht;have vU:=NL ht;split at h
   .rename_i s hs
    have done:∀ (I:Nat->Mem->Nat->Prop),AW P noY false body (roundQ (dA env) (I 0) Q) s.st->
     (∀ k m nx y,ys[k]? =some y->I k m nx->AW P noY false assign (assignQ fun s=>AW P noY false body (roundQ (dA env) (I (k+1)) Q) s) ⟨setAll (dA env) ps y,m,nx⟩)->
     (∀ m nx,I ys.length m nx->Q .normal ⟨dA env,m,nx⟩)->
     ∃ I:Nat->Mem->Nat->Prop,I 0 (eW m) nx/\
      (∀ k m nx z,(y::ys)[k]? =some z->I k m nx->AW P noY false assign (assignQ fun s=>AW P noY false body (roundQ (dA env) (I (k+1)) Q) s) ⟨setAll (dA env) ps z,m,nx⟩)/\
      ∀ m nx,I (y::ys).length m nx->Q .normal ⟨dA env,m,nx⟩:=fun I h1 h2 h3=>by
     refine⟨fun k a b=>match k with|0=>a=eW m/\b=nx|k+1=>I k a b,⟨rfl,rfl⟩,fun k a b z X U=>?_,fun a b U=>h3 a b U⟩;cases k with
     |zero=>
      obtain⟨rfl,rfl⟩:=U;simp only[List.getElem?_cons_zero,aQ] at X;subst X;rw[<- vU];exact J _ _ _ _ _ hs _ h1
     |succ k=>exact h2 k a b z (by simpa using X) U
    split at h
    .rename_i s' C;obtain⟨I,g1,g2,g3⟩:=N6 J h hQ;exact done I (J _ _ _ _ _ C _ g1) g2 g3
    .rename_i s' C;simp only[aQ,b8] at h;obtain⟨rfl,rfl,rfl⟩:=h;exact done (fun _ _ _=>False) (J _ _ _ _ _ C _ hQ) (fun _ _ _ _ _ h=>h.elim) fun _ _ h=>h.elim
    .rename_i i s' C;simp only[aQ,b8] at h;obtain⟨rfl,rfl,rfl⟩:=h;exact done (fun _ _ _=>False) (J _ _ _ _ _ C _ hQ) (fun _ _ _ _ _ h=>h.elim) fun _ _ h=>h.elim
    .cases h
   .cases h
theorem RO(hx:x.Ok P):∀ n,Bz P (zZ P x n):=by
 intro n
 induction n using Nat.strongRecOn with
 |_ n ih=>
  cases n with
  |zero=>intro rf c s e s' h;cases h
  |succ n=>
   have J:=ih n (Nat.lt_succ_self n);intro rf c s e s' h Q C;simp only[zZ] at h;cases c with
   |skip=>
    simp only[ru,aQ,b8] at h;obtain⟨rfl,rfl⟩:=h;exact C
   |ret=>
    simp only[ru,aQ,b8] at h;obtain⟨rfl,rfl⟩:=h;exact C
   |label l=>
    simp only[ru,aQ,b8] at h;obtain⟨rfl,rfl⟩:=h;exact C
   |exit id=>
    simp only[ru,aQ,b8] at h;obtain⟨rfl,rfl⟩:=h;exact C
   |region id ops dr=>
    simp only[ru] at h;split at h
    .rename_i s1 h1;simp only[aQ,b8] at h;obtain⟨rfl,rfl⟩:=h;exact XZ (Z' hx J) h1 C
    .cases h
   |seq a b=>
    simp only[ru] at h;split at h
    .rename_i s1 h1;exact J _ _ _ _ _ h1 _ ⟨_,.refl _,J _ _ _ _ _ h _ C⟩
    .rename_i X;refine J _ _ _ _ _ h _ ?_;cases e with
     |normal=>exact absurd h (X s')
     |_=>exact C
   |cond c a b=>
    simp only[ru] at h;cases U:decide (opd (dA s.env) c).ask with
    |false=>rw[U] at h;cases h
    |true=>
     rw[U] at h;simp only[cond_true] at h;refine⟨of_decide_eq_true U,?_⟩;split at h
     .rename_i t ht;have uV:(opd s.st.env c).core=.s (.bool t):=ht;rw[uV];cases t with
      |true=>exact⟨fun _=>J _ _ _ _ _ h _ C,fun h=>by cases h⟩
      |false=>exact⟨fun h=>oH,fun _=>J _ _ _ _ _ h _ C⟩
     .cases h
   |block id b=>
    simp only[ru] at h;split at h
    .rename_i i s1 h1;refine J _ _ _ _ _ h1 (blockQ id Q) ?_;simp only[blockQ];cases hb:Nat.beq i id with
     |true=>
      rw[hb] at h;simp only[cond_true,aQ,b8] at h;obtain⟨rfl,rfl⟩:=h;rw[if_pos (Nat.eq_of_beq_eq_true hb)];exact C
     |false=>
      rw[hb] at h;simp only[cond_false,aQ,b8] at h;obtain⟨rfl,rfl⟩:=h;rw[if_neg (Nat.ne_of_beq_eq_false hb)];exact C
    .rename_i X;refine J _ _ _ _ _ h (blockQ id Q) ?_;cases e with
     |exit i=>exact absurd h (X i s')
     |_=>exact C
   |scope b=>
    simp only[ru] at h;split at h
    .cases h
    .rename_i X;refine J _ _ _ _ _ h (scopeQ Q) ?_;cases e with
     |goto l=>exact absurd h (X l s')
     |_=>exact C
   |loop b=>
    refine Pt (fun j st=>j<=n+1/\∃ s,st=s.st/\zZ P x j rf (.loop b) s=some (e,s')) (j₀:=n+1) ⟨bP _,s,rfl,h⟩ ?_;rintro j st ⟨hj,s,rfl,hs⟩;cases j with
    |zero=>cases hs
    |succ j=>
     have Wb:=ih j oG;simp only[zZ,ru] at hs;split at hs
     .rename_i s1 h1;exact Wb _ _ _ _ _ h1 _ ⟨_,.refl _,j,Nat.lt_succ_self j,oG,s1,rfl,hs⟩
     .rename_i X;refine Wb _ _ _ _ _ hs _ ?_;cases e with
      |normal=>exact absurd hs (X s')
      |_=>exact C
   |rangeFunc g ps assign body=>
    simp only[ru] at h;cases U:(rf&&decide (opd (dA s.env) g).ask) with
    |false=>rw[U] at h;cases h
    |true=>
     rw[U] at h;simp only[cond_true] at h;simp only[aO] at U;split at h
     .rename_i f fs cs Bi;split at h
      .rename_i ys Ms;cases bQ:ys.all fun y=>Nat.beq y.length ps.size with
       |false=>rw[bQ] at h;cases h
       |true=>
        rw[bQ] at h;simp only[cond_true] at h;split at h
        .rename_i e1 m nx hr;simp only[aQ,b8] at h;obtain⟨rfl,rfl⟩:=h;obtain⟨I,g1,g2,g3⟩:=N6 J hr C;obtain⟨k1,k2⟩:=hx.iter _ _ _ _ Ms;exact⟨U.1,of_decide_eq_true U.2,f,fs,cs,ys,I,Bi,k1,fun y hy=>⟨Nat.eq_of_beq_eq_true (bJ.1 bQ y hy),k2 y hy⟩,g1,g2,g3⟩
        .cases h
      .cases h
     .cases h
   |_=>cases h
theorem lF(hx:x.Ok P)(n:Nat){f:FuncId}{args:List D}{r:D}(ht:args.all (qB depth)=true)(h:Bl P x (zZ P x n) f args=some (.inl r)):PCall P f args r:=
 (IC hx (RO hx n) fun a ha=>pV (bJ.1 ht a ha)).1 r h
end
def az:List (Nat×D)->Env
 |[],_=>.u
 |(t,d)::l,j=>if j=t then d else az l j
def jk:List (Nat×D)->Env->Prop
 |[],_=>True
 |(t,d)::l,env=>env t=d/\jk l env
theorem nX:∀ {l:List (Nat×D)} {env:Env},jk l env->∀ t,az l t=env t\/az l t=.u
 |[],_,_,_=>.inr rfl
 |(k,d)::l,env,h,t=>by
  simp only[az];by_cases ht:t=k
  .subst ht;rw[if_pos rfl];exact .inl h.1.symm
  .rw[if_neg ht];exact nX h.2 t
def iC(env:Env):List Operand->Prop
 |[]=>True
 |x::xs=>(opd env x).ask/\iC env xs
theorem Px{env:Env}:∀ {l:List Operand},iC env l->∀ x∈l,(opd env x).ask
 |[],_,x,h=>by cases h
 |y::l,h,x,hx=>by
  cases hx with
  |head=>exact h.1
  |tail _ hx=>exact Px h.2 x hx
theorem qT{env:Env}{o:Op}(h:iC env o.operands.toList):asks env o:=by
 have:=Px h;unfold asks;cases o<;>first|exact this|exact this _ fE
section
variable{P:Program}{Y:YSpec}{rf:Bool}
structure Ef(P:Program)(op:Op)(env:Env)(m:Mem)(nx:Nat)(e:Eff):Prop where
 ok:aop P op (rho env op) m nx=some e
 nc:callD (rho env op) op=none
 ny:yieldD (rho env op) op=none
variable{ops:Array Oper}{dr:Bool}{cf:List (Nat×Nat)}{Q:Exit->St->Prop}{rest:List Oper}{env:Env}{m:Mem}{nx:Nat}{tr:Tra}{t:Nat}{op:Op}{ty:TypeId}{pos:String}{after:Array Edge}
 {pre:Prop} {v:D} {rd:List Nat}
theorem zl{d:Option Nat}{e:Eff}(he:Ef P op env m nx e)(ha:asks env op)(hp:e.pre)(K:AOps P Y ops dr cf Q rest (St.put ⟨env,upds m e.ups,nx+e.new⟩ d e.val) (tr++[(e.rd,e.ups.map (·.1))])):
 AOps P Y ops dr cf Q (⟨d,op,ty,pos,after,none⟩::rest) ⟨env,m,nx⟩ tr:=by
 simp only[AOps,AOp];rw[he.nc,he.ny,he.ok];exact⟨ha,hp,K⟩
theorem aF(he:Ef P op env m nx ⟨pre,v,[],rd,0⟩)(ha:iC env op.operands.toList)(hp:pre)(K:AOps P Y ops dr cf Q rest ⟨up env t v,m,nx⟩ (tr++[(rd,[])])):
 AOps P Y ops dr cf Q (⟨some t,op,ty,pos,after,none⟩::rest) ⟨env,m,nx⟩ tr:=zl he (qT ha) hp K
theorem A1{c a b:Operand}{g:Bool}(hc:(opd env c).core=.s (.bool g)):Ef P (.pick c a b) env m nx ⟨(g=true->(opd env a).ask/\(opd env a).core.bool?.isSome=true)/\(g=false->(opd env b).ask/\(opd env b).core.bool?.isSome=true),
 .s (.bool (if g then(opd env a).core.bool?.getD false else(opd env b).core.bool?.getD false)),[],[],0⟩:=⟨by simp only[aop,rho,hc,D.bool?],rfl,rfl⟩
theorem abw{c a b:Operand}{g x y:Bool}(hc:opd env c=.s (.bool g))(ha:(opd env a).core=.s (.bool x))(hb:(opd env b).core=.s (.bool y))(h1:g=true->(opd env a).ask)(h2:g=false->(opd env b).ask)
 (K:AOps P Y ops dr cf Q rest ⟨up env t (.s (.bool (if g then x else y))),m,nx⟩ (tr++[([],[])])):
 AOps P Y ops dr cf Q (⟨some t,.pick c a b,ty,pos,after,none⟩::rest) ⟨env,m,nx⟩ tr:=by
 refine zl (A1 (g:=g) (by rw[hc];rfl)) (by simp only[asks,hc,D.ask]) ⟨fun h=>⟨h1 h,by rw[ha];rfl⟩,fun h=>⟨h2 h,by rw[hb];rfl⟩⟩ ?_;simp only[ha,hb,D.bool?,Option.getD_some];exact K
theorem aaf{c a b:Operand}{x:Bool}(hc:opd env c=.s (.bool true))(ha:(opd env a).core=.s (.bool x))(h1:(opd env a).ask)
 (K:AOps P Y ops dr cf Q rest ⟨up env t (.s (.bool x)),m,nx⟩ (tr++[([],[])])):
 AOps P Y ops dr cf Q (⟨some t,.pick c a b,ty,pos,after,none⟩::rest) ⟨env,m,nx⟩ tr:=by
 refine zl (A1 (g:=true) (by rw[hc];rfl)) (by simp only[asks,hc,D.ask]) ⟨fun _=>⟨h1,by rw[ha];rfl⟩,fun h=>by cases h⟩ ?_;simp only[ha,D.bool?,Option.getD_some,if_true];exact K
theorem aag{c a b:Operand}{y:Bool}(hc:opd env c=.s (.bool false))(hb:(opd env b).core=.s (.bool y))(h2:(opd env b).ask)
 (K:AOps P Y ops dr cf Q rest ⟨up env t (.s (.bool y)),m,nx⟩ (tr++[([],[])])):
 AOps P Y ops dr cf Q (⟨some t,.pick c a b,ty,pos,after,none⟩::rest) ⟨env,m,nx⟩ tr:=by
 refine zl (A1 (g:=false) (by rw[hc];rfl)) (by simp only[asks,hc,D.ask]) ⟨fun h=>oH,fun _=>⟨h2,by rw[hb];rfl⟩⟩ ?_;simp only[hb,D.bool?,Option.getD_some,Bool.false_eq_true,if_false];exact K
theorem cJ{i:Nat}{row:Option Row}(he:Ef P op env m nx ⟨pre,v,[(i,row)],rd,0⟩)(ha:iC env op.operands.toList)(hp:pre)(K:AOps P Y ops dr cf Q rest ⟨env,up m i row,nx⟩ (tr++[(rd,[i])])):
 AOps P Y ops dr cf Q (⟨none,op,ty,pos,after,none⟩::rest) ⟨env,m,nx⟩ tr:=zl he (qT ha) hp K
theorem fP{row:Row}(he:Ef P op env m nx ⟨pre,v,[(nx,some row)],rd,1⟩)(ha:iC env op.operands.toList)(hp:pre)(K:AOps P Y ops dr cf Q rest ⟨up env t v,up m nx (some row),nx+1⟩ (tr++[(rd,[nx])])):
 AOps P Y ops dr cf Q (⟨some t,op,ty,pos,after,none⟩::rest) ⟨env,m,nx⟩ tr:=zl he (qT ha) hp K
theorem rH{i:Nat}{row:Row}(he:Ef P op env m nx ⟨pre,v,[(i,none),(nx,some row)],rd,1⟩)(ha:iC env op.operands.toList)(hp:pre)(K:AOps P Y ops dr cf Q rest ⟨up env t v,up (up m i none) nx (some row),nx+1⟩ (tr++[(rd,[i,nx])])):
 AOps P Y ops dr cf Q (⟨some t,op,ty,pos,after,none⟩::rest) ⟨env,m,nx⟩ tr:=zl he (qT ha) hp K
theorem bE{j:Nat}{b c:Bool}{u:Nat}(hj:(ops[j]?).bind (·.dst)=some u)(hg:guardC (env u) b=some c)(he:Ef P op env m nx ⟨pre,v,[],rd,0⟩)(ha:c=true->iC env op.operands.toList/\pre)
 (K:AOps P Y ops dr cf Q rest ⟨up env t (.opt c v),m,nx⟩ (tr++[(rd,[])])):AOps P Y ops dr cf Q (⟨some t,op,ty,pos,after,some (j,b)⟩::rest) ⟨env,m,nx⟩ tr:=by
 simp only[AOps,AOp];rw[hj];simp only[Option.bind_some];rw[hg,he.nc,he.ny,he.ok];exact⟨fun hc=>⟨qT (ha hc).1,(ha hc).2⟩,K⟩
theorem aah{j:Nat}{b0 C:Bool}{u:Nat}(hj:(ops[j]?).bind (·.dst)=some u)(hg:guardC (env u) b0=some C){c a b:Operand}{g x y:Bool}(hc:(opd env c).core=.s (.bool g))(ha:(opd env a).core=.s (.bool x))(hb:(opd env b).core=.s (.bool y))
 (h0:C=true->(opd env c).ask) (h1:C=true->g=true->(opd env a).ask) (h2:C=true->g=false->(opd env b).ask)
 (K:AOps P Y ops dr cf Q rest ⟨up env t (.opt C (.s (.bool (if g then x else y)))),m,nx⟩ (tr++[([],[])])):
 AOps P Y ops dr cf Q (⟨some t,.pick c a b,ty,pos,after,some (j,b0)⟩::rest) ⟨env,m,nx⟩ tr:=by
 have he:=A1 (P:=P) (env:=env) (m:=m) (nx:=nx) (a:=a) (b:=b) hc;simp only[ha,hb,D.bool?,Option.getD_some,Option.isSome_some,and_true] at he;simp only[AOps,AOp];rw[hj];simp only[Option.bind_some];rw[hg,he.nc,he.ny,he.ok];exact⟨fun hc=>⟨by simp only[asks];exact h0 hc,h1 hc,h2 hc⟩,K⟩
theorem ads{j:Nat}{b:Bool}{u:Nat}{d:Option Nat}{e:Eff}(hj:(ops[j]?).bind (·.dst)=some u)(hg:guardC (env u) b=some true)(he:Ef P op env m nx e)(ha:iC env op.operands.toList)(hp:e.pre)
 (K:e.ups=[]->e.new=0->AOps P Y ops dr cf Q rest (St.put ⟨env,m,nx⟩ d (.opt true e.val)) (tr++[(e.rd,[])]))
 (K':AOps P Y ops dr cf Q rest (St.put ⟨env,upds m e.ups,nx+e.new⟩ d e.val) (tr++[(e.rd,e.ups.map (·.1))])):AOps P Y ops dr cf Q (⟨d,op,ty,pos,after,some (j,b)⟩::rest) ⟨env,m,nx⟩ tr:=by
 simp only[AOps,AOp];rw[hj];simp only[Option.bind_some];rw[hg,he.nc,he.ny,he.ok];simp only;split
 .rename_i h;simp only[aO,List.isEmpty_iff,beq_iff_eq] at h;exact⟨fun _=>⟨qT ha,hp⟩,K h.1 h.2⟩
 .exact⟨fun _=>⟨qT ha,hp,K'⟩,oS⟩
theorem S4{j:Nat}{b:Bool}{u:Nat}{d:Option Nat}(hj:(ops[j]?).bind (·.dst)=some u)(hg:guardC (env u) b=some false)
 (K:∀ (x:D) rd,AOps P Y ops dr cf Q rest (St.put ⟨env,m,nx⟩ d (.opt false x)) (tr++[(rd,[])])):AOps P Y ops dr cf Q (⟨d,op,ty,pos,after,some (j,b)⟩::rest) ⟨env,m,nx⟩ tr:=by
 simp only[AOps,AOp];rw[hj];simp only[Option.bind_some];rw[hg];simp only;split
 .exact .inr ⟨oS,fun _=>K .u []⟩
 .split
  .exact⟨oS,fun _=>K .u []⟩
  .split
   .split
    .exact⟨oS,K _ _⟩
    .exact⟨oS,fun _=>K .u []⟩
   .exact⟨trivial,K .u []⟩
theorem alo{j:Nat}{b:Bool}{u t:Nat}(hj:(ops[j]?).bind (·.dst)=some u)(hg:guardC (env u) b=some false)
 (K:∀ (x:D) rd,AOps P Y ops dr cf Q rest ⟨up env t (.opt false x),m,nx⟩ (tr++[(rd,[])])):AOps P Y ops dr cf Q (⟨some t,op,ty,pos,after,some (j,b)⟩::rest) ⟨env,m,nx⟩ tr:=S4 hj hg K
theorem CV{f:FuncId}{args:List D}{d:Option Nat}(hc:callD (rho env op) op=some (f,args))(ha:iC env op.operands.toList)(h:CallOp P dr ⟨env,m,nx⟩ f args fun r m nx rd wr=>AOps P Y ops dr cf Q rest (St.put ⟨env,m,nx⟩ d r) (tr++[(rd,wr)])):
 AOps P Y ops dr cf Q (⟨d,op,ty,pos,after,none⟩::rest) ⟨env,m,nx⟩ tr:=by
 simp only[AOps,AOp];rw[hc];exact⟨qT ha,h⟩
theorem adt{f:FuncId}{args:List D}{r:D}(h:PCall P f args r)(hc:callD (rho env op) op=some (f,args))(ha:iC env op.operands.toList)(K:AOps P Y ops dr cf Q rest ⟨up env t r,m,nx⟩ (tr++[([],[])])):
 AOps P Y ops dr cf Q (⟨some t,op,ty,pos,after,none⟩::rest) ⟨env,m,nx⟩ tr:=CV hc ha (.inl ⟨r,h,K⟩)
theorem Bm{f:FuncId}{args es:List D}{n:Nat}{C:TypeId}(h:OCall P f args es n C)(hc:callD (rho env op) op=some (f,args))(ha:iC env op.operands.toList)(K:AOps P Y ops dr cf Q rest ⟨up env t (.rs nx 0 n),up m nx (some (.cells es C)),nx+1⟩ (tr++[([],[nx])])):
 AOps P Y ops dr cf Q (⟨some t,op,ty,pos,after,none⟩::rest) ⟨env,m,nx⟩ tr:=CV hc ha (.inr (.inr (.inl ⟨es,n,C,h,K⟩)))
theorem kZ{f:FuncId}{args:List D}{d:Option Nat}{de:D->Mem->Nat->Prop}(h:ACalls P f args m nx de)(hc:callD (rho env op) op=some (f,args))(ha:iC env op.operands.toList)
 (K:∀ r m' nx',de r m' nx'->AOps P Y ops false cf Q rest (St.put ⟨env,m',nx'⟩ d r) (tr++[([],[])])):
 AOps P Y ops false cf Q (⟨d,op,ty,pos,after,none⟩::rest) ⟨env,m,nx⟩ tr:=CV hc ha (.inr (.inr (.inr (.inl ⟨rfl,h.mono K⟩))))
theorem adu{f:FuncId}{args args':List D}{r:D}{rds:List Nat}(h:PCall P f args' r)(C:r.scal=true)(J:Sns P rds m args args')(hc:callD (rho env op) op=some (f,args))(ha:iC env op.operands.toList)
 (K:AOps P Y ops dr cf Q rest ⟨up env t r,m,nx⟩ (tr++[(rds,[])])):AOps P Y ops dr cf Q (⟨some t,op,ty,pos,after,none⟩::rest) ⟨env,m,nx⟩ tr:=CV hc ha (.inr (.inl ⟨args',rds,r,J,h,C,K⟩))
theorem Kh{j:Nat}{b c:Bool}{u:Nat}{f:FuncId}{args:List D}{r:D}(hj:(ops[j]?).bind (·.dst)=some u)(hg:guardC (env u) b=some c)(hc:callD (rho env op) op=some (f,args))(h:c=true->iC env op.operands.toList/\PCall P f args r)
 (K:AOps P Y ops dr cf Q rest ⟨up env t (.opt c r),m,nx⟩ (tr++[([],[])])):AOps P Y ops dr cf Q (⟨some t,op,ty,pos,after,some (j,b)⟩::rest) ⟨env,m,nx⟩ tr:=by
 simp only[AOps,AOp];rw[hj];simp only[Option.bind_some];rw[hg,hc];exact .inl ⟨r,fun C=>⟨qT (h C).1,(h C).2⟩,K⟩
theorem aad{j:Nat}{b:Bool}{u:Nat}{d:Option Nat}{f:FuncId}{args:List D}(hj:(ops[j]?).bind (·.dst)=some u)(hg:guardC (env u) b=some true)(hc:callD (rho env op) op=some (f,args))(ha:iC env op.operands.toList)
 (h:CallOp P dr ⟨env,m,nx⟩ f args fun r m nx rd wr=>AOps P Y ops dr cf Q rest (St.put ⟨env,m,nx⟩ d r) (tr++[(rd,wr)])):AOps P Y ops dr cf Q (⟨d,op,ty,pos,after,some (j,b)⟩::rest) ⟨env,m,nx⟩ tr:=by
 simp only[AOps,AOp];rw[hj];simp only[Option.bind_some];rw[hg,hc];exact .inr ⟨fun _=>⟨qT ha,h⟩,oS⟩
theorem Lp{l:Nat}{args:List D}{d:Option Nat}(hc:callD (rho env op) op=none)(hy:yieldD (rho env op) op=some (l,args))(ha:iC env op.operands.toList)(h:Y l args m nx fun r m' nx'=>AOps P Y ops false cf Q rest (St.put ⟨env,m',nx'⟩ d r) (tr++[([],[])])):
 AOps P Y ops false cf Q (⟨d,op,ty,pos,after,none⟩::rest) ⟨env,m,nx⟩ tr:=by
 simp only[AOps,AOp];rw[hc,hy];exact⟨qT ha,trivial,h⟩
theorem GO{j:Nat}{b:Bool}{u:Nat}{l:Nat}{args:List D}{d:Option Nat}(hj:(ops[j]?).bind (·.dst)=some u)(hg:guardC (env u) b=some true)(hc:callD (rho env op) op=none)(hy:yieldD (rho env op) op=some (l,args))(ha:iC env op.operands.toList)
 (h:Y l args m nx fun r m' nx'=>AOps P Y ops false cf Q rest (St.put ⟨env,m',nx'⟩ d r) (tr++[([],[])])):AOps P Y ops false cf Q (⟨d,op,ty,pos,after,some (j,b)⟩::rest) ⟨env,m,nx⟩ tr:=by
 simp only[AOps,AOp];rw[hj];simp only[Option.bind_some];rw[hg,hc,hy];exact⟨fun _=>⟨qT ha,trivial,h⟩,oS⟩
def gH(K:St->Prop):Exit->St->Prop
 | .normal,st=>K st
 |_,_=>True
theorem ab{K:St->Prop}{st:St}(h:K st):AOps P Y ops dr [] (gH K) [] st tr:=⟨oS,h⟩
theorem a8{K:St->Prop}{st:St}(hc:∀ q∈cf,apartT tr q.1 q.2)(h:K st):AOps P Y ops dr cf (gH K) [] st tr:=⟨hc,h⟩
variable{st:St}{a b c:Code}
theorem AOps.mF{cf:List (Nat×Nat)}{K:St->Prop}{Q:Exit->St->Prop}[eD Y]{l:List Oper}(h:AOps P Y ops dr cf (gH K) l st tr)(hk:∀ st,K st->Q .normal st):AOps P Y ops dr cf Q l st tr:=
 AOps.mono (Q:=gH K) (fun st h=>hk st h) l st tr h
theorem tN[eD Y]{id:Nat}(h:AOps P Y ops false [] (gH fun st=>Q .normal st) ops.toList st []):AW P Y rf (.region id ops false) Q st:=AOps.mF h fun _ h=>h
theorem DJ[eD Y]{id:Nat}(hi:drawInfo ops=some cf)(h:AOps P Y ops true cf (gH fun st=>Q .normal st) ops.toList st []):AW P Y rf (.region id ops true) Q st:=by
 show match drawInfo ops with
  |some cf=>AOps P Y ops true cf Q ops.toList st []
  |none=>False
 rw[hi];exact AOps.mF h fun _ h=>h
theorem ao[eD Y]{id:Nat}(h:AOps P Y ops false [] (gH fun st=>AW P Y rf b Q st) ops.toList st []):AW P Y rf (.seq (.region id ops false) b) Q st:=
 tN (rf:=rf) (id:=id) (AOps.mF h fun st h=>⟨st,.refl st,h⟩)
theorem c8[eD Y]{id:Nat}(hi:drawInfo ops=some cf)(h:AOps P Y ops true cf (gH fun st=>AW P Y rf b Q st) ops.toList st []):AW P Y rf (.seq (.region id ops true) b) Q st:=
 DJ (rf:=rf) (id:=id) hi (AOps.mF h fun st h=>⟨st,.refl st,h⟩)
theorem aI{st':St}(hg:Ghost P st st')(h:AW P Y rf b Q st'):∃ C,Ghost P st C/\AW P Y rf b Q C:=⟨st',hg,h⟩
theorem aw[eD Y]{id:Nat}(h:AOps P Y ops false [] (gH fun st=>∃ st',Ghost P st st'/\AW P Y rf b Q st') ops.toList st []):AW P Y rf (.seq (.region id ops false) b) Q st:=
 tN (rf:=rf) (id:=id) (AOps.mF h fun _ h=>h)
theorem oW[eD Y]{id:Nat}(hi:drawInfo ops=some cf)(h:AOps P Y ops true cf (gH fun st=>∃ st',Ghost P st st'/\AW P Y rf b Q st') ops.toList st []):AW P Y rf (.seq (.region id ops true) b) Q st:=
 DJ (rf:=rf) (id:=id) hi (AOps.mF h fun _ h=>h)
theorem SZ[eD Y](J:St->Prop)(h:AW P Y rf a (seqQ J Q) st)(k:∀ st,J st->AW P Y rf b Q st):AW P Y rf (.seq a b) Q st:=
 vt a (fun e st h=>by
  cases e with
  |normal=>exact⟨st,.refl st,k st h⟩
  |_=>exact h) h
theorem ew[eD Y](J:St->Prop)(h:AW P Y rf a (seqQ J Q) st)(k:∀ st,J st->∃ st',Ghost P st st'/\AW P Y rf b Q st'):AW P Y rf (.seq a b) Q st:=
 vt a (fun e st h=>by
  cases e with
  |normal=>exact k st h
  |_=>exact h) h
theorem b7[eD Y](h:AW P Y rf b Q st):AW P Y rf (.seq .skip b) Q st:=⟨st,.refl st,h⟩
theorem cK(h:Q .ret st):AW P Y rf (.seq .ret b) Q st:=h
theorem sk{id:Nat}(h:Q (.exit id) st):AW P Y rf (.seq (.exit id) b) Q st:=h
theorem XN{l:Nat}(h:AW P Y rf b Q st):AW P Y rf (.seq (.label l) b) Q st:=⟨st,.refl st,h⟩
theorem aC[eD Y](h:AW P Y rf (.seq a (.seq b c)) Q st):AW P Y rf (.seq (.seq a b) c) Q st:=by
 refine vt a (fun e st h=>?_) h;cases e with
 |normal=>
  obtain⟨st',hg,h⟩:=h;refine⟨st',hg,vt b (fun e st h=>?_) h⟩;cases e<;>exact h
 |_=>exact h
theorem av{c:Operand}{x y:Code}{g:Bool}(hc:opd st.env c=.s (.bool g))(ht:g=true->AW P Y rf x Q st)(hf:g=false->AW P Y rf y Q st):AW P Y rf (.cond c x y) Q st:=by
 rw[Qr];rw[hc];exact⟨trivial,ht,hf⟩
theorem cH{c:Operand}{x y:Code}{g:Bool}(hc:opd st.env c=.s (.bool g))(ht:g=true->AW P Y rf (.seq x b) Q st)(hf:g=false->AW P Y rf (.seq y b) Q st):AW P Y rf (.seq (.cond c x y) b) Q st:=av hc ht hf
theorem abx{c:Operand}{x y:Code}(hc:opd st.env c=.ub)(ht:AW P Y rf x Q st)(hf:AW P Y rf y Q st):AW P Y rf (.cond c x y) Q st:=by
 rw[Qr];rw[hc];exact⟨trivial,ht,hf⟩
theorem nY{id:Nat}(h:AW P Y rf b (blockQ id Q) st):AW P Y rf (.block id b) Q st:=h
theorem abp[eD Y]{α:Type}(S:α->St)(J:α->Prop)(μ:α->Nat)(X:α)(h0:st=S X)(hJ:J X)(h:∀ x,J x->AW P Y rf b (seqQ (fun st'=>∃ U C,Ghost P st' U/\U=S C/\J C/\μ C<μ x) Q) (S x)):AW P Y rf (.loop b) Q st:=by
 refine Pt (fun j st=>∃ x,st=S x/\J x/\μ x=j) (j₀:=μ X) ⟨X,h0,hJ,rfl⟩ ?_;rintro j st ⟨x,rfl,hx,rfl⟩;refine vt b (fun e st' hq=>?_) (h x hx);cases e with
 |normal=>
  obtain⟨U,C,h1,h2,h3,h4⟩:=hq;exact⟨U,h1,μ C,h4,C,h2,h3,rfl⟩
 |_=>exact hq
end
theorem pf{P:Program}{Y:YSpec}{rf:Bool}{Q:Exit->St->Prop}{st:St}{c:Operand}{x y:Code}(K:AW P Y rf y Q st)(h:opd st.env c=.s (.bool false):=by exact rfl):AW P Y rf (.cond c x y) Q st:=av h (fun h=>by cases h) fun _=>K
theorem k8{P:Program}{Y:YSpec}{rf:Bool}{Q:Exit->St->Prop}{st:St}{c:Operand}{x y:Code}(K:AW P Y rf x Q st)(h:opd st.env c=.s (.bool true):=by exact rfl):AW P Y rf (.cond c x y) Q st:=av h (fun _=>K) fun h=>by cases h
theorem hP{P:Program}{Y:YSpec}{rf:Bool}{Q:Exit->St->Prop}{st:St}{c:Operand}{x y b:Code}(K:AW P Y rf (.seq y b) Q st)(h:opd st.env c=.s (.bool false):=by exact rfl):AW P Y rf (.seq (.cond c x y) b) Q st:=av h (fun h=>by cases h) fun _=>K
theorem gU{P:Program}{Y:YSpec}{rf:Bool}{Q:Exit->St->Prop}{st:St}{c:Operand}{x y b:Code}(K:AW P Y rf (.seq x b) Q st)(h:opd st.env c=.s (.bool true):=by exact rfl):AW P Y rf (.seq (.cond c x y) b) Q st:=av h (fun _=>K) fun h=>by cases h
section
variable{P:Program}{env:Env}{m:Mem}{nx:Nat}{t:TypeId}{x y a:Operand}{d v:D}{k:IntKind}{n n':Int}{p q:TypeId}
theorem j7(hx:(opd env x).core=v):Ef P (.move x) env m nx ⟨True,v,[],[],0⟩:=⟨by simp only[aop,rho,hx],rfl,rfl⟩
theorem na(hx:(opd env x).core=v):Ef P (.assign x) env m nx ⟨True,v,[],[],0⟩:=⟨by simp only[aop,rho,hx],rfl,rfl⟩
theorem Ka(op:BinOp)(v:Value)(y:Operand):nilD P m op t (.s v) y=none:=by
 unfold nilD;split<;>first|rfl|(rename_i h;cases h)
theorem acj{op:BinOp}{v w:Value}(h:∀ a b,v=.bool a->w=.bool b->False):binD P op t (.s v) (.s w)=(binV op v w).map fun r=>(r.1,.s r.2):=by
 cases v<;>cases w<;>first|rfl|exact(h _ _ rfl rfl).elim
theorem mu{op:BinOp}{v w u:Value}{pre:Prop}(hx:(opd env x).core=.s v)(hy:(opd env y).core=.s w)(hn:∀ a b,v=.bool a->w=.bool b->False)(hb:binV op v w=some (pre,u)):Ef P (.binOp op t x y p) env m nx ⟨pre,.s u,[],[],0⟩:=
 ⟨by simp only[aop,rho,hx,hy,Ka,acj hn,hb,Option.map_some],rfl,rfl⟩
section ints
variable(hx:(opd env x).core=.s (.int k n))(hy:(opd env y).core=.s (.int k n'))
include hx hy
theorem Kz:Ef P (.binOp .lss t x y p) env m nx ⟨k=k,.s (.bool (decide (n<n'))),[],[],0⟩:=mu hx hy oS rfl
theorem KA:Ef P (.binOp .leq t x y p) env m nx ⟨k=k,.s (.bool (decide (n<=n'))),[],[],0⟩:=mu hx hy oS rfl
theorem KB:Ef P (.binOp .gtr t x y p) env m nx ⟨k=k,.s (.bool (decide (n'<n))),[],[],0⟩:=mu hx hy oS rfl
theorem KC:Ef P (.binOp .geq t x y p) env m nx ⟨k=k,.s (.bool (decide (n'<=n))),[],[],0⟩:=mu hx hy oS rfl
theorem KD:Ef P (.binOp .eql t x y p) env m nx ⟨k=k,.s (.bool (n==n')),[],[],0⟩:=mu hx hy oS rfl
theorem KE:Ef P (.binOp .neq t x y p) env m nx ⟨k=k,.s (.bool (n !=n')),[],[],0⟩:=mu hx hy oS rfl
theorem ack:Ef P (.binOp .add t x y p) env m nx ⟨k=k,.s (.int k (k.wrap (n+n'))),[],[],0⟩:=mu hx hy oS rfl
theorem acm:Ef P (.binOp .sub t x y p) env m nx ⟨k=k,.s (.int k (k.wrap (n - n'))),[],[],0⟩:=mu hx hy oS rfl
theorem acn:Ef P (.binOp .quo t x y p) env m nx ⟨k=k/\n'≠0,.s (.int k (k.wrap (n.tdiv n'))),[],[],0⟩:=mu hx hy oS rfl
theorem ade:Ef P (.binOp .rem t x y p) env m nx ⟨k=k/\n'≠0,.s (.int k (n.tmod n')),[],[],0⟩:=mu hx hy oS rfl
theorem adf:Ef P (.binOp .and t x y p) env m nx ⟨k=k,.s (.int k (intBitsV .and k n n')),[],[],0⟩:=mu hx hy oS rfl
theorem agA:Ef P (.binOp .or t x y p) env m nx ⟨k=k,.s (.int k (intBitsV .or k n n')),[],[],0⟩:=mu hx hy oS rfl
theorem Z2:Ef P (.binOp .andNot t x y p) env m nx ⟨k=k,.s (.int k (intBitsV .andNot k n n')),[],[],0⟩:=mu hx hy oS rfl
end ints
theorem adg{C:IntKind}(hx:(opd env x).core=.s (.int k n))(hy:(opd env y).core=.s (.int C n')):Ef P (.binOp .shl t x y p) env m nx ⟨0<=n',.s (.int k (k.wrap (n*2 ^ (min n'.toNat k.bits)))),[],[],0⟩:=mu hx hy oS rfl
theorem SN{C:IntKind}(hx:(opd env x).core=.s (.int k n))(hy:(opd env y).core=.s (.int C n')):Ef P (.binOp .shr t x y p) env m nx ⟨0<=n',.s (.int k (n.fdiv (2 ^ (min n'.toNat k.bits)))),[],[],0⟩:=mu hx hy oS rfl
theorem i64_in(n:Int)(h: -9223372036854775808<=n/\n<=9223372036854775807):IntKind.i64.wrap n=n:=Go.IntWalk.i64_in n h
theorem SP(hx:(opd env x).core=.s (.int .i64 n))(hy:(opd env y).core=.s (.int .i64 n'))(hb: -9223372036854775808<=n+n'/\n+n'<=9223372036854775807):Ef P (.binOp .add t x y p) env m nx ⟨IntKind.i64=IntKind.i64,.s (.int .i64 (n+n')),[],[],0⟩:=by
 have:=ack (P:=P) (m:=m) (nx:=nx) (t:=t) (p:=p) hx hy
 rwa[i64_in _ hb] at this
theorem KF(hx:(opd env x).core=.s (.int .i64 n))(hy:(opd env y).core=.s (.int .i64 n'))(hb: -9223372036854775808<=n - n'/\n - n'<=9223372036854775807):Ef P (.binOp .sub t x y p) env m nx ⟨IntKind.i64=IntKind.i64,.s (.int .i64 (n - n')),[],[],0⟩:=by
 have:=acm (P:=P) (m:=m) (nx:=nx) (t:=t) (p:=p) hx hy
 rwa[i64_in _ hb] at this
section strings
variable{s s':ByteArray}(hx:(opd env x).core=.s (.string s))(hy:(opd env y).core=.s (.string s'))
include hx hy
theorem Kb:Ef P (.binOp .eql t x y p) env m nx ⟨True,.s (.bool (s.toList==s'.toList)),[],[],0⟩:=mu hx hy oS rfl
theorem RC:Ef P (.binOp .geq t x y p) env m nx ⟨True,.s (.bool !(Op.bytesLess s.toList s'.toList)),[],[],0⟩:=mu hx hy oS rfl
end strings
theorem RD{b C:Bool}(hx:(opd env x).core=.s (.bool b))(hy:(opd env y).core=.s (.bool C)):Ef P (.binOp .eql t x y p) env m nx ⟨boT P t=true,.s (.bool (b==C)),[],[],0⟩:=
 ⟨by simp only[aop,rho,hx,hy,Ka,binD,Option.map_some],rfl,rfl⟩
theorem RE{b C:Bool}(hx:(opd env x).core=.s (.bool b))(hy:(opd env y).core=.s (.bool C)):Ef P (.binOp .neq t x y p) env m nx ⟨boT P t=true,.s (.bool !(b==C)),[],[],0⟩:=
 ⟨by simp only[aop,rho,hx,hy,Ka,binD,Option.map_some],rfl,rfl⟩
theorem SQ{b:Bool}(hx:(opd env x).core=.s (.bool b)):Ef P (.unOp .not t x) env m nx ⟨True,.s (.bool !b),[],[],0⟩:=⟨by simp only[aop,rho,hx,unV,Option.map_some],rfl,rfl⟩
theorem abl{z:List D}(C:zeroP P t=z):Ef P (.alloc t) env m nx ⟨tyOk P t=true,.rp nx 0,[(nx,some (.cells z t))],[],1⟩:=⟨by simp only[aop,C],rfl,rfl⟩
theorem SR{cs:List D}(hx:(opd env x).core=d)(hc:d.cells=cs):Ef P (.box t x) env m nx ⟨cs.all D.one=true,.rp nx 0,[(nx,some (.cells cs t))],[],1⟩:=⟨by simp only[aop,rho,hx,hc],rfl,rfl⟩
theorem Bb(hx:(opd env x).core=d)(hc:d.cells=[d]):Ef P (.box t x) env m nx ⟨[d].all D.one=true,.rp nx 0,[(nx,some (.cells [d] t))],[],1⟩:=SR hx hc
theorem ud{cs:List D}(hx:(opd env x).core=.agg cs):Ef P (.box t x) env m nx ⟨cs.all D.one=true,.rp nx 0,[(nx,some (.cells cs t))],[],1⟩:=SR hx rfl
theorem RF{cs:List D}(hx:(opd env x).core=.pt (v::cs))(ha:aggP P t=false):Ef P (.load t x) env m nx ⟨tyOk P t=true/\P.cellsOf t<=(v::cs).length,v,[],[],0⟩:=⟨by simp[aop,rho,hx,takeV,ha],rfl,rfl⟩
theorem ma{cs vs:List D}{n:Nat}(hx:(opd env x).core=.pt cs)(ha:aggP P t=true)(hc:P.cellsOf t=n)(hv:cs.take n=vs):Ef P (.load t x) env m nx ⟨tyOk P t=true/\P.cellsOf t<=cs.length,.agg vs,[],[],0⟩:=⟨by simp[aop,rho,hx,takeV,ha,hc,hv],rfl,rfl⟩
theorem fV{i off:Nat}{cs cs':List D}{e:TypeId}(hx:(opd env x).core=.rp i off)(hm:m i=some (.cells cs e))(hd:cs.drop off=v::cs')(ha:aggP P t=false):Ef P (.load t x) env m nx ⟨tyOk P t=true/\off+P.cellsOf t<=cs.length,v,[],[i],0⟩:=⟨by simp[aop,rho,hx,hm,takeV,ha,hd],rfl,rfl⟩
theorem dx{i off:Nat}{cs vs:List D}{e:TypeId}{n:Nat}(hx:(opd env x).core=.rp i off)(hm:m i=some (.cells cs e))(ha:aggP P t=true)(hc:P.cellsOf t=n)(hv:(cs.drop off).take n=vs):Ef P (.load t x) env m nx ⟨tyOk P t=true/\off+P.cellsOf t<=cs.length,.agg vs,[],[i],0⟩:=⟨by simp[aop,rho,hx,hm,takeV,ha,hc,hv],rfl,rfl⟩
theorem Qm{i off:Nat}{cs cs' vs:List D}{e:TypeId}(hx:(opd env x).core=.rp i off)(hy:(opd env y).core=d)(hm:m i=some (.cells cs e))(hv:d.cells=vs)(C:splice cs off vs=cs'):
 Ef P (.store t x y) env m nx ⟨tyOk P t=true/\vs.length=P.cellsOf t/\off+P.cellsOf t<=cs.length/\vs.all D.one=true,.tup [],[(i,some (.cells cs' e))],[i],0⟩:=⟨by simp only[aop,rho,hx,hy,hm,hv,C],rfl,rfl⟩
theorem iA{i off:Nat}{cs cs':List D}{e:TypeId}(hx:(opd env x).core=.rp i off)(hy:(opd env y).core=d)(hm:m i=some (.cells cs e))(hv:d.cells=[d])(C:cs.set off d=cs'):
 Ef P (.store t x y) env m nx ⟨tyOk P t=true/\[d].length=P.cellsOf t/\off+P.cellsOf t<=cs.length/\[d].all D.one=true,.tup [],[(i,some (.cells cs' e))],[i],0⟩:=Qm hx hy hm hv C
theorem gq{i off:Nat}{cs cs' vs:List D}{e:TypeId}(hx:(opd env x).core=.rp i off)(hy:(opd env y).core=.agg vs)(hm:m i=some (.cells cs e))(C:splice cs off vs=cs'):
 Ef P (.store t x y) env m nx ⟨tyOk P t=true/\vs.length=P.cellsOf t/\off+P.cellsOf t<=cs.length/\vs.all D.one=true,.tup [],[(i,some (.cells cs' e))],[i],0⟩:=Qm hx hy hm rfl C
theorem Qn{cs:List D}{j off:Nat}{C:TypeId}(hx:(opd env x).core=.pt cs)(hf:fieldP P t j=some (off,C)):Ef P (.fieldAddr t x j) env m nx ⟨0<P.cellsOf C,.pt (cs.drop off),[],[],0⟩:=⟨by simp only[aop,rho,hx,hf],rfl,rfl⟩
theorem qU{i o:Nat}{j off:Nat}{C:TypeId}{r:Row}(hx:(opd env x).core=.rp i o)(hm:m i=some r)(hf:fieldP P t j=some (off,C)):Ef P (.fieldAddr t x j) env m nx ⟨0<P.cellsOf C,.rp i (o+off),[],[i],0⟩:=⟨by simp only[aop,rho,hx,hf,hm],rfl,rfl⟩
theorem RG{cs:List D}(hx:(opd env x).core=.pt cs):Ef P (.nilCheck x) env m nx ⟨True,.pt cs,[],[],0⟩:=⟨by simp only[aop,rho,hx],rfl,rfl⟩
theorem RH{i o:Nat}{r:Row}(hx:(opd env x).core=.rp i o)(hm:m i=some r):Ef P (.nilCheck x) env m nx ⟨True,.rp i o,[],[i],0⟩:=⟨by simp only[aop,rho,hx,hm],rfl,rfl⟩
theorem KG{es cs:List D}{l sz:Nat}{e:TypeId}(hx:(opd env x).core=.sl es l)(hy:(opd env y).core=.s (.int k n))(he:elemP P t=e)(C:P.cellsOf e=sz)(hd:es.drop (n.toNat*sz)=cs):
 Ef P (.indexAddr t x y) env m nx ⟨slT P t=true/\0<=n/\n<l/\(n.toNat+1)*sz<=es.length,.pt cs,[],[],0⟩:=⟨by simp only[aop,rho,hx,hy,he,C,hd],rfl,rfl⟩
theorem Gw{j off l sz:Nat}{e:TypeId}{r:Row}(hx:(opd env x).core=.rs j off l)(hy:(opd env y).core=.s (.int k n))(hm:m j=some r)(he:elemP P t=e)(C:P.cellsOf e=sz):
 Ef P (.indexAddr t x y) env m nx ⟨slT P t=true/\0<=n/\n<l,.rp j (off+n.toNat*sz),[],[j],0⟩:=⟨by simp only[aop,rho,hx,hy,hm,he,C],rfl,rfl⟩
theorem aco{j off sz l:Nat}{e:TypeId}{r:Row}(hx:(opd env x).core=.rp j off)(hy:(opd env y).core=.s (.int k n))(hm:m j=some r)(he:elemP P t=e)(C:P.cellsOf e=sz)(hl:lenP P t=l):
 Ef P (.indexAddr t x y) env m nx ⟨arT P t=true/\0<=n/\n<l,.rp j (off+n.toNat*sz),[],[j],0⟩:=⟨by simp only[aop,rho,hx,hy,hm,he,C,hl],rfl,rfl⟩
section builtins
theorem xy{b:Builtin}{ts:Array TypeId}{args:Array Operand}{aS:List D}{e:Eff}(C:ts.size=args.size)(ha:args.toList.map (fun x=>(opd env x).core)=aS)(hb:builtinD P m nx b ts aS=some e):Ef P (.call { callee:=.builtin b,args:=args,argTypes:=ts }) env m nx e:=
 ⟨by simp only[aop];rw[if_pos C];simp only[rho];rw[ha,hb],rfl,rfl⟩
theorem SU{es:List D}{l:Nat}(hx:(opd env x).core=.sl es l):Ef P (.call { callee:=.builtin .len,args:= #[x],argTypes:= #[t] }) env m nx ⟨slT P t=true,.s (.int .i64 l),[],[],0⟩:=xy (aS:=[.sl es l]) rfl (by simp[hx]) rfl
theorem Gx{i off l:Nat}{r:Row}(hx:(opd env x).core=.rs i off l)(hm:m i=some r):Ef P (.call { callee:=.builtin .len,args:= #[x],argTypes:= #[t] }) env m nx ⟨slT P t=true,.s (.int .i64 l),[],[i],0⟩:=xy (aS:=[.rs i off l]) rfl (by simp[hx]) (by simp[builtinD,lenD,hm])
theorem acp(hx:(opd env x).core=.z):Ef P (.call { callee:=.builtin .len,args:= #[x],argTypes:= #[t] }) env m nx ⟨slT P t=true,.s (.int .i64 0),[],[],0⟩:=xy (aS:=[.z]) rfl (by simp[hx]) rfl
theorem Kc{b:ByteArray}(hx:(opd env x).core=.s (.string b)):Ef P (.call { callee:=.builtin .len,args:= #[x],argTypes:= #[t] }) env m nx ⟨stT P t=true,.s (.int .i64 b.size),[],[],0⟩:=xy (aS:=[.s (.string b)]) rfl (by simp[hx]) rfl
theorem SV{k:IntKind}(hx:(opd env x).core=.s (.int k n))(hy:(opd env y).core=.s (.int k n')):Ef P (.call { callee:=.builtin .min,args:= #[x,y],argTypes:= #[t,t] }) env m nx ⟨k=k,.s (.int k (if n'<n then n' else n)),[],[],0⟩:=xy (aS:=[.s (.int k n),.s (.int k n')]) rfl (by simp[hx,hy]) rfl
structure Cells(m:Mem)(sz:Nat)(d:D)(p:Prop)(rd:List Nat)(k:Nat)(news:List D):Prop where
 ok:sliceCells m sz d=some (p,rd,k,news)
theorem Pj{es news:List D}{k sz:Nat}(h:es.take (k*sz)=news):Cells m sz (.sl es k) (k*sz<=es.length) [] k news:=⟨by simp[sliceCells,h]⟩
theorem pP{i off k sz:Nat}{cs news:List D}{e:TypeId}(hm:m i=some (.cells cs e))(h:(cs.drop off).take (k*sz)=news):Cells m sz (.rs i off k) (off+k*sz<=cs.length) [i] k news:=⟨by simp[sliceCells,hm,h]⟩
theorem Kd{p:Prop}{rd:List Nat}{c sz:Nat}{news:List D}{e:TypeId}(hx:(opd env x).core=.z)(hy:(opd env y).core=d)(he:elemP P t=e)(C:P.cellsOf e=sz)(hc:Cells m sz d p rd c news):
 Ef P (.call { callee:=.builtin .append,args:= #[x,y],argTypes:= #[t,t] }) env m nx ⟨slT P t=true/\p/\0<sz/\c<=maxLen/\c*P.bytesOf e<=140737488355328,.rs nx 0 c,[(nx,some (.cells news e))],rd,1⟩:=by
 refine xy (aS:=[.z,d]) rfl (by simp[hx,hy]) ?_;simp only[builtinD];rw[if_pos oS];simp only[appendD,Array.getD_eq_getD_getElem?,List.getElem?_toArray,List.getElem?_cons_zero,Option.getD_some,he,C,hc.ok]
theorem rq{p:Prop}{rd:List Nat}{c sz i off l:Nat}{cs cs' news:List D}{e:TypeId}(hx:(opd env x).core=.rs i off l)(hm:m i=some (.cells cs e))(hy:(opd env y).core=d)(he:elemP P t=e)(C:P.cellsOf e=sz)(hc:Cells m sz d p rd c news)(hn:cs.drop off++news=cs'):
 Ef P (.call { callee:=.builtin .append,args:= #[x,y],argTypes:= #[t,t] }) env m nx ⟨slT P t=true/\e=e/\p/\0<sz/\off+l*sz=cs.length/\l+c<=maxLen/\(l+c)*P.bytesOf e<=140737488355328/\i∉rd,.rs nx 0 (l+c),[(i,none),(nx,some (.cells cs' e))],i::rd,1⟩:=by
 refine xy (aS:=[.rs i off l,d]) rfl (by simp[hx,hy]) ?_;simp only[builtinD];rw[if_pos oS];simp only[appendD,Array.getD_eq_getD_getElem?,List.getElem?_toArray,List.getElem?_cons_zero,Option.getD_some,he,C,hc.ok,hm,hn]
end builtins
theorem RI{b:ByteArray}(hx:(opd env x).core=.s (.string b))(hy:(opd env y).core=.s (.int k n)):Ef P (.index t x y) env m nx ⟨stT P t=true/\0<=n/\n<b.size,.s (.int .u8 (b.data.toList.getD n.toNat 0).toNat),[],[],0⟩:=⟨by simp only[aop,rho,hx,hy],rfl,rfl⟩
theorem sm{cs cs':List D}{j:Nat}(hx:(opd env x).core=.tup cs)(hd:cs.drop j=v::cs'):Ef P (.extract x j) env m nx ⟨j<cs.length,v,[],[],0⟩:=by
 have h:cs[j]? =some v:=by
  have:(cs.drop j)[0]? =some v:=by rw[hd];rfl
  simpa using this
 exact⟨by simp[aop,rho,hx,h],rfl,rfl⟩
theorem abm{ps:Array (Nat×Operand)}{fs:Array Field}{cs z:List D}{C:List (Nat×D)}(J:P.underlying t=some (.struct fs))(U:zeroP P t=z)(hq:(ps.toList.map fun q=>(q.1,(opd env q.2).core))=C)
 (hf:fillD (fun i=>(fs[i]?).map fun f=>(f.offset,P.cellsOf f.type)) z C=some cs):Ef P (.build t ps) env m nx ⟨tyOk P t=true/\fs.toList.all (fun f=>(P.info? f.type).isSome)=true,.agg cs,[],[],0⟩:=
 ⟨by simp only[aop,rho,J,U,hq,hf,Option.map_some],rfl,rfl⟩
theorem Ja{ps:Array (Nat×Operand)}{fs:Array Field}{C:List (Nat×Nat)}{cs z:List D}{J:List (Nat×D)}(U:P.underlying t=some (.struct fs))(hp:(fs.toList.map fun(f:Field)=>(f.offset,P.cellsOf f.type))=C)(X:zeroP P t=z)(hq:(ps.toList.map fun q=>(q.1,(opd env q.2).core))=J)
 (hf:fillD (fun i=>C[i]?) z J=some cs):Ef P (.build t ps) env m nx ⟨tyOk P t=true/\fs.toList.all (fun f=>(P.info? f.type).isSome)=true,.agg cs,[],[],0⟩:=by
 refine abm U X hq ?_
 have:(fun(i:Nat)=>(fs[i]?).map fun(f:Field)=>(f.offset,P.cellsOf f.type))=fun(i:Nat)=>C[i]? :=by
  funext i;rw[<- hp];simp
 rw[this];exact hf
theorem CA{ps:Array (Nat×Operand)}{l sz:Nat}{e:TypeId}{cs z:List D}{C:List (Nat×D)}(he:elemP P t=e)(J:P.cellsOf e=sz)(U:zeroP P e=z)(hq:(ps.toList.map fun q=>(q.1,(opd env q.2).core))=C)
 (hf:fillD (fun i=>some (i*sz,sz)) (replD l z) C=some cs):Ef P (.buildSlice t l ps) env m nx ⟨cs.all D.one=true/\l*sz<=2 ^ 24/\slT P t=true/\l<=maxLen,.rs nx 0 l,[(nx,some (.cells cs e))],[],1⟩:=
 ⟨by simp only[aop,rho,he,J,U,hq,hf,Option.map_some],rfl,rfl⟩
theorem RJ{f:Fn}{fs cs:Array Operand}{J C:List D}(hf:fs.toList.map (fun x=>(opd env x).core)=J)(hc:cs.toList.map (fun x=>(opd env x).core)=C):Ef P (.makeFunc f fs cs) env m nx ⟨True,.fn f J C,[],[],0⟩:=⟨by simp only[aop,rho,hf,hc],rfl,rfl⟩
theorem adh:Ef P (.makeMap t none) env m nx ⟨True,.mp nx,[(nx,some (.map []))],[],1⟩:=⟨by simp only[aop],rfl,rfl⟩
theorem AS{e:TypeId}{z:List D}(hx:(opd env x).core=.s (.int .i64 n))(hy:(opd env y).core=.s (.int .i64 n'))(he:elemP P t=e)(C:zeroP P e=z):
 Ef P (.makeSlice t x y) env m nx ⟨0<=n/\n=n'/\n<=9223372036854775807/\P.bytesOf e*n<=281474976710656/\slT P t=true,.rs nx 0 n.toNat,[(nx,some (.cells (replD n.toNat z) e))],[],1⟩:=⟨by simp only[aop,rho,hx,hy,he,C],rfl,rfl⟩
theorem acq{src:TypeId}{C:IntKind}(hx:(opd env x).core=.s (.int k n))(J:P.underlying t=some (.int C)):Ef P (.convert src t x) env m nx ⟨tyOk P src=true,.s (.int C (C.wrap n)),[],[],0⟩:=⟨by simp only[aop,rho,hx,J],rfl,rfl⟩
theorem abn{src e:TypeId}{b:ByteArray}(hx:(opd env x).core=.s (.string b))(C:P.underlying t=some (.slice e))(he:P.underlying e=some (.int .u8)):
 Ef P (.convert src t x) env m nx ⟨stT P src=true/\b.size<=maxLen,.sl (b.data.toList.map fun c=>.s (.int .u8 c.toNat)) b.size,[],[],0⟩:=⟨by simp only[aop,rho,hx,C,he],rfl,rfl⟩
def cR(b:ByteArray):List Int:=b.data.toList.map fun c=>(c.toNat:Int)
theorem Xp(b:ByteArray):(cR b).length=b.size:=by unfold cR;rw[List.length_map];rfl
theorem Pk{src e:TypeId}{b:ByteArray}(hx:(opd env x).core=.s (.string b))(C:P.underlying t=some (.slice e))(he:P.underlying e=some (.int .u8)):
 Ef P (.convert src t x) env m nx ⟨stT P src=true/\b.size<=maxLen,.sl ((cR b).map fun n=>.s (.int .u8 n)) (cR b).length,[],[],0⟩:=by
 have:=abn (P:=P) (env:=env) (m:=m) (nx:=nx) (t:=t) (src:=src) hx C he;have h:(cR b).map (fun n=>D.s (.int .u8 n))=b.data.toList.map (fun c=>D.s (.int .u8 c.toNat)):=by rw[cR,List.map_map];rfl
 rw[Xp,h];exact this
theorem AZ{es es':List D}{l:Nat}{lo hi:Option Operand}{a b:Int}{e:TypeId}{sz:Nat}(hx:(opd env x).core=.sl es l)(he:elemP P t=e)(C:P.cellsOf e=sz)
 (ha:bndD (lo.map fun x=>(opd env x).core) 0=some a) (hb:bndD (hi.map fun x=>(opd env x).core) l=some b) (hd:(es.drop (a.toNat*sz)).take ((b - a).toNat*sz)=es'):
 Ef P (.slice t x lo hi none) env m nx ⟨slT P t=true/\0<=a/\a<=b/\b<=l,.sl es' (b - a).toNat,[],[],0⟩:=by
 refine⟨?_,rfl,rfl⟩;show sliceD P m t (opd env x).core (lo.map fun x=>(opd env x).core) (hi.map fun x=>(opd env x).core) (Option.map (fun x=>(opd env x).core) none)=_;rw[hx];simp only[sliceD,Option.map_none,ha,hb,he,C,hd]
theorem FZ{i off l:Nat}{cs:List D}{lo hi:Option Operand}{a b:Int}{e:TypeId}{sz:Nat}(hx:(opd env x).core=.rs i off l)(hm:m i=some (.cells cs e))(he:elemP P t=e)(C:P.cellsOf e=sz)
 (ha:bndD (lo.map fun x=>(opd env x).core) 0=some a) (hb:bndD (hi.map fun x=>(opd env x).core) l=some b):
 Ef P (.slice t x lo hi none) env m nx ⟨(slT P t=true/\sz=sz)/\0<=a/\a<=b/\b<=l,.rs i (off+a.toNat*sz) (b - a).toNat,[],[i],0⟩:=by
 refine⟨?_,rfl,rfl⟩;show sliceD P m t (opd env x).core (lo.map fun x=>(opd env x).core) (hi.map fun x=>(opd env x).core) (Option.map (fun x=>(opd env x).core) none)=_;rw[hx];simp only[sliceD,hm,Option.map_none,ha,hb,he,C]
theorem Z3{es es':List D}{l:Nat}{lo hi:Option Operand}{z:Operand}{a b c:Int}{e:TypeId}{sz:Nat}(hx:(opd env x).core=.sl es l)(he:elemP P t=e)(C:P.cellsOf e=sz)
 (ha:bndD (lo.map fun x=>(opd env x).core) 0=some a) (hb:bndD (hi.map fun x=>(opd env x).core) l=some b) (J:(opd env z).core.int? =some c) (hd:(es.drop (a.toNat*sz)).take ((b - a).toNat*sz)=es'):
 Ef P (.slice t x lo hi (some z)) env m nx ⟨slT P t=true/\hi.isSome=true/\0<=a/\a<=b/\b<=c/\c<=l,.sl es' (b - a).toNat,[],[],0⟩:=by
 refine⟨?_,rfl,rfl⟩;show sliceD P m t (opd env x).core (lo.map fun x=>(opd env x).core) (hi.map fun x=>(opd env x).core) (Option.map (fun x=>(opd env x).core) (some z))=_;rw[hx];simp only[sliceD,Option.map_some,ha,hb,J,he,C,hd,Option.isSome_map]
theorem Jb{i:Nat}{es:List (Value×D)}{key:Value}{ok:Bool}{kt:TypeId}(hx:(opd env x).core=.mp i)(hm:m i=some (.map es))(hk:keyV (opd env y).core=some key)(ht:mkeyP P t=kt)(hg:gotD P t ok (lookD key es)=v):
 Ef P (.lookup t x y ok) env m nx ⟨mapT P t=true/\keyP P kt key=true/\es.all (fun e=>keyP P kt e.1)=true,v,[],[i],0⟩:=by
 refine⟨?_,rfl,rfl⟩;show lookupD P m t (opd env x).core (opd env y).core ok=_;simp only[lookupD,hk,hx,hm,ht,hg]
theorem Om{es:List (Value×D)}{key:Value}{ok:Bool}{kt:TypeId}(hx:(opd env x).core=.im es)(hk:keyV (opd env y).core=some key)(ht:mkeyP P t=kt)(hg:gotD P t ok (lookD key es)=v):
 Ef P (.lookup t x y ok) env m nx ⟨mapT P t=true/\keyP P kt key=true/\es.all (fun e=>keyP P kt e.1)=true,v,[],[],0⟩:=by
 refine⟨?_,rfl,rfl⟩;show lookupD P m t (opd env x).core (opd env y).core ok=_;simp only[lookupD,hk,hx,ht,hg]
theorem RK{i:Nat}{es:List (Value×D)}{key:Value}{z:Operand}{kt:TypeId}(hx:(opd env x).core=.mp i)(hm:m i=some (.map es))(hk:keyV (opd env y).core=some key)(C:(opd env z).core=v)(ht:mkeyP P t=kt):
 Ef P (.mapUpdate t x y z) env m nx ⟨mapT P t=true/\keyP P kt key=true/\es.all (fun e=>keyP P kt e.1)=true,.tup [],[(i,some (.map (putD key v es)))],[i],0⟩:=by
 refine⟨?_,rfl,rfl⟩;show mapPutD P m t (opd env x).core (opd env y).core (opd env z).core=_;simp only[mapPutD,hk,hx,hm,ht,C]
end
theorem gu{α:Type}{f:α->D}:∀ {l:List α} {k:Nat} {x:α},l[k]? =some x->(l.map f).drop k=f x::(l.drop (k+1)).map f
 |[],k,x,h=>by simp at h
 |a::l,0,x,h=>by simp at h;subst h;rfl
 |a::l,k+1,x,h=>by simpa using gu (f:=f) (l:=l) (k:=k) (by simpa using h)
theorem On{α:Type}{f:α->List D}{sz:Nat}(C:∀ x,(f x).length=sz):∀ {l:List α} {k:Nat} {x:α},l[k]? =some x->(l.flatMap f).drop (k*sz)=f x++(l.drop (k+1)).flatMap f
 |[],k,x,h=>by simp at h
 |a::l,0,x,h=>by simp at h;subst h;simp
 |a::l,k+1,x,h=>by
  have h1:(k+1)*sz=(f a).length+k*sz:=by rw[C];rw[Nat.add_mul];omega
  simp only[List.flatMap_cons,h1,List.drop_append,List.drop_succ_cons];rw[List.drop_of_length_le oG];have:(f a).length+k*sz - (f a).length=k*sz:=by omega
  rw[this];simpa using On C (l:=l) (k:=k) (by simpa using h)
theorem NI{α:Type}{f:α->List D}{sz:Nat}(C:∀ x,(f x).length=sz):∀ (l:List α),(l.flatMap f).length=l.length*sz
 |[]=>by simp
 |a::l=>by simp only[List.flatMap_cons,List.length_append,C,NI C l,List.length_cons,Nat.add_mul];omega
section
variable{P:Program}{env:Env}{m:Mem}{nx:Nat}{t e:TypeId}{x y:Operand}{k:IntKind}
theorem RL{α:Type}{f:α->D}{l:List α}{i n:Nat}{z:α}(hx:(opd env x).core=.sl (l.map f) n)(hy:(opd env y).core=.s (.int k i))(he:elemP P t=e)(C:P.cellsOf e=1)(J:l[i]? =some z):
 Ef P (.indexAddr t x y) env m nx ⟨slT P t=true/\0<=(i:Int)/\(i:Int)<n/\((i:Int).toNat+1)*1<=(l.map f).length,.pt (f z::(l.drop (i+1)).map f),[],[],0⟩:=
 KG hx hy he C (by rw[bx,Nat.mul_one];exact gu J)
theorem RM{α:Type}{f:α->D}{l:List α}{i:Nat}{z:α}(ht:slT P t=true)(C:l[i]? =some z):slT P t=true/\0<=(i:Int)/\(i:Int)<l.length/\((i:Int).toNat+1)*1<=(l.map f).length:=by
 have:=(bL.1 C).1;exact⟨ht,oG,oG,by simp;omega⟩
theorem xg{α:Type}{f:α->List D}{sz:Nat}{l:List α}{i n:Nat}{z:α}(hx:(opd env x).core=.sl (l.flatMap f) n)(hy:(opd env y).core=.s (.int k i))(he:elemP P t=e)(C:P.cellsOf e=sz)(hl:∀ x,(f x).length=sz)(J:l[i]? =some z):
 Ef P (.indexAddr t x y) env m nx ⟨slT P t=true/\0<=(i:Int)/\(i:Int)<n/\((i:Int).toNat+1)*sz<=(l.flatMap f).length,.pt (f z++(l.drop (i+1)).flatMap f),[],[],0⟩:=
 KG hx hy he C (by rw[bx];exact On hl J)
theorem xh{α:Type}{f:α->List D}{sz:Nat}{l:List α}{i:Nat}{z:α}(ht:slT P t=true)(hl:∀ x,(f x).length=sz)(C:l[i]? =some z):slT P t=true/\0<=(i:Int)/\(i:Int)<l.length/\((i:Int).toNat+1)*sz<=(l.flatMap f).length:=by
 have:=(bL.1 C).1;refine⟨ht,oG,oG,?_⟩;rw[NI hl,bx];exact Nat.mul_le_mul_right _ this
theorem RN{v:D}{cs:List D}(ht:tyOk P t=true)(hc:P.cellsOf t=1):tyOk P t=true/\P.cellsOf t<=(v::cs).length:=⟨ht,by rw[hc];simp⟩
theorem fW{v:D}{cs cs':List D}{off:Nat}(ht:tyOk P t=true)(hc:P.cellsOf t=1)(hd:cs.drop off=v::cs'):tyOk P t=true/\off+P.cellsOf t<=cs.length:=by
 refine⟨ht,?_⟩;have:(cs.drop off).length=cs'.length+1:=by rw[hd];rfl
 rw[List.length_drop] at this;omega
theorem me{n:Nat}{cs:List D}(ht:tyOk P t=true)(hc:P.cellsOf t=n)(hl:n<=cs.length):tyOk P t=true/\P.cellsOf t<=cs.length:=⟨ht,by rw[hc];exact hl⟩
theorem dy{n off:Nat}{cs:List D}(ht:tyOk P t=true)(hc:P.cellsOf t=n)(hl:off+n<=cs.length):tyOk P t=true/\off+P.cellsOf t<=cs.length:=⟨ht,by rw[hc];exact hl⟩
theorem pb{n:Nat}(hc:P.cellsOf t=n+1):0<P.cellsOf t:=by omega
theorem dQ{n off:Nat}{cs vs:List D}(ht:tyOk P t=true)(hc:P.cellsOf t=n)(hv:vs.length=n/\off+n<=cs.length)(C:vs.all D.one=true):tyOk P t=true/\vs.length=P.cellsOf t/\off+P.cellsOf t<=cs.length/\vs.all D.one=true:=
 ⟨ht,by rw[hc];exact hv.1,by rw[hc];exact hv.2,C⟩
end
section
variable{P:Program}{K:D->St->Prop}{st:St}
theorem vB(h:K (.tup []) st):retQ P [] K .ret st:=h
theorem ue(h:K (.tup []) st):retQ P [] K .normal st:=h
theorem ax{t:Nat}{d:D}(hd:st.env t=d)(h:K d st):retQ P [.tmp t] K .ret st:=⟨trivial,by subst hd;exact h⟩
theorem dN{t u:Nat}{d e:D}(hd:st.env t=d)(he:st.env u=e)(h:K (.tup [d,e]) st):retQ P [.tmp t,.tmp u] K .ret st:=⟨trivial,trivial,by subst hd;subst he;exact h⟩
theorem DG{t u w:Nat}{d e f:D}(hd:st.env t=d)(he:st.env u=e)(hf:st.env w=f)(h:K (.tup [d,e,f]) st):retQ P [.tmp t,.tmp u,.tmp w] K .ret st:=⟨trivial,trivial,trivial,by subst hd;subst he;subst hf;exact h⟩
theorem jZ{a i off n:Nat}{ty e:TypeId}{cs vs:List D}(ha:st.env a=.rp i off)(hm:st.mem i=some (.cells cs e))(hg:aggP P ty=true)(hc:P.cellsOf ty=n)(hv:(cs.drop off).take n=vs)(ht:tyOk P ty=true)(hl:off+n<=cs.length):
 ∃ p,resD P st (.cell a ty)=some (p,.agg vs)/\p:=⟨tyOk P ty=true/\off+n<=cs.length,by simp only[resD,ha,hm,takeV,hg,if_true,hc,hv],ht,hl⟩
theorem jH{a:Nat}{ty:TypeId}{d:D}(hr:∃ p,resD P st (.cell a ty)=some (p,d)/\p)(h:K d st):retQ P [.cell a ty] K .ret st:=by
 obtain⟨p,h1,h2⟩:=hr;simp only[retQ,retL,h1];exact⟨h2,h⟩
theorem XV{a t:Nat}{ty:TypeId}{d e:D}(hr:∃ p,resD P st (.cell a ty)=some (p,d)/\p)(he:st.env t=e)(h:K (.tup [d,e]) st):retQ P [.cell a ty,.tmp t] K .ret st:=by
 obtain⟨p,h1,h2⟩:=hr;simp only[retQ,retL,h1];exact⟨h2,trivial,by subst he;exact h⟩
end
section
variable{P:Program}{Y:YSpec}{rf:Bool}{Q:Exit->St->Prop}{st:St}
theorem aq{l:List (Nat×D)}{env:Env}{m:Mem}{nx:Nat}(h:jk l env):Ghost P ⟨env,m,nx⟩ ⟨az l,m,nx⟩:=.forget env _ m nx (nX h)
def Ll(P:Program):List (Nat×List D×TypeId)->Mem->Prop
 |[],_=>True
 |(i,cs,e)::fs,m=>m i=some (.cells cs e)/\Ll P fs (fun j=>if j=i then none else(m j).map (Row.sub (fz0 i cs (P.cellsOf e))))
def tf(P:Program):List (Nat×List D×TypeId)->D->D
 |[],d=>d
 |(i,cs,e)::fs,d=>tf P fs (sub (fz0 i cs (P.cellsOf e)) d)
theorem Oq:∀ {fs:List (Nat×List D×TypeId)} {env:Env} {m:Mem} {nx:Nat},Ll P fs m->∃ m',Ghost P ⟨env,m,nx⟩ ⟨fun t=>tf P fs (env t),m',nx⟩
 |[],env,m,nx,_=>⟨m,.refl _⟩
 |(i,cs,e)::fs,env,m,nx,⟨h1,h2⟩=>by
  obtain⟨m',h⟩:=Oq (env:=fun t=>sub (fz0 i cs (P.cellsOf e)) (env t)) (nx:=nx) h2;exact⟨m',(Ghost.freeze env m nx i cs e h1).trans h⟩
theorem bw{env:Env}{m:Mem}{nx:Nat}(fs:List (Nat×List D×TypeId))(hf:Ll P fs m){l:List (Nat×D)}(hl:jk l fun t=>tf P fs (env t)):Ghost P ⟨env,m,nx⟩ ⟨az l,fun _=>none,nx⟩:=by
 obtain⟨m',h⟩:=Oq (env:=env) (nx:=nx) hf;exact h.trans ((Ghost.forget _ _ _ _ (nX hl)).trans (Ghost.drop _ _ _ _ fun _=>.inr rfl))
def oa(iF id:Nat)(next:St->Prop)(Q:Exit->St->Prop):Exit->St->Prop
 | .normal,s=>next s
 | .exit i,s=>if i=iF then next s else if i=id then Q .normal s else Q (.exit i) s
 |e,s=>Q e s
def ur(P:Program){α:Type}(S:α->St)(J:α->Prop)(μ:α->Nat)(x:α)(s:St):Prop:=∃ C,Ghost P s (S C)/\J C/\μ C<μ x
theorem aK{α:Type}{S:α->St}{J:α->Prop}{μ:α->Nat}{x:α}{s:St}(C:α)(hg:Ghost P s (S C))(U:J C)(X:μ C<μ x):ur P S J μ x s:=⟨C,hg,U,X⟩
theorem Gf[eD Y]{b:Code}{α:Type}(S:α->St)(J:α->Prop)(μ:α->Nat)(C:α)(hg:Ghost P st (S C))(X:J C)(h:∀ x,J x->AW P Y rf b (seqQ (ur P S J μ x) Q) (S x)){a:Code}(ha:∀ st,Q .normal st->Q .normal st):
 ∃ st',Ghost P st st'/\AW P Y rf (.loop b) Q st':=
 ⟨S C,hg,abp S J μ C rfl X fun x hx=>vt b (fun e st' hq=>by
  cases e with
  |normal=>
   obtain⟨U,h1,h2,h3⟩:=hq;exact⟨S U,U,h1,rfl,h2,h3⟩
  |_=>exact hq) (h x hx)⟩
variable{id iF t i1 i2 i3 i4:Nat}{rc ri:Array Oper}{body rest:Code}{α:Type}
theorem JP[eD Y]{ri:Array Oper}{next:St->Prop}{s:St}(h:AW P Y rf body (oa iF id (fun s=>AOps P Y ri false [] (gH next) ri.toList s []) Q) s):
 AW P Y rf (.seq (.block iF body) (.region i3 ri false)) (seqQ next (blockQ id Q)) s:=by
 refine vt body (fun e s h=>?_) h;have hr:∀ s,AOps P Y ri false [] (gH next) ri.toList s []->∃ s',Ghost P s s'/\AW P Y rf (.region i3 ri false) (seqQ next (blockQ id Q)) s':=fun s h=>⟨s,.refl s,tN (rf:=rf) (id:=i3) (AOps.mF h fun _ h=>h)⟩
 cases e with
 |normal=>exact hr s h
 |exit i=>
  simp only[oa] at h;simp only[blockQ];split at h
  .rename_i hi;rw[if_pos hi];exact hr s h
  .rename_i hi;rw[if_neg hi];simp only[seqQ,blockQ];exact h
 |_=>exact h
theorem dM[eD Y](S:α->St)(J:α->Prop)(μ:α->Nat)(C:α)(hg:Ghost P st (S C))(U:J C)
 (h:∀ x,J x->AOps P Y rc false [] (gH fun s=>∃ g,opd s.env (.tmp t)=.s (.bool g)/\(g=true->AW P Y rf body (oa iF id (fun s=>AOps P Y ri false [] (gH (ur P S J μ x)) ri.toList s []) Q) s)/\(g=false->Q .normal s)) rc.toList (S x) []):
 ∃ st',Ghost P st st'/\AW P Y rf (.block id (.loop (.seq (.region i1 rc false) (.seq (.cond (.tmp t) .skip (.exit id)) (.seq (.block iF body) (.region i3 ri false)))))) Q st':=by
 refine Gf (Q:=blockQ id Q) S J μ C hg U (fun x hx=>?_) (a:=.skip) fun _ h=>h;refine tN (rf:=rf) (id:=i1) (AOps.mF (h x hx) fun s X=>?_);obtain⟨g,h1,h2,h3⟩:=X;refine⟨s,.refl s,cH h1 (fun z3=>?_) fun z4=>?_⟩
 .exact b7 (JP (h2 z3))
 .refine sk ?_;simp only[seqQ,blockQ,if_true];exact h3 z4
theorem cI[eD Y](S:α->St)(J:α->Prop)(μ:α->Nat)(C:α)(hg:Ghost P st (S C))(U:J C)
 (h:∀ x,J x->AOps P Y rc false [] (gH fun s=>∃ g,opd s.env (.tmp t)=.s (.bool g)/\(g=true->AW P Y rf body (oa iF id (fun s=>AOps P Y ri false [] (gH (ur P S J μ x)) ri.toList s []) Q) s)/\(g=false->Q .normal s)) rc.toList (S x) []):
 ∃ st',Ghost P st st'/\AW P Y rf (.block id (.loop (.seq (.seq (.region i1 rc false) (.cond (.tmp t) .skip (.exit id))) (.seq (.block iF body) (.region i3 ri false))))) Q st':=by
 refine Gf (Q:=blockQ id Q) S J μ C hg U (fun x hx=>?_) (a:=.skip) fun _ h=>h;refine aC (tN (rf:=rf) (id:=i1) (AOps.mF (h x hx) fun s X=>?_));obtain⟨g,h1,h2,h3⟩:=X;refine⟨s,.refl s,cH h1 (fun z3=>?_) fun z4=>?_⟩
 .exact b7 (JP (h2 z3))
 .refine sk ?_;simp only[seqQ,blockQ,if_true];exact h3 z4
theorem aaa[eD Y]{next:St->Prop}{s:St}(h:AW P Y rf body (oa iF id next Q) s):AW P Y rf (.block iF body) (seqQ next (blockQ id Q)) s:=by
 refine vt body (fun e s h=>?_) h;cases e with
 |exit i=>
  simp only[oa] at h;simp only[blockQ];split at h
  .rename_i hi;rw[if_pos hi];exact h
  .rename_i hi;rw[if_neg hi];simp only[seqQ,blockQ];exact h
 |_=>exact h
theorem y7[eD Y](S:α->St)(J:α->Prop)(μ:α->Nat)(C:α)(hg:Ghost P st (S C))(U:J C)
 (h:∀ x,J x->AOps P Y rc false [] (gH fun s=>∃ g,opd s.env (.tmp t)=.s (.bool g)/\(g=true->AW P Y rf body (oa iF id (ur P S J μ x) Q) s)/\(g=false->Q .normal s)) rc.toList (S x) []):
 ∃ st',Ghost P st st'/\AW P Y rf (.block id (.loop (.seq (.seq (.region i1 rc false) (.cond (.tmp t) .skip (.exit id))) (.block iF body)))) Q st':=by
 refine Gf (Q:=blockQ id Q) S J μ C hg U (fun x hx=>?_) (a:=.skip) fun _ h=>h;refine aC (tN (rf:=rf) (id:=i1) (AOps.mF (h x hx) fun s X=>?_));obtain⟨g,h1,h2,h3⟩:=X;refine⟨s,.refl s,cH h1 (fun z3=>?_) fun z4=>?_⟩
 .exact b7 (aaa (h2 z3))
 .refine sk ?_;simp only[seqQ,blockQ,if_true];exact h3 z4
theorem ct{s:St}(h:Q .normal s):AW P Y rf .skip Q s:=h
theorem aT{s:St}(h:Q .ret s):AW P Y rf .ret Q s:=h
theorem acs{s:St}{i:Nat}(h:Q (.exit i) s):AW P Y rf (.exit i) Q s:=h
theorem bR{next:St->Prop}{s:St}(h:Q .ret s):oa iF id next Q .ret s:=h
theorem aL{K:St->Prop}{s:St}(h:Q .ret s):seqQ K Q .ret s:=h
theorem bH{s:St}(h:Q .ret s):blockQ id Q .ret s:=h
theorem JQ{s:St}(h:Q .ret s):scopeQ Q .ret s:=h
theorem xm{next:St->Prop}{s:St}(h:next s):oa iF id next Q (.exit iF) s:=by simp only[oa,if_true];exact h
theorem adm{i:Nat}{next:St->Prop}{s:St}(h2:i≠iF)(h1:i≠id)(h:Q (.exit i) s):oa iF id next Q (.exit i) s:=by simp only[oa,if_neg h2,if_neg h1];exact h
theorem acu{K:St->Prop}{i:Nat}{s:St}(h:Q (.exit i) s):seqQ K Q (.exit i) s:=h
theorem l8[eD Y]{a:Code}(h:AW P Y rf a (blockQ id (seqQ (fun st=>AW P Y rf rest Q st) Q)) st):AW P Y rf (.seq (.block id a) rest) Q st:=SZ (fun st=>AW P Y rf rest Q st) (nY h) fun _ h=>h
theorem lL{s:St}(h:AW P Y rf rest Q s):AW P Y rf .skip (blockQ id (seqQ (fun st=>AW P Y rf rest Q st) Q)) s:=h
theorem RP[eD Y]{a:Code}(h:AW P Y rf a (seqQ (fun st=>AW P Y rf rest Q st) Q) st):AW P Y rf (.seq a rest) Q st:=SZ _ h fun _ h=>h
theorem lM[eD Y]{r:Array Oper}{i:Nat}{J:St->Prop}(h:AOps P Y r false [] (gH J) r.toList st []):AW P Y rf (.region i r false) (seqQ J Q) st:=tN (rf:=rf) (id:=i) (AOps.mF h fun _ h=>h)
theorem oZ[eD Y]{r:Array Oper}{i:Nat}{J:St->Prop}(h:AOps P Y r false [] (gH J) r.toList st []):AW P Y rf (.region i r false) (blockQ id (seqQ J Q)) st:=tN (rf:=rf) (id:=i) (AOps.mF h fun _ h=>h)
theorem bj{J:St->Prop}(h:J st):AW P Y rf .skip (seqQ J Q) st:=h
theorem Jh{J:St->Prop}(h:J st):AW P Y rf .skip (blockQ id (seqQ J Q)) st:=h
theorem bV[eD Y]{a:Code}(R:St->Prop)(h:∃ st',Ghost P st st'/\AW P Y rf a (seqQ R Q) st')(k:∀ s,R s->∃ s',Ghost P s s'/\AW P Y rf rest Q s'):∃ st',Ghost P st st'/\AW P Y rf (.seq a rest) Q st':=by
 obtain⟨st',hg,h⟩:=h;exact⟨st',hg,ew R h k⟩
end
def Real(d:D):Prop:=∃ F β w v,R F β w d v
theorem Real.sl{es:List D}{n:Nat}(h:Real (.sl es n)):n<=maxLen/\∀ d∈es,Real d:=by
 obtain⟨F,β,w,v,h⟩:=h;cases h with
 |sln=>simp[maxLen]
 |sl _ _ b o cap us hf hb ap rG fx hc C=>
  refine⟨Nat.le_trans rG fx,fun d hd=>?_⟩;obtain⟨k,hk⟩:=dt hd;exact⟨F,β,w,_,C k d hk⟩
theorem Real.agg{cs:List D}(h:Real (.agg cs)):∀ d∈cs,Real d:=by
 obtain⟨F,β,w,v,h⟩:=h;obtain⟨vs,rfl,hl,C⟩:=h.agg_inv;intro d hd;obtain⟨k,hk⟩:=dt hd;have:k<vs.length:=by rw[hl];exact(bL.1 hk).1
 exact⟨F,β,w,_,C k d vs[k] hk (by simp[this])⟩
theorem abq{F:Nat->Prop}{β:Pla}{w:World}{args:List D}{vs:Array Value}(h:Rs F β w args vs):∀ a∈args,Real a:=fun a ha=>by
 obtain⟨k,hk⟩:=dt ha;have:k<vs.size:=by rw[h.1];exact(bL.1 hk).1
 exact⟨F,β,w,vs[k],h.2 k a _ hk (by simp[this])⟩
theorem m8{P:Program}{f:FuncId}{args:List D}{r:D}(he:enterOk P f=true)(ht:∀ a∈args,Tr a)(h:(∀ a∈args,Real a)->PCall P f args r):PCall P f args r:=
 ⟨he,ht,fun F w vs hF hR=>(h (abq hR)).2.2 F w vs hF hR⟩
section
variable{P:Program}{m:Mem}{rds:List Nat}
theorem cU{a:D}(h:Tr a):Sn P rds m a a:=fun _ _ _ _ _ hv=>h.Bk hv
theorem GN{i off n:Nat}{cs es:List D}{e:TypeId}(hm:m i=some (.cells cs e))(hi:i∈rds)(J:(cs.drop off).take (n*P.cellsOf e)=es)(ht:∀ a∈es,Tr a):Sn P rds m (.rs i off n) (.sl es n):=fun F β w v hl hv=>by
 subst J;obtain⟨p,hp,hr,X⟩:=hl i hi _ hm;cases hv with
 |rsd _ _ _ _ h1 _=>rw[h1] at hp;cases hp;cases hr
 |rsn _ a h1=>
  rw[h1] at hp;cases hp;cases hr;simp only[List.drop_nil,List.take_nil];exact .sln a 0
 |rsz _ _ a b o len room sz h1=>
  simp only[Nat.zero_mul,List.take_zero];exact .sln a 0
 |rs _ _ _ cap b o len room sz h1 hn fx h2 h3=>
  rw[h1] at hp;cases hp
  have ap:b<w.heap.size:=by
   cases hr with
   |cells _ _ _ _ _ _ c hb _ _ _ _=>exact(Array.getElem?_eq_some_iff.1 hb).1
  obtain⟨C,hl,cA,_⟩:=hr.rd;obtain⟨us,U,u2⟩:=(C.drop off).take (n*P.cellsOf e);exact .sl _ n b (o+off) cap us (X b rfl) (fun k q hq=>by cases hq) ap hn fx U fun k d hk=>(ht d (cx hk)).Bk (u2 k d hk)
theorem adr{i off:Nat}{cs es:List D}{e:TypeId}(hm:m i=some (.cells cs e))(hi:i∈rds)(J:cs.drop off=es)(ht:∀ a∈es,Tr a):Sn P rds m (.rp i off) (.pt es):=fun F β w v hl hv=>by
 subst J;obtain⟨p,hp,hr,X⟩:=hl i hi _ hm;cases hv with
 |rpd _ _ _ h1 _=>rw[h1] at hp;cases hp;cases hr
 |rp _ _ b o len room sz h1=>
  rw[h1] at hp;cases hp
  have ap:b<w.heap.size:=by
   cases hr with
   |cells _ _ _ _ _ _ c hb _ _ _ _=>exact(Array.getElem?_eq_some_iff.1 hb).1
  obtain⟨C,hl,cA,_⟩:=hr.rd;obtain⟨us,U,u2⟩:=C.drop off;exact .pt _ b (o+off) us (X b rfl) (fun k q hq=>by cases hq) ap U fun k d hk=>(ht d (cx hk)).Bk (u2 k d hk)
variable{Y:YSpec}{rf:Bool}{ops:Array Oper}{dr:Bool}{cf:List (Nat×Nat)}{Q:Exit->St->Prop}{rest:List Oper}{env:Env}{nx:Nat}{tr:Tra}{t:Nat}{op:Op}{ty:TypeId}{pos:String}{after:Array Edge}
 {pre:Prop} {v:D} {rd:List Nat}
theorem acz{j:Nat}{b:Bool}{u:Nat}{row:Row}(hj:(ops[j]?).bind (·.dst)=some u)(hg:guardC (env u) b=some true)(he:Ef P op env m nx ⟨pre,v,[(nx,some row)],rd,1⟩)(ha:iC env op.operands.toList)(hp:pre)
 (K:AOps P Y ops dr cf Q rest ⟨up env t v,up m nx (some row),nx+1⟩ (tr++[(rd,[nx])])):AOps P Y ops dr cf Q (⟨some t,op,ty,pos,after,some (j,b)⟩::rest) ⟨env,m,nx⟩ tr:=
 ads hj hg he ha hp (fun h=>by cases h) K
theorem Gz{j:Nat}{b:Bool}{u:Nat}{f:FuncId}{args args':List D}{r:D}{rds:List Nat}(h:PCall P f args' r)(C:r.scal=true)(hj:(ops[j]?).bind (·.dst)=some u)(hg:guardC (env u) b=some true)(hc:callD (rho env op) op=some (f,args))(J:Sns P rds m args args')(ha:iC env op.operands.toList)
 (K:AOps P Y ops dr cf Q rest ⟨up env t r,m,nx⟩ (tr++[(rds,[])])):AOps P Y ops dr cf Q (⟨some t,op,ty,pos,after,some (j,b)⟩::rest) ⟨env,m,nx⟩ tr:=
 aad hj hg hc ha (.inr (.inl ⟨args',rds,r,J,h,C,K⟩))
end
section
variable{P:Program}{Y:YSpec}{rf:Bool}{ops:Array Oper}{dr:Bool}{cf:List (Nat×Nat)}{Q:Exit->St->Prop}{rest:List Oper}{env:Env}{m:Mem}{nx:Nat}{tr:Tra}{t:Nat}{ty:TypeId}{pos:String}{after:Array Edge}
theorem YS{j:Nat}{b0 C:Bool}{u:Nat}(hj:(ops[j]?).bind (·.dst)=some u)(hg:guardC (env u) b0=some C){c a b:Operand}{x:Bool}(hc:(opd env c).core=.s (.bool true))(ha:(opd env a).core=.s (.bool x))
 (h0:C=true->(opd env c).ask) (h1:C=true->(opd env a).ask) (K:AOps P Y ops dr cf Q rest ⟨up env t (.opt C (.s (.bool x))),m,nx⟩ (tr++[([],[])])):
 AOps P Y ops dr cf Q (⟨some t,.pick c a b,ty,pos,after,some (j,b0)⟩::rest) ⟨env,m,nx⟩ tr:=by
 have he:=A1 (P:=P) (env:=env) (m:=m) (nx:=nx) (a:=a) (b:=b) hc;simp only[ha,D.bool?,Option.getD_some,if_true] at he;simp only[AOps,AOp];rw[hj];simp only[Option.bind_some];rw[hg,he.nc,he.ny,he.ok];exact⟨fun hc=>⟨by simp only[asks];exact h0 hc,fun _=>⟨h1 hc,rfl⟩,fun h=>by cases h⟩,K⟩
theorem YT{j:Nat}{b0 C:Bool}{u:Nat}(hj:(ops[j]?).bind (·.dst)=some u)(hg:guardC (env u) b0=some C){c a b:Operand}{y:Bool}(hc:(opd env c).core=.s (.bool false))(hb:(opd env b).core=.s (.bool y))
 (h0:C=true->(opd env c).ask) (h1:C=true->(opd env b).ask) (K:AOps P Y ops dr cf Q rest ⟨up env t (.opt C (.s (.bool y))),m,nx⟩ (tr++[([],[])])):
 AOps P Y ops dr cf Q (⟨some t,.pick c a b,ty,pos,after,some (j,b0)⟩::rest) ⟨env,m,nx⟩ tr:=by
 have he:=A1 (P:=P) (env:=env) (m:=m) (nx:=nx) (a:=a) (b:=b) hc;simp only[hb,D.bool?,Option.getD_some,Bool.false_eq_true,if_false] at he;simp only[AOps,AOp];rw[hj];simp only[Option.bind_some];rw[hg,he.nc,he.ny,he.ok];exact⟨fun hc=>⟨by simp only[asks];exact h0 hc,fun h=>oH,fun _=>⟨h1 hc,rfl⟩⟩,K⟩
variable{id:Nat}{st:St}
theorem Pw[eD Y]{i:Nat}{J:St->Prop}(hi:drawInfo ops=some cf)(h:AOps P Y ops true cf (gH J) ops.toList st []):AW P Y rf (.region i ops true) (blockQ id (seqQ J Q)) st:=DJ (rf:=rf) (id:=i) hi (AOps.mF h fun _ h=>h)
theorem aae{r:Option Row}{i:Nat}(h:m i=r):∀ j,up (fun _=>none) i r j=m j\/up (fun _=>none) i r j=none:=fun j=>by
 by_cases hj:j=i
 .subst hj;left;rw[up_same,h]
 .right;rw[up_ne _ _ hj]
theorem kU[eD Y]{i iF:Nat}{next:St->Prop}(hi:drawInfo ops=some cf)(h:AOps P Y ops true cf (gH next) ops.toList st []):AW P Y rf (.region i ops true) (oa iF id next Q) st:=DJ (rf:=rf) (id:=i) hi (AOps.mF h fun _ h=>h)
theorem eZ[eD Y]{i iF:Nat}{next:St->Prop}(h:AOps P Y ops false [] (gH next) ops.toList st []):AW P Y rf (.region i ops false) (oa iF id next Q) st:=tN (rf:=rf) (id:=i) (AOps.mF h fun _ h=>h)
def bm:List (Nat×Row)->Mem
 |[],_=>none
 |(i,r)::l,j=>if j=i then some r else bm l j
def DK:List (Nat×Row)->Mem->Prop
 |[],_=>True
 |(i,r)::l,m=>m i=some r/\DK l m
theorem Gg:∀ {l:List (Nat×Row)} {m:Mem},DK l m->∀ i,bm l i=m i\/bm l i=none
 |[],_,_,_=>.inr rfl
 |(k,r)::l,m,h,i=>by
  simp only[bm];by_cases hi:i=k
  .subst hi;rw[if_pos rfl];exact .inl h.1.symm
  .rw[if_neg hi];exact Gg h.2 i
theorem aP{l:List (Nat×D)}{ml:List (Nat×Row)}{m:Mem}{nx:Nat}(h:jk l env)(hm:DK ml m):Ghost P ⟨env,m,nx⟩ ⟨az l,bm ml,nx⟩:=(Ghost.forget env _ m nx (nX h)).trans (.drop _ _ _ _ (Gg hm))
end
section
variable{P:Program}
theorem OCall.adq{f:FuncId}{args es:List D}{n:Nat}{t:TypeId}(h:OCall P f args es n t)(U:∀ d∈es,d.scal=true)(ht:Tr (.sl (es.take (n*P.cellsOf t)) n)):PCall P f args (.sl (es.take (n*P.cellsOf t)) n):=by
 refine⟨h.1,h.2.1,fun F w vs hF hR=>(h.2.2 F w vs hF hR).mono ?_⟩;rintro e w' ⟨v,p,h1,h2,h3,h4,h5,C⟩;refine⟨v,h1,?_,C⟩
 have b0:∀ {i q},up noRows 0 (some p) i=some q->i=0/\q=p:=fun {i q} hi=>by
  by_cases e:i=0
  .subst e;rw[up_same] at hi;cases hi;exact⟨rfl,rfl⟩
  .rw[up_ne _ _ e] at hi;cases hi
 have hm:MSim P F (up (fun _=>none) 0 (some (.cells es t))) (up noRows 0 (some p)) w':=by
  refine⟨fun i r hi=>?_,fun i j q X b hq J _ _=>(b0 hq).1.trans (b0 J).1.symm,fun i q b hq e=>?_,fun i q b hq e=>?_,fun b hb=>Nat.lt_of_lt_of_le (hF b hb) C.1⟩
  .by_cases e:i=0
   .subst e;rw[up_same] at hi;cases hi;exact⟨p,up_same _ _ _,F1 ⟨es,t,rfl,U⟩ h4⟩
   .rw[up_ne _ _ e] at hi;cases hi
  .rw[(b0 hq).2] at e;exact(h3 b e).2
  .rw[(b0 hq).2] at e;intro hb;have:=hF b hb;have:=(h3 b e).1;omega
 have:=Pd hm (up_same _ _ _) rfl h5;have e:fz0 0 es (P.cellsOf t) (.rs 0 0 n)=.sl (es.take (n*P.cellsOf t)) n:=by simp[fz0]
 rw[e] at this;exact ht.Bk this
end
theorem ag{α:Type}{f:Nat->α}{k j:Nat}{v r:α}(h:j≠k)(hf:f j=r):up f k v j=r:=(up_ne f v h).trans hf
theorem alQ{β:Sort _}{M m:Mem}{i:Nat}{r:Option Row}(h:M=m)(x:β)(k:β->m i=r:=by intro x;repeat (first|exact x|exact rfl|exact up_same _ _ _|refine ag (by omega) ?_)):M i=r:=h ▸ k x
theorem alR{β:Sort _}{p:Prop}(x:β)(k:β->p:=by intro x;dsimp only;repeat (first|exact x|exact up_same _ _ _|refine ag (by omega) ?_)):p:=k x
theorem lP{i off sz:Nat}{cs:List D}:sub (fz0 i cs sz) (.rp i off)=.pt (cs.drop off):=by simp[sub,sub1,fz0]
theorem Bq{i off n sz:Nat}{cs:List D}:sub (fz0 i cs sz) (.rs i off n)=.sl ((cs.drop off).take (n*sz)) n:=by simp[sub,sub1,fz0]
theorem F5{i j off sz:Nat}{cs:List D}(h:j≠i):sub (fz0 i cs sz) (.rp j off)=.rp j off:=by simp[sub,sub1,fz0,h]
theorem AX{i j off n sz:Nat}{cs:List D}(h:j≠i):sub (fz0 i cs sz) (.rs j off n)=.rs j off n:=by simp[sub,sub1,fz0,h]
theorem OV{α:Type}{f:α->List D}{sz:Nat}(C:∀ x,(f x).length=sz):∀ (l:List α) (k:Nat),(l.flatMap f).take (k*sz)=(l.take k).flatMap f
 |[],k=>by simp
 |x::l,0=>by simp
 |x::l,k+1=>by
  rw[List.flatMap_cons,List.take_succ_cons,List.flatMap_cons, <- OV C l k,show(k+1)*sz=(f x).length+k*sz by rw[C x,Nat.add_mul];omega,List.take_length_add_append]
theorem QC{α:Type}{f:α->List D}{sz k:Nat}{l:List α}(C:∀ x,(f x).length=sz)(hk:k<=l.length):
 D.sl (((l.flatMap f).drop ((0:Int).toNat*sz)).take (((k:Int) - 0).toNat*sz)) ((k:Int) - 0).toNat=D.sl ((l.take k).flatMap f) (l.take k).length:=by
 have h1:((k:Int) - 0).toNat=k:=by omega
 have h2:(0:Int).toNat*sz=0:=by simp
 rw[h1,h2,List.drop_zero,OV C,List.length_take,Nat.min_eq_left hk]
section
variable{P:Program}{env:Env}{m:Mem}{nx:Nat}{x y z:Operand}{t:TypeId}{v:D}
theorem aaj{i:Nat}{es:List (Value×D)}{key:Value}{kt:TypeId}(hx:(opd env x).core=.mp i)(hm:m i=some (.map es))(hk:keyV (opd env y).core=some key)(C:(opd env z).core=v)(ht:mkeyP P t=kt):
 Ef P (.insert t x y z) env m nx ⟨mapT P t=true/\keyP P kt key=true/\es.all (fun e=>keyP P kt e.1)=true,.tup [],[(i,some (.map (putD key v es)))],[i],0⟩:=by
 refine⟨?_,rfl,rfl⟩;show mapPutD P m t (opd env x).core (opd env y).core (opd env z).core=_;simp only[mapPutD,hk,hx,hm,ht,C]
variable{n n':Int}{k:IntKind}{c:Bool}{p:TypeId}{n0:Nat}
theorem RV(hx:(opd env x).core=.s (.int k n))(hy:(opd env y).core=.s (.int k n'))(hd:decide (n'<n)=c):Ef P (.binOp .gtr t x y p) env m nx ⟨k=k,.s (.bool c),[],[],0⟩:=by subst hd;exact KB hx hy
theorem RU(hx:(opd env x).core=.s (.int k n))(hy:(opd env y).core=.s (.int k n'))(hd:decide (n<n')=c):Ef P (.binOp .lss t x y p) env m nx ⟨k=k,.s (.bool c),[],[],0⟩:=by subst hd;exact Kz hx hy
theorem acA(hx:(opd env x).core=.s (.int k n))(hy:(opd env y).core=.s (.int k n'))(hd:decide (n<=n')=c):Ef P (.binOp .leq t x y p) env m nx ⟨k=k,.s (.bool c),[],[],0⟩:=by subst hd;exact KA hx hy
theorem Ki(hx:(opd env x).core=.s (.int k n))(hy:(opd env y).core=.s (.int k n'))(hd:(n==n')=c):Ef P (.binOp .eql t x y p) env m nx ⟨k=k,.s (.bool c),[],[],0⟩:=by subst hd;exact KD hx hy
theorem RW(hx:(opd env x).core=.s (.int k n))(hy:(opd env y).core=.s (.int k n'))(hd:(n !=n')=c):Ef P (.binOp .neq t x y p) env m nx ⟨k=k,.s (.bool c),[],[],0⟩:=by subst hd;exact KE hx hy
theorem acB(hx:(opd env x).core=.s (.int k n))(hy:(opd env y).core=.s (.int k n')){r:Int}(hd:k.wrap (n.tdiv n')=r):Ef P (.binOp .quo t x y p) env m nx ⟨k=k/\n'≠0,.s (.int k r),[],[],0⟩:=by subst hd;exact acn hx hy
theorem acC(hx:(opd env x).core=.s (.int k n))(hy:(opd env y).core=.s (.int k n')){r:Int}(hd:n.tmod n'=r):Ef P (.binOp .rem t x y p) env m nx ⟨k=k/\n'≠0,.s (.int k r),[],[],0⟩:=by subst hd;exact ade hx hy
theorem RY(hx:(opd env x).core=.s (.int k n))(hy:(opd env y).core=.s (.int k n'))(hd:decide (n'<=n)=c):Ef P (.binOp .geq t x y p) env m nx ⟨k=k,.s (.bool c),[],[],0⟩:=by subst hd;exact KC hx hy
theorem aby{j i l:Nat}{e:TypeId}{r:Row}(hx:(opd env x).core=.rp j 0)(hy:(opd env y).core=.s (.int k (i:Int)))(hm:m j=some r)(he:elemP P t=e)(C:P.cellsOf e=1)(hl:lenP P t=l):
 Ef P (.indexAddr t x y) env m nx ⟨arT P t=true/\i<l,.rp j i,[],[j],0⟩:=by
 have h:=aco (P:=P) (env:=env) (m:=m) (nx:=nx) (t:=t) hx hy hm he C hl;have h1:0+((i:Int)).toNat*1=i:=by simp
 have h2:(arT P t=true/\(0:Int)<=(i:Int)/\(i:Int)<l)=(arT P t=true/\i<l):=by
  apply propext;constructor
  .rintro⟨a,_,b⟩;exact⟨a,oG⟩
  .rintro⟨a,b⟩;exact⟨a,oG,oG⟩
 rw[h1,h2] at h;exact h
theorem iI{l:List D}{n:Nat}(h:l.length=n):(l.drop 0).take n=l:=by rw[List.drop_zero,dn oG]
theorem R5{l:List D}{n:Nat}(h:l.length=n):l.take n=l:=dn oG
theorem JR{z l:List D}(C:z.length=20)(hl:l.length=20):splice z 0 l=l:=by
 unfold splice;split
 .simp at hl
 .rw[List.take_zero,List.nil_append,List.drop_eq_nil_of_le oG,List.append_nil]
theorem acY{es:List D}(hx:(opd env x).core=.sl es 0):Ef P (.binOp .eql t x (.const (.slice none 0 0)) p) env m nx ⟨slT P t=true,.ub,[],[],0⟩:=⟨by simp only[aop,rho,hx,nilD,if_true],rfl,rfl⟩
theorem acZ{es:List D}{l:Nat}(hx:(opd env x).core=.sl es l)(hl:l≠0):Ef P (.binOp .eql t x (.const (.slice none 0 0)) p) env m nx ⟨slT P t=true,.s (.bool false),[],[],0⟩:=⟨by simp only[aop,rho,hx,nilD,if_neg hl],rfl,rfl⟩
theorem lb{i off n sz:Nat}{cs es:List D}{e:TypeId}(C:P.cellsOf e=sz)(h:(cs.drop off).take (n*sz)=es):tf P [(i,cs,e)] (.rs i off n)=.sl es n:=by subst C h;exact Bq
theorem yZ(h:env n0=.z):Ghost P ⟨env,m,nx⟩ ⟨az [(n0,.sl [] 0)],fun _=>none,nx+1⟩:=by
 have h1:=Ghost.nilrow (P:=P) env m nx n0 0 h;have h2:=bw (P:=P) (env:=up env n0 (.rs nx 0 0)) (m:=up m nx (some (.cells [] 0))) (nx:=nx+1) [(nx,[],0)] ⟨up_same _ _ _,trivial⟩ (l:=[(n0,.sl [] 0)]) ⟨(congrArg _ (up_same _ _ _)).trans (lb (sz:=P.cellsOf 0) rfl oS),trivial⟩;exact h1.trans h2
theorem nG{rds:List Nat}:Sn P rds m .z (.sl [] 0):=fun F β w v _ hv=>by
 obtain⟨x,rfl⟩:=hv.z_inv;exact .sln x 0
theorem acW{rds:List Nat}{aS bs:List D}(h:Sns P rds m aS bs):Sn P rds m (.agg aS) (.agg bs):=fun F β w v hl hv=>by
 obtain⟨vs,rfl,hn,C⟩:=hv.agg_inv;obtain⟨h1,h2⟩:=sns_R hl h;refine .agg _ vs oG fun k d u hd J=>?_;have hk:k<aS.length:=by rw[h1];exact(bL.1 hd).1
 exact h2 k aS[k] d (by simp[hk]) hd u (C k aS[k] u (by simp[hk]) J)
theorem PB{l:List (Nat×D)}{m':Mem}(h:jk l env)(hm:∀ i,m' i=m i\/m' i=none):Ghost P ⟨env,m,nx⟩ ⟨az l,m',nx⟩:=(Ghost.forget env _ m nx (nX h)).trans (.drop _ _ _ _ hm)
def L9:List (Nat×List (Value×D))->Mem->Prop
 |[],_=>True
 |(i,es)::fs,m=>m i=some (.map es)/\L9 fs (fun j=>if j=i then none else(m j).map (Row.sub (fm0 i es)))
def Nw:List (Nat×List (Value×D))->D->D
 |[],d=>d
 |(i,es)::fs,d=>Nw fs (sub (fm0 i es) d)
theorem OW:∀ {fs:List (Nat×List (Value×D))} {env:Env} {m:Mem} {nx:Nat},L9 fs m->∃ m',Ghost P ⟨env,m,nx⟩ ⟨fun t=>Nw fs (env t),m',nx⟩
 |[],env,m,nx,_=>⟨m,.refl _⟩
 |(i,es)::fs,env,m,nx,⟨h1,h2⟩=>by
  obtain⟨m',h⟩:=OW (env:=fun t=>sub (fm0 i es) (env t)) (nx:=nx) h2;exact⟨m',(Ghost.freezeM env m nx i es h1).trans h⟩
theorem aaF(fs:List (Nat×List (Value×D)))(hf:L9 fs m){l:List (Nat×D)}(hl:jk l fun t=>Nw fs (env t)):Ghost P ⟨env,m,nx⟩ ⟨az l,fun _=>none,nx⟩:=by
 obtain⟨m',h⟩:=OW (P:=P) (env:=env) (nx:=nx) hf;exact h.trans ((Ghost.forget _ _ _ _ (nX hl)).trans (Ghost.drop _ _ _ _ fun _=>.inr rfl))
end
end Go.Abs
namespace Go.Proofs.Tryz.K
open Go.Abs
theorem c1:prog.cellsOf 1=1:=kr
theorem a1:aggP prog 1=false:=kr
theorem b1:prog.bytesOf 1=8:=kr
theorem c2:prog.cellsOf 2=1:=kr
theorem b2:prog.bytesOf 2=8:=kr
theorem a2:aggP prog 2=false:=kr
theorem c3:prog.cellsOf 3=1:=kr
theorem b3:prog.bytesOf 3=8:=kr
theorem a3:aggP prog 3=false:=kr
theorem c4:prog.cellsOf 4=1:=kr
theorem b4:prog.bytesOf 4=1:=kr
theorem a4:aggP prog 4=false:=kr
theorem c5:prog.cellsOf 5=1:=kr
theorem b5:prog.bytesOf 5=1:=kr
theorem a5:aggP prog 5=false:=kr
theorem b6:prog.bytesOf 6=1:=kr
theorem a6:aggP prog 6=false:=kr
theorem Fq:elemP prog 15=275:=kr
theorem Fs:elemP prog 16=278:=kr
theorem Fp:elemP prog 17=287:=kr
theorem Wv:elemP prog 22=5:=kr
theorem U7:slT prog 22=true:=kr
theorem Ch:prog.cellsOf 27=1:=kr
theorem MH:prog.bytesOf 27=24:=kr
theorem Fo:elemP prog 27=3:=kr
theorem Ez:slT prog 27=true:=kr
theorem Xj:prog.cellsOf 52=1:=kr
theorem Fw:prog.bytesOf 52=24:=kr
theorem xV:prog.cellsOf 100=19:=kr
theorem LN:prog.bytesOf 100=152:=kr
theorem Eu:aggP prog 100=true:=kr
theorem t100:tyOk prog 100=true:=kr
theorem VW:prog.cellsOf 104=2:=kr
theorem VV:aggP prog 104=true:=kr
theorem t104:tyOk prog 104=true:=kr
theorem VJ:prog.cellsOf 133=10:=kr
theorem VH:aggP prog 133=true:=kr
theorem t133:tyOk prog 133=true:=kr
theorem mI:prog.cellsOf 158=2:=kr
theorem VK:prog.bytesOf 158=32:=kr
theorem ta:aggP prog 158=true:=kr
theorem t158:tyOk prog 158=true:=kr
theorem L4:aggP prog 205=true:=kr
theorem L5:zeroP prog 205=[.s (.int .i64 0),.s (.int .i64 0),.s (.int .i64 0),.s (.int .i64 0),.s (.int .i64 0),.s (.int .i64 0)]:=kr
theorem s3:prog.cellsOf 231=20:=kr
theorem U0:prog.bytesOf 231=160:=kr
theorem vY:aggP prog 231=true:=kr
theorem t231:tyOk prog 231=true:=kr
theorem UZ:zeroP prog 231=[.s (.int .u64 0),.s (.int .u64 0),.s (.int .u64 0),.s (.int .u64 0),.s (.int .u64 0),.s (.int .u64 0),.s (.int .u64 0),.s (.int .u64 0),.s (.int .u64 0),.s (.int .u64 0),.s (.int .u64 0),.s (.int .u64 0),.s (.int .u64 0),.s (.int .u64 0),.s (.int .u64 0),.s (.int .u64 0),.s (.int .u64 0),.s (.int .u64 0),.s (.int .u64 0),.s (.int .u64 0)]:=kr
theorem mixed:prog.follows .mixedOrders=true:=kr
noncomputable def bo(f:Func):Code:=(f.body).getD .skip
abbrev FO(n:FuncId)(f:Func)(c:Code):=mE prog n f c
theorem fo{n:FuncId}{f:Func}{c:Code}(h1:prog.funcs[n]? =some f:=by kernel_rfl)(h2:f.body=some c:=by kernel_rfl)(h3:kY f.ntmps c=true:=by kernel_rfl)(h4:enterOk prog n=true:=by kernel_rfl):FO n f c:=⟨h1,h2,h3,h4⟩
noncomputable def od:=bo Tryz.f5
theorem ok5:FO 5 Tryz.f5 od:=fo
noncomputable def jq:=bo Tryz.f15
theorem aio:FO 15 Tryz.f15 jq:=fo
noncomputable def Se:=bo Tryz.f17
theorem ai1:FO 17 Tryz.f17 Se:=fo
noncomputable def Sf:=bo Tryz.f18
theorem ai2:FO 18 Tryz.f18 Sf:=fo
noncomputable def Sg:=bo Tryz.f20
theorem ai3:FO 20 Tryz.f20 Sg:=fo
noncomputable def Si:=bo Tryz.f22
theorem ai4:FO 22 Tryz.f22 Si:=fo
noncomputable def Sj:=bo Tryz.f23
theorem ai5:FO 23 Tryz.f23 Sj:=fo
noncomputable def ej:=bo Tryz.f26
theorem Hr:FO 26 Tryz.f26 ej:=fo
noncomputable def fZ:=bo Tryz.f27
theorem UO:FO 27 Tryz.f27 fZ:=fo
noncomputable def eU:=bo Tryz.f28
theorem LU:FO 28 Tryz.f28 eU:=fo
noncomputable def xr:=bo Tryz.f29
theorem ahx:FO 29 Tryz.f29 xr:=fo
noncomputable def Sk:=bo Tryz.f33
theorem ai6:FO 33 Tryz.f33 Sk:=fo
noncomputable def Sl:=bo Tryz.f36
theorem ai7:FO 36 Tryz.f36 Sl:=fo
noncomputable def dC:=bo Tryz.f39
theorem VG:FO 39 Tryz.f39 dC:=fo
theorem air: Tryz.f39.results.toList=[.tmp 2,.tmp 3]:=kr
noncomputable def Sm:=bo Tryz.f41
theorem ai8:FO 41 Tryz.f41 Sm:=fo
noncomputable def So:=bo Tryz.f50
theorem ai9:FO 50 Tryz.f50 So:=fo
noncomputable def hD:=bo Tryz.f51
theorem LM:FO 51 Tryz.f51 hD:=fo
noncomputable def Sp:=bo Tryz.f52
theorem ai':FO 52 Tryz.f52 Sp:=fo
noncomputable def Sq:=bo Tryz.f53
theorem aja:FO 53 Tryz.f53 Sq:=fo
noncomputable def DU:=bo Tryz.f54
theorem Vb:FO 54 Tryz.f54 DU:=fo
noncomputable def eC:=bo Tryz.f55
theorem aiE:FO 55 Tryz.f55 eC:=fo
noncomputable def o9:=bo Tryz.f56
theorem aiz:FO 56 Tryz.f56 o9:=fo
noncomputable def vG:=bo Tryz.f59
theorem VR:FO 59 Tryz.f59 vG:=fo
noncomputable def Sr:=bo Tryz.f60
theorem ajb:FO 60 Tryz.f60 Sr:=fo
noncomputable def xu:=bo Tryz.f61
theorem VB:FO 61 Tryz.f61 xu:=fo
noncomputable def Ss:=bo Tryz.f62
theorem ajc:FO 62 Tryz.f62 Ss:=fo
noncomputable def Su:=bo Tryz.f64
theorem ajd:FO 64 Tryz.f64 Su:=fo
noncomputable def dh:=bo Tryz.f65
theorem Vn:FO 65 Tryz.f65 dh:=fo
noncomputable def Sv:=bo Tryz.f66
theorem aje:FO 66 Tryz.f66 Sv:=fo
noncomputable def dU:=bo Tryz.f67
theorem aiU:FO 67 Tryz.f67 dU:=fo
noncomputable def DV:=bo Tryz.f69
theorem Vc:FO 69 Tryz.f69 DV:=fo
noncomputable def pY:=bo Tryz.f70
theorem Vg:FO 70 Tryz.f70 pY:=fo
noncomputable def DW:=bo Tryz.f71
theorem Vd:FO 71 Tryz.f71 DW:=fo
noncomputable def nr:=bo Tryz.f72
theorem Vf:FO 72 Tryz.f72 nr:=fo
noncomputable def DX:=bo Tryz.f73
theorem Ve:FO 73 Tryz.f73 DX:=fo
noncomputable def zp:=bo Tryz.f74
theorem ahp:FO 74 Tryz.f74 zp:=fo
noncomputable def jr:=bo Tryz.f75
theorem aiK:FO 75 Tryz.f75 jr:=fo
noncomputable def uj:=bo Tryz.f76
theorem aix:FO 76 Tryz.f76 uj:=fo
noncomputable def DY:=bo Tryz.f77
theorem aiQ:FO 77 Tryz.f77 DY:=fo
noncomputable def vH:=bo Tryz.f78
theorem ahr:FO 78 Tryz.f78 vH:=fo
noncomputable def vI:=bo Tryz.f79
theorem aht:FO 79 Tryz.f79 vI:=fo
noncomputable def rv:=bo Tryz.f80
theorem ahv:FO 80 Tryz.f80 rv:=fo
noncomputable def rA:=bo Tryz.f81
theorem aiS:FO 81 Tryz.f81 rA:=fo
noncomputable def DZ:=bo Tryz.f82
theorem Va:FO 82 Tryz.f82 DZ:=fo
noncomputable def uk:=bo Tryz.f83
theorem Vr:FO 83 Tryz.f83 uk:=fo
noncomputable def xv:=bo Tryz.f84
theorem Vj:FO 84 Tryz.f84 xv:=fo
noncomputable def sM:=bo Tryz.f85
theorem Vl:FO 85 Tryz.f85 sM:=fo
noncomputable def Sw:=bo Tryz.f87
theorem ajf:FO 87 Tryz.f87 Sw:=fo
noncomputable def pZ:=bo Tryz.f88
theorem aiN:FO 88 Tryz.f88 pZ:=fo
noncomputable def D0:=bo Tryz.f89
theorem UY:FO 89 Tryz.f89 D0:=fo
noncomputable def js:=bo Tryz.f90
theorem BE:FO 90 Tryz.f90 js:=fo
noncomputable def um:=bo Tryz.f92
theorem aiv:FO 92 Tryz.f92 um:=fo
noncomputable def Sx:=bo Tryz.f93
theorem ajg:FO 93 Tryz.f93 Sx:=fo
noncomputable def Sy:=bo Tryz.f94
theorem ajh:FO 94 Tryz.f94 Sy:=fo
noncomputable def vJ:=bo Tryz.f95
theorem U9:FO 95 Tryz.f95 vJ:=fo
noncomputable def D1:=bo Tryz.f96
theorem U2:FO 96 Tryz.f96 D1:=fo
noncomputable def n8:=bo Tryz.f97
theorem U1:FO 97 Tryz.f97 n8:=fo
noncomputable def C':=bo Tryz.f100
theorem S7:FO 100 Tryz.f100 C':=fo
noncomputable def w8:=bo Tryz.f105
theorem Ur:FO 105 Tryz.f105 w8:=fo
noncomputable def sv:=bo Tryz.f110
theorem KY:FO 110 Tryz.f110 sv:=fo
noncomputable def mh:=bo Tryz.f115
theorem TI:FO 115 Tryz.f115 mh:=fo
noncomputable def sw:=bo Tryz.f116
theorem TW:FO 116 Tryz.f116 sw:=fo
noncomputable def QQ:=bo Tryz.f117
theorem af0:FO 117 Tryz.f117 QQ:=fo
noncomputable def QR:=bo Tryz.f118
theorem af1:FO 118 Tryz.f118 QR:=fo
noncomputable def Da:=bo Tryz.f119
theorem S9:FO 119 Tryz.f119 Da:=fo
noncomputable def eh:=bo Tryz.f120
theorem afz:FO 120 Tryz.f120 eh:=fo
noncomputable def ei:=bo Tryz.f121
theorem afK:FO 121 Tryz.f121 ei:=fo
noncomputable def tX:=bo Tryz.f122
theorem Uh:FO 122 Tryz.f122 tX:=fo
noncomputable def fw:=bo Tryz.f123
theorem afi:FO 123 Tryz.f123 fw:=fo
noncomputable def vw:=bo Tryz.f124
theorem afc:FO 124 Tryz.f124 vw:=fo
noncomputable def gD:=bo Tryz.f125
theorem afe:FO 125 Tryz.f125 gD:=fo
noncomputable def o4:=bo Tryz.f126
theorem afI:FO 126 Tryz.f126 o4:=fo
noncomputable def pT:=bo Tryz.f127
theorem afG:FO 127 Tryz.f127 pT:=fo
noncomputable def lH:=bo Tryz.f128
theorem afk:FO 128 Tryz.f128 lH:=fo
noncomputable def QS:=bo Tryz.f129
theorem af2:FO 129 Tryz.f129 QS:=fo
noncomputable def sx:=bo Tryz.f130
theorem KR:FO 130 Tryz.f130 sx:=fo
noncomputable def QT:=bo Tryz.f131
theorem af3:FO 131 Tryz.f131 QT:=fo
noncomputable def ra:=bo Tryz.f132
theorem TQ:FO 132 Tryz.f132 ra:=fo
noncomputable def zc:=bo Tryz.f133
theorem TF:FO 133 Tryz.f133 zc:=fo
noncomputable def sy:=bo Tryz.f134
theorem TH:FO 134 Tryz.f134 sy:=fo
noncomputable def w9:=bo Tryz.f135
theorem TG:FO 135 Tryz.f135 w9:=fo
noncomputable def zd:=bo Tryz.f136
theorem TM:FO 136 Tryz.f136 zd:=fo
noncomputable def lI:=bo Tryz.f137
theorem Ut:FO 137 Tryz.f137 lI:=fo
noncomputable def Db:=bo Tryz.f138
theorem TR:FO 138 Tryz.f138 Db:=fo
noncomputable def fX:=bo Tryz.f139
theorem Up:FO 139 Tryz.f139 fX:=fo
noncomputable def ff:=bo Tryz.f140
theorem Us:FO 140 Tryz.f140 ff:=fo
noncomputable def tW:=bo Tryz.f141
theorem TK:FO 141 Tryz.f141 tW:=fo
noncomputable def Dc:=bo Tryz.f142
theorem TN:FO 142 Tryz.f142 Dc:=fo
noncomputable def Dd:=bo Tryz.f143
theorem TO:FO 143 Tryz.f143 Dd:=fo
noncomputable def A4:=bo Tryz.f144
theorem TP:FO 144 Tryz.f144 A4:=fo
noncomputable def n5:=bo Tryz.f145
theorem ae':FO 145 Tryz.f145 n5:=fo
noncomputable def rh:=bo Tryz.f146
theorem afg:FO 146 Tryz.f146 rh:=fo
noncomputable def sA:=bo Tryz.f147
theorem afV:FO 147 Tryz.f147 sA:=fo
noncomputable def ze:=bo Tryz.f148
theorem afT:FO 148 Tryz.f148 ze:=fo
noncomputable def sB:=bo Tryz.f149
theorem TX:FO 149 Tryz.f149 sB:=fo
noncomputable def fh:=bo Tryz.f151
theorem Tl:FO 151 Tryz.f151 fh:=fo
noncomputable def QU:=bo Tryz.f152
theorem af4:FO 152 Tryz.f152 QU:=fo
noncomputable def dR:=bo Tryz.f153
theorem TE:FO 153 Tryz.f153 dR:=fo
noncomputable def fY:=bo Tryz.f154
theorem TD:FO 154 Tryz.f154 fY:=fo
noncomputable def De:=bo Tryz.f155
theorem Tn:FO 155 Tryz.f155 De:=fo
noncomputable def Df:=bo Tryz.f156
theorem Td:FO 156 Tryz.f156 Df:=fo
noncomputable def sC:=bo Tryz.f158
theorem KP:FO 158 Tryz.f158 sC:=fo
noncomputable def zg:=bo Tryz.f166
theorem T':FO 166 Tryz.f166 zg:=fo
noncomputable def tY:=bo Tryz.f168
theorem TT:FO 168 Tryz.f168 tY:=fo
noncomputable def jh:=bo Tryz.f169
theorem afm:FO 169 Tryz.f169 jh:=fo
noncomputable def Gq:=bo Tryz.f170
theorem aeV:FO 170 Tryz.f170 Gq:=fo
noncomputable def dq:=bo Tryz.f171
theorem Uk:FO 171 Tryz.f171 dq:=fo
noncomputable def gE:=bo Tryz.f172
theorem afx:FO 172 Tryz.f172 gE:=fo
noncomputable def o5:=bo Tryz.f173
theorem afE:FO 173 Tryz.f173 o5:=fo
noncomputable def rj:=bo Tryz.f174
theorem TL:FO 174 Tryz.f174 rj:=fo
noncomputable def pU:=bo Tryz.f175
theorem Uq:FO 175 Tryz.f175 pU:=fo
noncomputable def zh:=bo Tryz.f176
theorem TS:FO 176 Tryz.f176 zh:=fo
noncomputable def Dg:=bo Tryz.f177
theorem TJ:FO 177 Tryz.f177 Dg:=fo
noncomputable def rk:=bo Tryz.f178
theorem Tk:FO 178 Tryz.f178 rk:=fo
noncomputable def QV:=bo Tryz.f179
theorem af5:FO 179 Tryz.f179 QV:=fo
noncomputable def QW:=bo Tryz.f180
theorem af6:FO 180 Tryz.f180 QW:=fo
noncomputable def QY:=bo Tryz.f181
theorem af7:FO 181 Tryz.f181 QY:=fo
noncomputable def QZ:=bo Tryz.f182
theorem af8:FO 182 Tryz.f182 QZ:=fo
noncomputable def Q1:=bo Tryz.f183
theorem af9:FO 183 Tryz.f183 Q1:=fo
noncomputable def Dh:=bo Tryz.f184
theorem Tj:FO 184 Tryz.f184 Dh:=fo
noncomputable def Q2:=bo Tryz.f185
theorem af':FO 185 Tryz.f185 Q2:=fo
noncomputable def Q3:=bo Tryz.f186
theorem aga:FO 186 Tryz.f186 Q3:=fo
noncomputable def Q4:=bo Tryz.f187
theorem agb:FO 187 Tryz.f187 Q4:=fo
noncomputable def Q5:=bo Tryz.f188
theorem agc:FO 188 Tryz.f188 Q5:=fo
noncomputable def A5:=bo Tryz.f189
theorem Ua:FO 189 Tryz.f189 A5:=fo
noncomputable def Di:=bo Tryz.f190
theorem Ty:FO 190 Tryz.f190 Di:=fo
noncomputable def Dj:=bo Tryz.f191
theorem TC:FO 191 Tryz.f191 Dj:=fo
noncomputable def Dk:=bo Tryz.f192
theorem S6:FO 192 Tryz.f192 Dk:=fo
noncomputable def Dl:=bo Tryz.f193
theorem TA:FO 193 Tryz.f193 Dl:=fo
noncomputable def Dm:=bo Tryz.f194
theorem Tz:FO 194 Tryz.f194 Dm:=fo
noncomputable def eS:=bo Tryz.f195
theorem Un:FO 195 Tryz.f195 eS:=fo
noncomputable def mj:=bo Tryz.f196
theorem Ud:FO 196 Tryz.f196 mj:=fo
noncomputable def eL:=bo Tryz.f197
theorem Tu:FO 197 Tryz.f197 eL:=fo
noncomputable def iW:=bo Tryz.f198
theorem Tp:FO 198 Tryz.f198 iW:=fo
noncomputable def xc:=bo Tryz.f199
theorem To:FO 199 Tryz.f199 xc:=fo
noncomputable def Dn:=bo Tryz.f200
theorem S':FO 200 Tryz.f200 Dn:=fo
noncomputable def zi:=bo Tryz.f201
theorem Tm:FO 201 Tryz.f201 zi:=fo
noncomputable def rm:=bo Tryz.f202
theorem Te:FO 202 Tryz.f202 rm:=fo
noncomputable def vy:=bo Tryz.f211
theorem aeR:FO 211 Tryz.f211 vy:=fo
noncomputable def Gr:=bo Tryz.f212
theorem aeP:FO 212 Tryz.f212 Gr:=fo
noncomputable def vz:=bo Tryz.f213
theorem aeT:FO 213 Tryz.f213 vz:=fo
noncomputable def lJ:=bo Tryz.f214
theorem ae6:FO 214 Tryz.f214 lJ:=fo
noncomputable def o6:=bo Tryz.f215
theorem aeX:FO 215 Tryz.f215 o6:=fo
noncomputable def Dp:=bo Tryz.f216
theorem aeZ:FO 216 Tryz.f216 Dp:=fo
noncomputable def sD:=bo Tryz.f217
theorem Ub:FO 217 Tryz.f217 sD:=fo
noncomputable def Dq:=bo Tryz.f218
theorem ae2:FO 218 Tryz.f218 Dq:=fo
noncomputable def gT:=bo Tryz.f219
theorem ae8:FO 219 Tryz.f219 gT:=fo
noncomputable def kX:=bo Tryz.f220
theorem afq:FO 220 Tryz.f220 kX:=fo
noncomputable def lK:=bo Tryz.f221
theorem afu:FO 221 Tryz.f221 lK:=fo
noncomputable def Q6:=bo Tryz.f222
theorem agd:FO 222 Tryz.f222 Q6:=fo
noncomputable def Q7:=bo Tryz.f223
theorem age:FO 223 Tryz.f223 Q7:=fo
noncomputable def Q8:=bo Tryz.f224
theorem agf:FO 224 Tryz.f224 Q8:=fo
noncomputable def Q9:=bo Tryz.f225
theorem agh:FO 225 Tryz.f225 Q9:=fo
noncomputable def Ra:=bo Tryz.f226
theorem agi:FO 226 Tryz.f226 Ra:=fo
noncomputable def Dr:=bo Tryz.f227
theorem Ti:FO 227 Tryz.f227 Dr:=fo
noncomputable def Ds:=bo Tryz.f228
theorem S5:FO 228 Tryz.f228 Ds:=fo
noncomputable def Dt:=bo Tryz.f229
theorem Tw:FO 229 Tryz.f229 Dt:=fo
noncomputable def Du:=bo Tryz.f230
theorem TB:FO 230 Tryz.f230 Du:=fo
noncomputable def sE:=bo Tryz.f231
theorem KO:FO 231 Tryz.f231 sE:=fo
noncomputable def Dv:=bo Tryz.f232
theorem Tx:FO 232 Tryz.f232 Dv:=fo
noncomputable def Dw:=bo Tryz.f233
theorem KZ:FO 233 Tryz.f233 Dw:=fo
noncomputable def zj:=bo Tryz.f234
theorem K0:FO 234 Tryz.f234 zj:=fo
noncomputable def o7:=bo Tryz.f235
theorem T0:FO 235 Tryz.f235 o7:=fo
noncomputable def sF:=bo Tryz.f236
theorem K4:FO 236 Tryz.f236 sF:=fo
noncomputable def Dx:=bo Tryz.f237
theorem TV:FO 237 Tryz.f237 Dx:=fo
noncomputable def Dy:=bo Tryz.f238
theorem T8:FO 238 Tryz.f238 Dy:=fo
noncomputable def A6:=bo Tryz.f239
theorem K2:FO 239 Tryz.f239 A6:=fo
noncomputable def A7:=bo Tryz.f240
theorem Uc:FO 240 Tryz.f240 A7:=fo
noncomputable def Rc:=bo Tryz.f241
theorem agj:FO 241 Tryz.f241 Rc:=fo
noncomputable def xd:=bo Tryz.f242
theorem Ta:FO 242 Tryz.f242 xd:=fo
noncomputable def sG:=bo Tryz.f243
theorem Tb:FO 243 Tryz.f243 sG:=fo
noncomputable def Dz:=bo Tryz.f244
theorem Uo:FO 244 Tryz.f244 Dz:=fo
noncomputable def vA:=bo Tryz.f245
theorem Tc:FO 245 Tryz.f245 vA:=fo
noncomputable def tZ:=bo Tryz.f246
theorem Tf:FO 246 Tryz.f246 tZ:=fo
noncomputable def DA:=bo Tryz.f247
theorem Th:FO 247 Tryz.f247 DA:=fo
noncomputable def Re:=bo Tryz.f251
theorem agk:FO 251 Tryz.f251 Re:=fo
noncomputable def sH:=bo Tryz.f252
theorem KN:FO 252 Tryz.f252 sH:=fo
noncomputable def n6:=bo Tryz.f253
theorem TZ:FO 253 Tryz.f253 n6:=fo
noncomputable def DB:=bo Tryz.f254
theorem S8:FO 254 Tryz.f254 DB:=fo
noncomputable def DC:=bo Tryz.f255
theorem T9:FO 255 Tryz.f255 DC:=fo
noncomputable def DD:=bo Tryz.f256
theorem TU:FO 256 Tryz.f256 DD:=fo
noncomputable def DE:=bo Tryz.f257
theorem T7:FO 257 Tryz.f257 DE:=fo
noncomputable def xf:=bo Tryz.f258
theorem Tg:FO 258 Tryz.f258 xf:=fo
noncomputable def sI:=bo Tryz.f260
theorem KQ:FO 260 Tryz.f260 sI:=fo
theorem bc{f:FuncId}{fn:Func}{c:Code}(hf:mE Tryz.prog f fn c){args:List D}(ht:∀ a∈args,Tr a){r:D}(hr:Tr r)(h:AW Tryz.prog noY true c (retQ Tryz.prog fn.results.toList fun d _=>d=r) ⟨envOf args,fun _=>none,0⟩)(hn:Nat.ble args.length fn.ntmps=true:=by kernel_rfl):PCall Tryz.prog f args r:=Z4 mixed hf hn ht hr h
theorem Af{f:FuncId}{fn:Func}{c:Code}(hf:mE Tryz.prog f fn c){args:List D}(ht:∀ a∈args,Tr a){es:List D}(C:∀ a∈es,Tr a){k:Nat}{t:TypeId}(h:AW Tryz.prog noY true c (retQ Tryz.prog fn.results.toList fun d st=>∃ i,d=.rs i 0 k∧st.mem i=some (.cells es t)) ⟨envOf args,fun _=>none,0⟩)(hn:Nat.ble args.length fn.ntmps=true:=by kernel_rfl):OCall Tryz.prog f args es k t:=Pp mixed hf hn ht C h
theorem yx{f:FuncId}{fn:Func}{c:Code}(hf:mE Tryz.prog f fn c){args:List D}{m:Mem}{nx:Nat}{de:D->Mem->Nat->Prop}(h:AW Tryz.prog noY true c (retQ Tryz.prog fn.results.toList fun d st=>de d st.mem st.nx) ⟨envOf args,m,nx⟩)(hn:Nat.ble args.length fn.ntmps=true:=by kernel_rfl):ACalls Tryz.prog f args m nx de:=Po mixed hf hn h
def ke(P:Program)(t:TypeId):Array Field:=match P.underlying t with|some (.struct fs)=>fs|_=> #[]
theorem u8:prog.underlying 8=some (.struct (ke prog 8)):=kr
theorem GY:mkeyP prog 120=3:=kr
theorem GZ:mapT prog 120=true:=kr
theorem KU:mkeyP prog 127=3:=kr
theorem KV:mapT prog 127=true:=kr
theorem K6:melP prog 131=205:=kr
theorem u2:prog.underlying 2=some (.int .i64):=kr
theorem u5:prog.underlying 5=some (.int .u8):=kr
end Go.Proofs.Tryz.K
namespace Go.Argus
open Go.Abs
abbrev I(n:Int):D:=.s (.int .i64 n)
abbrev U8(n:Int):D:=.s (.int .u8 n)
abbrev B(b:Bool):D:=.s (.bool b)
abbrev S(s:ByteArray):D:=.s (.string s)
abbrev aB(l:List Int):D:=.sl (l.map I) l.length
abbrev kQ(l:List Int):D:=.sl (l.map U8) l.length
abbrev q0(l:List ByteArray):D:=.sl (l.map S) l.length
structure a7 where
 op:Int
 to:Int
 a:Int
 b:Int
 n:Int
 args:List Int
structure kq where
 name:ByteArray
 to:Int
structure End where
 kind:Int
 a:Int
 b:Int
 to:Int
 fS:Int
 name:ByteArray
 ins:a7
 args:List Int
 aH:List kq
 cP:Int
structure bB where
 ins:List a7
 fin:End
structure aA where
 name:ByteArray
 iter:Bool
 args:Int
 result:Int
 aj:List Int
 aW:List Int
 signals:List ByteArray
 blocks:List bB
def a9(x:a7):List D:=[U8 x.op,I x.to,I x.a,I x.b,I x.n,aB x.args]
def mf(w:kq):List D:=[S w.name,I w.to]
def pQ(l:List kq):D:=.sl (l.flatMap mf) l.length
def dG(l:List a7):D:=.sl (l.flatMap a9) l.length
def bd(x:End):List D:=[U8 x.kind,I x.a,I x.b,I x.to,I x.fS,S x.name,U8 x.ins.op,I x.ins.to,I x.ins.a,I x.ins.b,I x.ins.n,aB x.ins.args,aB x.args,pQ x.aH,I x.cP]
def c9(b:bB):List D:=dG b.ins::bd b.fin
def fL(l:List bB):D:=.sl (l.flatMap c9) l.length
def aD(f:aA):List D:=[S f.name,B f.iter,I f.args,U8 f.result,kQ f.aj,kQ f.aW,q0 f.signals,fL f.blocks]
def br(p q:D)(f:aA):List D:=[S f.name,B f.iter,I f.args,U8 f.result,kQ f.aj,kQ f.aW,q0 f.signals,fL f.blocks,p,q]
@[simp] theorem ak8 (p q : D) (x : aA) : (br p q x).length = 10 := rfl
@[simp] theorem Yh (x : a7) : (a9 x).length = 6 := rfl
@[simp] theorem ak9 (x : kq) : (mf x).length = 2 := rfl
@[simp] theorem alb (x : End) : (bd x).length = 15 := rfl
@[simp] theorem ak5 (x : bB) : (c9 x).length = 16 := rfl
@[simp] theorem ak' (x : aA) : (aD x).length = 8 := rfl
theorem FQ(x:a7):(a9 x).length=6:=rfl
theorem Cy(x:kq):(mf x).length=2:=rfl
theorem FP(x:bB):(c9 x).length=16:=rfl
def jO{α:Type}(p:α->Bool)(l:List α):Int:=match l.findIdx? p with
 |some i=>i
 |none=> -1
theorem AM{α:Type}{p:α->Bool}{l:List α}{k:Nat}{x:α}(hx:l[k]? =some x)(hp:p x=true)(h:∀ j y,j<k->l[j]? =some y->p y=false):jO p l=k:=by
 have:l.findIdx? p=some k:=by
  rw[List.findIdx?_eq_some_iff_getElem];obtain⟨hk,he⟩:=bL.1 hx;refine⟨hk,by rw[he];exact hp,fun j hj=>?_⟩;have:=h j l[j] hj (by simp[show j<l.length by omega]);simp[this]
 simp[jO,this]
theorem AN{α:Type}{p:α->Bool}{l:List α}(h:∀ (j:Nat) y,l[j]? =some y->p y=false):jO p l= -1:=by
 have:l.findIdx? p=none:=by
  rw[List.findIdx?_eq_none_iff];intro x hx;obtain⟨j,hj⟩:=dt hx;exact h j x hj
 simp[jO,this]
theorem AV{α:Type}(p:α->Bool)(l:List α):decide (0<=jO p l)=l.any p:=by
 unfold jO;cases h:l.findIdx? p with
 |none=>
  rw[List.findIdx?_eq_none_iff] at h;have:l.any p=false:=List.any_eq_false.2 fun x hx=>by simp[h x hx]
  simp[this]
 |some i=>
  obtain⟨hi,hp,_⟩:=List.findIdx?_eq_some_iff_getElem.1 h;have:l.any p=true:=List.any_eq_true.2 ⟨l[i],oS,hp⟩;simp[this]
theorem dg(l:List Int):Tr (aB l):=.sl (.map fun _=>.s _)
theorem qV(l:List Int):Tr (kQ l):=.sl (.map fun _=>.s _)
theorem y8(l:List ByteArray):Tr (q0 l):=.sl (.map fun _=>.s _)
theorem mg(x:a7):∀ a∈a9 x,Tr a:=.cons (.s _) (.cons (.s _) (.cons (.s _) (.cons (.s _) (.cons (.s _) (.cons (dg _) .nil)))))
theorem F7(x:kq):∀ a∈mf x,Tr a:=.cons (.s _) (.cons (.s _) .nil)
theorem j3(l:List kq):Tr (pQ l):=.sl (.flat F7)
theorem y9(l:List a7):Tr (dG l):=.sl (.flat mg)
theorem jF(x:End):∀ a∈bd x,Tr a:=.cons (.s _) (.cons (.s _) (.cons (.s _) (.cons (.s _) (.cons (.s _) (.cons (.s _) (.cons (.s _) (.cons (.s _) (.cons (.s _) (.cons (.s _) (.cons (.s _) (.cons (dg _) (.cons (dg _) (.cons (j3 _) (.cons (.s _) .nil))))))))))))))
theorem Oz(x:bB):∀ a∈c9 x,Tr a:=.cons (y9 _) (jF _)
theorem FR(l:List bB):Tr (fL l):=.sl (.flat Oz)
theorem fu(x:aA):∀ a∈aD x,Tr a:=.cons (.s _) (.cons (.s _) (.cons (.s _) (.cons (.s _) (.cons (qV _) (.cons (qV _) (.cons (y8 _) (.cons (FR _) .nil)))))))
theorem CO{p q:D}(hp:Tr p)(hq:Tr q)(x:aA):∀ a∈br p q x,Tr a:=.cons (.s _) (.cons (.s _) (.cons (.s _) (.cons (.s _) (.cons (qV _) (.cons (qV _) (.cons (y8 _) (.cons (FR _) (.cons hp (.cons hq .nil)))))))))
theorem nk{p q:D}(hp:Tr p)(hq:Tr q)(x:aA):Tr (.agg (br p q x)):=.agg (CO hp hq x)
theorem vq{p q:D}{f:aA}(h1:p.one=true)(h2:q.one=true):(br p q f).all D.one=true:=by
 simp only[br,List.all_cons,List.all_nil,h1,h2];rfl
abbrev bp(n:Int):D:=.s (.int .u64 n)
abbrev dI(w:List Int):D:=.agg (w.map bp)
theorem jv(w:List Int):(w.map bp).all D.one=true:=bJ.2 fun x hx=>by obtain⟨y,_,rfl⟩:=List.mem_map.1 hx;rfl
theorem F3{w:List Int}{i:Nat}{x:Int}:((w.map bp).set i (bp x)).all D.one=true:=by rw[<- List.map_set];exact jv _
theorem kx(w:List Int):Tr (dI w):=.agg (.map fun _=>.s _)
def qk(a b:Int):Int:=intBitsV .and .u64 a b
def Aj(a b:Int):Int:=intBitsV .or .u64 a b
def iX(w:List Int)(m:Nat):List Int:=w.set (m / 64) (Aj (w.getD (m / 64) 0) (IntKind.u64.wrap (1*2 ^ (min (m % 64) 64))))
def ku(w:List Int)(m:Nat):Bool:=qk ((w.getD (m / 64) 0).fdiv (2 ^ (min (m % 64) 64))) 1==1
def hU(w:List Int)(n:Int):List Int:=if 0<=n then iX w n.toNat else w
def fk(w v:List Int):Nat->List Int
 |0=>w
 |k+1=>(fk w v k).set k (qk ((fk w v k).getD k 0) (v.getD k 0))
def hZ(w v:List Int):List Int:=fk w v 20
@[simp] theorem OX (w v : List Int) : ∀ k, (fk w v k).length = w.length
 |0=>rfl
 |k+1=>by simp[fk,OX w v k]
@[simp] theorem alg (w : List Int) (m : Nat) : (iX w m).length = w.length := by simp [iX]
@[simp] theorem alh (w : List Int) (n : Int) : (hU w n).length = w.length := by unfold hU; split <;> simp
@[simp] theorem OD (w v : List Int) : (hZ w v).length = w.length := OX w v 20
theorem wrap_i64{n:Nat}(h:n<2 ^ 62):IntKind.i64.wrap (n:Int)=n:=by
 unfold IntKind.wrap;simp[IntKind.signed,IntKind.bits];omega
theorem D4{m:Nat}(h:m<2 ^ 62):IntKind.i64.wrap ((m:Int).tdiv 64)=((m / 64:Nat):Int):=by
 rw[show(m:Int).tdiv 64=((m / 64:Nat):Int) from by rw[Int.tdiv_eq_ediv_of_nonneg oG];omega];exact wrap_i64 oG
theorem D5(m:Nat):(m:Int).tmod 64=((m % 64:Nat):Int):=by rw[Int.tmod_eq_emod_of_nonneg oG];omega
theorem ib(a b:Int):(a==b)=decide (a=b):=rfl
def cY(n a b:Int):Bool:=decide (a<=n)&&decide (n<=b)
def tO(b:Int):Bool:=decide (b<33)||decide (126<b)
def lN(s:ByteArray):Bool:=cY s.size 1 120&& !(cR s).any tO
def tP(b:Int):Bool:=(decide (b<97)||decide (122<b))&&(decide (b<48)||decide (57<b))
def isName(s:ByteArray):Bool:=cY s.size 1 12&& !(cR s).any tP
def nh(C k:Int):Bool:=decide (k<1)||decide (C<k)
def eR(l:List Int)(C:Int):Bool:= !l.any (nh C)
def cD(l:List Int)(r:Int):Int:=if 0<=r then l.getD r.toNat 0 else 0
theorem tQ{l:List Int}{i:Nat}{x:Int}(h:l[i]? =some x):cD l i=x:=by
 simp[cD,bF,h]
theorem IS{l:List Int}{r:Int}(h:¬ (0<=r/\r<l.length)):cD l r=0:=by
 unfold cD;split
 .rename_i h0;have:l.length<=r.toNat:=by omega
  simp[bF,List.getElem?_eq_none this]
 .rfl
theorem kT{n a b:Int}:cY n a b=true↔a<=n/\n<=b:=by simp[cY]
theorem Zg{n a b:Int}:cY n a b=false↔¬ (a<=n/\n<=b):=by
 rw[<- Bool.not_eq_true,kT]
def eI(l:List Int)(r:Int):Bool:=cD l r==1||cD l r==2
def gC(l rs:List Int):Bool:=rs.all (eI l)
def my(l aW:List Int)(r n:Int):Bool:=cY n 0 (aW.length - 1)&&(cD l r==cD aW n)
def mn(l:List Int)(r want C:Int):Bool:=
 if want=0 then r==0 else if want=1 then cD l r==1 else if want=2 then cD l r==2 else if want=3 then eI l r
 else cD l r !=0&&cD l r==C
structure Shape where
 to:Int
 a:Int
 b:Int
 args:Int
 low:Int
 high:Int
def jE(s:Shape):List D:=[I s.to,I s.a,I s.b,I s.args,I s.low,I s.high]
@[simp] theorem ak6 (x : Shape) : (jE x).length = 6 := rfl
theorem OM(x:Shape):∀ a∈jE x,Tr a:=.cons (.s _) (.cons (.s _) (.cons (.s _) (.cons (.s _) (.cons (.s _) (.cons (.s _) .nil)))))
def qZ(l:List Int)(x:a7)(s:Shape):Int:=if s.to=0\/s.to=1 then cD l x.a else cD l x.to
def qS(l:List Int)(x:a7)(s:Shape):Bool:=if s.args=5 then cY x.args.length 1 6&&gC l x.args else if s.args=6 then decide ((x.args.length:Int)=1)&&gC l x.args else decide ((x.args.length:Int)=0)
def pS(l:List Int)(x:a7)(s:Shape):Bool:=
 mn l x.to s.to 0&&(mn l x.a s.a (qZ l x s)&&(mn l x.b s.b (qZ l x s)&&(qS l x s&&cY x.n s.low s.high)))
def rN(l:List (Int×Shape)):List (Value×D):=l.map fun x=>(.int .u8 x.1,.agg (jE x.2))
def zb:Shape:=⟨0,0,0,0,0,0⟩
def fM(l:List (Int×Shape))(op:Int):Option Shape:=(l.find? fun x=>x.1==op).map (·.2)
def o8:List (Int×Shape):=[(1,⟨1,0,0,0, -1000000000,1000000000⟩),(2,⟨3,4,0,0,0,0⟩),(3,⟨1,1,1,0,0,0⟩),(4,⟨1,1,1,0,0,0⟩),(5,⟨1,3,4,0,0,0⟩),(6,⟨1,1,1,0,0,0⟩),(7,⟨1,1,1,0,0,0⟩),(8,⟨1,1,0,0,0,0⟩),
 (9,⟨2,0,0,0,0,1⟩),(10,⟨2,0,0,5,0,5⟩),(11,⟨3,2,0,0,0,5⟩),(12,⟨0,2,3,0,0,5⟩),(13,⟨1,2,0,0,0,0⟩),(14,⟨1,2,0,0,0,0⟩),(15,⟨0,1,0,0,0,0⟩)]
def jJ:List (Int×Shape):=[(30,⟨1,1,1,0,0,0⟩),(31,⟨1,1,1,0,0,0⟩),(32,⟨1,1,1,0,0,0⟩),(33,⟨1,1,1,0,0,0⟩),(34,⟨1,1,1,0,0,0⟩),(35,⟨0,2,3,0,0,0⟩),(36,⟨3,2,0,0,0,0⟩),(37,⟨3,2,1,0,0,0⟩),(38,⟨0,2,1,6,0,0⟩)]
theorem Bt(l:List (Int×Shape)):Tr (.im (rN l)):=.im fun x hx=>by
 obtain⟨y,_,rfl⟩:=List.mem_map.1 hx;exact .agg (OM _)
theorem QP(op:Int):∀ l:List (Int×Shape),(lookD (.int .u8 op) (rN l)).map (·.2)=(fM l op).map fun s=>.agg (jE s)
 |[]=>rfl
 |(o,s)::l=>by
  have ih:=QP op l;unfold rN at ih ⊢;simp only[List.map_cons,lookD,veq,veq1,fM,List.find?_cons] at ih ⊢;by_cases h:o=op
  .subst h;simp
  .have hb:(o==op)=false:=by simpa using h
   simp only[hb,beq_self_eq_true,Bool.and_false,Bool.false_eq_true,if_false,Option.map_map] at ih ⊢;exact ih
theorem Sb{P:Program}{t:TypeId}{C:D}(U:zeroD P (melP P t)=C)(op:Int)(l:List (Int×Shape))(J:C=.agg (jE zb)):gotD P t true (lookD (.int .u8 op) (rN l))=.tup [.agg (jE ((fM l op).getD zb)),.s (.bool (fM l op).isSome)]:=by
 have h:=QP op l;cases h1:lookD (.int .u8 op) (rN l) with
 |none=>
  rw[h1] at h;have:fM l op=none:=by simpa using h.symm
  simp only[gotD,this,U,J,Option.getD_none,Option.isSome_none,if_true]
 |some x=>
  rw[h1] at h;cases h2:fM l op with
  |none=>rw[h2] at h;simp at h
  |some s=>
   rw[h2] at h;obtain⟨i,d⟩:=x;simp only[Option.map_some,aQ] at h;subst h;simp[gotD]
theorem QH{P:Program}{kt:TypeId}(hk:P.underlying kt=some (.int .u8))(l:List (Int×Shape)):(rN l).all (fun e=>keyP P kt e.1)=true:=by
 refine bJ.2 fun x hx=>?_;obtain⟨y,_,rfl⟩:=List.mem_map.1 hx;simp[keyP,hk]
def aR(a b:Int):Bool:=decide (a=b)
def jK(x:a7):Bool:=decide ((x.args.length:Int)=0)
def jm(f:aA)(b:Int)(x:a7)(phis:Bool)(ahead:Int):Bool:=
 if x.op=16 then aR x.to 0&&(aR (cD f.aj x.a) 3&&(aR x.b 0&&(aR x.n 0&&jK x)))
 else if x.op=17 then aR x.a 0&&(aR x.b 0&&(jK x&&my f.aj f.aW x.to x.n))
 else if x.op=18 then aR x.to 0&&(aR x.b 0&&(jK x&&my f.aj f.aW x.a x.n))
 else if x.op=19 then phis&&(decide (0<b)&&(eI f.aj x.to&&(aR x.a 0&&(aR x.b 0&&(aR x.n 0&&(aR x.args.length ahead&& !x.args.any fun r=> !aR (cD f.aj r) (cD f.aj x.to)))))))
 else(fM o8 x.op).isSome&&pS f.aj x ((fM o8 x.op).getD zb)
def DQ(x:a7):Bool:=decide (x.op=0)&&(decide (x.to=0)&&(decide (x.a=0)&&(decide (x.b=0)&&(decide (x.n=0)&&decide ((x.args.length:Int)=0)))))
def zv(x:End):Bool:=decide (x.kind=0)&&(decide (x.a=0)&&(decide (x.b=0)&&(decide (x.to=0)&&(decide (x.fS=0)&&(x.name.toList==[]&&(decide (x.cP= -1)&&(decide ((x.args.length:Int)=0)&&(decide ((x.aH.length:Int)=0)&&DQ x.ins))))))))
def cr(f:aA)(n:Int):Bool:=cY n 0 (f.blocks.length - 1)
def pj(f:aA)(ws:List kq)(i:Nat)(w:kq):Bool:=isName w.name&&(cr f w.to&& !(ws.take i).any fun v=>v.name.toList==w.name.toList)
def GB(f:aA)(ws:List kq):Bool:=ws.zipIdx.all fun x=>pj f ws x.2 x.1
theorem NO{f:aA}{ws:List kq}(h:∀ (i:Nat) w,ws[i]? =some w->pj f ws i w=true):GB f ws=true:=by
 refine bJ.2 fun x hx=>?_;obtain⟨h1,h2⟩:=List.mem_zipIdx' hx;exact h x.2 x.1 (by rw[h2];simp[h1])
theorem It{f:aA}{ws:List kq}{i:Nat}{w:kq}(C:ws[i]? =some w)(h:pj f ws i w=false):GB f ws=false:=by
 refine Bool.eq_false_iff.2 fun ht=>?_;have hx:(w,i)∈ws.zipIdx:=List.mem_zipIdx_iff_getElem?.2 C;have:=bJ.1 ht _ hx;rw[h] at this;cases this
def nj(f:aA)(x:End):Bool:=GB f x.aH&&(decide ((x.aH.length:Int)<=7)&&(decide (x.cP= -1)||cr f x.cP))
def dT:a7:=⟨0,0,0,0,0,[]⟩
def gf(f:aA)(x:End):Bool×End:=
 let r:End:={ x with kind:=0 }
 if x.kind=1 then(cr f x.to,{ r with to:=0 })
 else if x.kind=2 then(aR (cD f.aj x.a) 1&&(cr f x.to&&cr f x.fS),{ r with a:=0,to:=0,fS:=0 })
 else if x.kind=3 then(if f.result≠0/\f.iter=false then aR (cD f.aj x.a) f.result else aR x.a (-1),{ r with a:=0 })
 else if x.kind=4 then(isName x.name,{ r with name:=.empty })
 else if x.kind=5 then((fM jJ x.ins.op).isSome&&(pS f.aj x.ins ((fM jJ x.ins.op).getD zb)&&(cr f x.to&&nj f x)),{ r with ins:=dT,to:=0,aH:=[],cP:= -1 })
 else if x.kind=6 then(lN x.name&&(decide ((x.args.length:Int)<=6)&&(gC f.aj x.args&&((aR x.a (-1)||eI f.aj x.a)&&(cr f x.to&&nj f x)))),{ r with name:=.empty,args:=[],a:=0,to:=0,aH:=[],cP:= -1 })
 else if x.kind=7 then(lN x.name&&(decide ((x.args.length:Int)<=6)&&(gC f.aj x.args&&(aR (cD f.aj x.a) 3&&cr f x.to))),{ r with name:=.empty,args:=[],a:=0,to:=0 })
 else if x.kind=8 then(aR (cD f.aj x.a) 3&&(eI f.aj x.b&&(cr f x.to&&(cr f x.fS&&nj f x))),{ r with a:=0,b:=0,to:=0,fS:=0,aH:=[],cP:= -1 })
 else if x.kind=9 then(f.iter&&(aR (cD f.aj x.a) f.result&&cr f x.to),{ r with a:=0,to:=0 })
 else(false,r)
def aN(l:List Int)(n:Int):Bool:=l.any fun c=>n==c
def kP(n:Int):Int:=1200+n
def l9:List Int:=[1,2,3,4,5,6,7,8,9,10,11,13,14,17,19]
def oY:List Int:=[30,31,32,33,34,36,37]
def bT(x:a7):Int:=if aN l9 x.op then x.to else if aN oY x.op then x.to else -1
def eg(x:End):Int:=if x.kind=5 then bT x.ins else if aN [6,7] x.kind then x.a else if x.kind=8 then x.b else -1
def n4:List Int:=[2,8,11,13,14,15,16,18,36]
def q9:List Int:=[3,4,5,6,7,12,30,31,32,33,34,35,37]
def bU(x:a7):List Int:=if aN n4 x.op then [x.a] else if aN q9 x.op then [x.a,x.b] else if x.op=10 then x.args else if x.op=38 then x.a::x.b::x.args else []
def bS(x:End):List Int:=if aN [2,8,9] x.kind then [x.a] else if x.kind=3 then(if x.a≠ -1 then [x.a] else []) else if x.kind=5 then bU x.ins else if aN [6,7] x.kind then x.args else []
def jI(f:aA)(x:End):Bool:=(gf f x).1&&zv (gf f x).2
end Go.Argus
namespace Go.Proofs.Tryz.K
open Go.Abs
def zf(i:Nat):Code->Option (Array Oper)
 | .region j o _=>bif Nat.beq i j then some o else none
 | .seq a b=>match zf i a with
  |some x=>some x
  |none=>zf i b
 | .cond _ a b=>match zf i a with
  |some x=>some x
  |none=>zf i b
 | .block _ b=>zf i b
 | .loop b=>zf i b
 | .scope b=>zf i b
 | .rangeFunc _ _ a b=>match zf i a with
  |some x=>some x
  |none=>zf i b
 |_=>none
def Z(b:Code)(i:Nat):Array Oper:=(zf i b).getD #[]
abbrev G(i:Nat)(o:Array Oper):Code:=.region i o false
abbrev G1(b:Code)(i:Nat):Code:=.region i (Z b i) false
abbrev G2(b:Code)(i:Nat):Code:=.region i (Z b i) true
abbrev S1(a b:Code):Code:=.seq a b
abbrev C1(n:Nat)(a b:Code):Code:=.cond (.tmp n) a b
abbrev B1(n:Nat)(a:Code):Code:=.block n a
abbrev X1(n:Nat):Code:=.exit n
abbrev K1:Code:=.skip
theorem ahP:D1=(S1 (G1 D1 0) (S1 (G1 D1 1) .ret)):=kr
theorem ad':Dm=(S1 (G1 Dm 0) (S1 (G1 Dm 1) .ret)):=kr
theorem adx:Ds=(S1 (G1 Ds 0) (S1 (G1 Ds 1) .ret)):=kr
theorem ad8:Dv=(S1 (G1 Dv 0) (S1 (G1 Dv 1) .ret)):=kr
theorem adw:sH=(S1 (G1 sH 0) (S1 (S1 (G1 sH 1) (B1 0 (.loop (S1 (G1 sH 2) (S1 (C1 9 K1 (X1 0)) (S1 (B1 1 (S1 (G1 sH 3) (S1 (G1 sH 4) (C1 16 (S1 (G1 sH 5) .ret) K1)))) (G1 sH 6))))))) (S1 (G1 sH 7) .ret))):=kr
theorem adN:tZ=(S1 (G1 tZ 0) (S1 (G1 tZ 1) (S1 (S1 (G1 tZ 2) (B1 0 (.rangeFunc (.tmp 8) #[9] (G1 tZ 3) (B1 1 (S1 (G1 tZ 4) (C1 12 (G1 tZ 5) K1)))))) (S1 (G1 tZ 6) .ret)))):=kr
theorem adM:rm=(S1 (S1 (G1 rm 0) (C1 19 .ret K1)) (S1 (S1 (G1 rm 1) (C1 34 .ret K1)) (S1 (S1 (G1 rm 2) (B1 0 (.loop (S1 (G1 rm 3) (S1 (C1 39 K1 (X1 0)) (S1 (B1 1 (S1 (G1 rm 4) (S1 (G1 rm 5) (C1 46 .ret K1)))) (G1 rm 6))))))) (S1 (G1 rm 7) (C1 65 (G1 rm 8) K1))))):=kr
theorem adL:Df=(S1 (G1 Df 0) (S1 (G1 Df 1) .ret)):=kr
theorem ady:sE=(S1 (G1 sE 0) (S1 (S1 (G1 sE 1) (B1 0 (.loop (S1 (G1 sE 2) (S1 (C1 9 K1 (X1 0)) (S1 (B1 1 (S1 (G1 sE 3) (S1 (G1 sE 4) (C1 16 (S1 (G1 sE 5) .ret) K1)))) (G1 sE 6))))))) (S1 (G1 sE 7) .ret))):=kr
theorem adz:Dk=(S1 (G1 Dk 0) (S1 (G1 Dk 1) .ret)):=kr
theorem adA:sC=(S1 (G1 sC 0) (S1 (S1 (G1 sC 1) (B1 0 (.loop (S1 (G1 sC 2) (S1 (C1 9 K1 (X1 0)) (S1 (B1 1 (S1 (G1 sC 3) (S1 (G1 sC 4) (C1 16 (S1 (G1 sC 5) .ret) K1)))) (G1 sC 6))))))) (S1 (G1 sC 7) .ret))):=kr
theorem adB:C'=(S1 (G1 C' 0) (S1 (G1 C' 1) .ret)):=kr
theorem adC:sI=(S1 (G1 sI 0) (S1 (S1 (G1 sI 1) (B1 0 (.loop (S1 (G1 sI 2) (S1 (C1 9 K1 (X1 0)) (S1 (B1 1 (S1 (G1 sI 3) (S1 (G1 sI 4) (C1 16 (S1 (G1 sI 5) .ret) K1)))) (G1 sI 6))))))) (S1 (G1 sI 7) .ret))):=kr
theorem adD:DB=(S1 (G1 DB 0) (S1 (G1 DB 1) .ret)):=kr
theorem adE:sx=(S1 (G1 sx 0) (S1 (S1 (G1 sx 1) (B1 0 (.loop (S1 (G1 sx 2) (S1 (C1 9 K1 (X1 0)) (S1 (B1 1 (S1 (G1 sx 3) (S1 (G1 sx 4) (C1 16 (S1 (G1 sx 5) .ret) K1)))) (G1 sx 6))))))) (S1 (G1 sx 7) .ret))):=kr
theorem adF:Da=(S1 (G1 Da 0) (S1 (G1 Da 1) .ret)):=kr
theorem aek:sv=(S1 (G1 sv 0) (S1 (S1 (G1 sv 1) (B1 0 (.loop (S1 (G1 sv 2) (S1 (C1 9 K1 (X1 0)) (S1 (B1 1 (S1 (G1 sv 3) (S1 (G1 sv 4) (C1 16 (S1 (G1 sv 5) .ret) K1)))) (G1 sv 6))))))) (S1 (G1 sv 7) .ret))):=kr
theorem ahY:DU=(S1 (G1 DU 0) (S1 (G1 DU 1) .ret)):=kr
theorem ad7:Dt=(S1 (G1 Dt 0) (S1 (G1 Dt 1) .ret)):=kr
theorem ad9:Di=(S1 (G1 Di 0) (S1 (G1 Di 1) .ret)):=kr
theorem aea:Dl=(S1 (G1 Dl 0) (S1 (G1 Dl 1) .ret)):=kr
theorem aeb:Du=(S1 (G1 Du 0) (S1 (G1 Du 1) .ret)):=kr
theorem aec:Dj=(S1 (G1 Dj 0) (S1 (G1 Dj 1) .ret)):=kr
theorem aeO:A5=(S1 (G1 A5 0) (S1 (G1 A5 1) (S1 (G1 A5 2) .ret))):=kr
theorem aeN:zg=(S1 (G1 zg 0) (S1 (G1 zg 1) (S1 (G1 zg 2) (S1 (G1 zg 3) .ret)))):=kr
theorem aew:Dw=(S1 (G1 Dw 0) (S1 (G1 Dw 1) .ret)):=kr
theorem aex:zj=(S1 (G1 zj 0) (S1 (S1 (G1 zj 1) (C1 12 (S1 (G1 zj 2) .ret) K1)) (S1 (G1 zj 3) .ret))):=kr
theorem aeF:o7=(S1 (G1 o7 0) (S1 (G1 o7 1) (S1 (S1 (G1 o7 2) (C1 20 (G1 o7 3) K1)) (S1 (G1 o7 4) (S1 (S1 (G1 o7 5) (B1 0 (S1 (G1 o7 6) (C1 31 (G1 o7 7) (S1 (G1 o7 8) (C1 43 (G1 o7 9) K1)))))) (S1 (G1 o7 10) .ret)))))):=kr
theorem aeM:sF=(S1 (G1 sF 0) (S1 (S1 (G1 sF 1) (B1 0 (.loop (S1 (G1 sF 2) (S1 (C1 11 K1 (X1 0)) (S1 (B1 1 (S1 (G1 sF 3) (S1 (G1 sF 4) (C1 33 (S1 (G1 sF 5) .ret) K1)))) (G1 sF 6))))))) (S1 (G1 sF 7) .ret))):=kr
theorem aez:Dx=(S1 (G1 Dx 0) (S1 (G1 Dx 1) .ret)):=kr
theorem OI:drawInfo (Z A6 1)=some [(10,11),(10,12),(10,13),(10,15),(10,16)]:=kr
theorem aeA:A6=(S1 (G1 A6 0) (S1 (G2 A6 1) .ret)):=kr
theorem Zv:drawInfo (Z A7 1)=some [(2,3)]:=kr
theorem ae4:A7=(S1 (G1 A7 0) (S1 (G2 A7 1) .ret)):=kr
theorem aeE:n6=(S1 (G1 n6 0) (S1 (G1 n6 1) (S1 (S1 (G1 n6 2) (B1 0 (S1 (G1 n6 3) (C1 14 (S1 (G1 n6 4) .ret) (S1 (G1 n6 5) (C1 18 (S1 (G1 n6 6) .ret) (S1 (G1 n6 7) (C1 22 (S1 (G1 n6 8) .ret) (S1 (G1 n6 9) (C1 26 (S1 (G1 n6 10) .ret) K1)))))))))) (S1 (G1 n6 11) .ret)))):=kr
theorem aeL:DC=(S1 (G1 DC 0) (S1 (G1 DC 1) .ret)):=kr
theorem aey:DD=(S1 (G1 DD 0) (S1 (G1 DD 1) .ret)):=kr
theorem aeK:Dy=(S1 (G1 Dy 0) (S1 (G1 Dy 1) .ret)):=kr
theorem aeJ:DE=(S1 (G1 DE 0) (S1 (G1 DE 1) .ret)):=kr
theorem Ys:drawInfo (Z eS 11)=some [(3,4),(3,5),(3,6)]:=kr
theorem Yt:drawInfo (Z eS 28)=some [(7,8),(7,9),(7,10)]:=kr
theorem afB:eS=(S1 (G1 eS 0) (S1 (G1 eS 1) (S1 (G1 eS 2) (S1 (S1 (G1 eS 3) (B1 0 (S1 (G1 eS 4) (C1 13 (G1 eS 5) (S1 (G1 eS 6) (C1 20 (G1 eS 7) (S1 (G1 eS 8) (C1 42 (S1 (G1 eS 9) (S1 (G1 eS 10) (C1 57 (G2 eS 11) K1))) (S1 (G1 eS 12) (C1 66 (G1 eS 13) (S1 (G1 eS 14) (C1 72 (S1 (G1 eS 15) (S1 (G1 eS 16) (G1 eS 17))) (S1 (G1 eS 18) (C1 107 (S1 (G1 eS 19) (G1 eS 20)) (S1 (G1 eS 21) (C1 153 (S1 (G1 eS 22) (G1 eS 23)) (S1 (G1 eS 24) (C1 187 (S1 (G1 eS 25) (G1 eS 26)) (S1 (G1 eS 27) (C1 224 (G2 eS 28) K1)))))))))))))))))))) (S1 (G1 eS 29) .ret))))):=kr
theorem ae5:mj=(S1 (G1 mj 0) (S1 (S1 (G1 mj 1) (B1 0 (S1 (G1 mj 2) (C1 17 (S1 (G1 mj 3) .ret) (S1 (G1 mj 4) (C1 45 (S1 (G1 mj 5) .ret) (S1 (G1 mj 6) (C1 69 (S1 (G1 mj 7) .ret) (S1 (G1 mj 8) (C1 93 (S1 (G1 mj 9) (S1 (G1 mj 10) (S1 (G1 mj 11) .ret))) K1)))))))))) (S1 (G1 mj 12) (S1 (G1 mj 13) .ret)))):=kr
theorem Yf:drawInfo (Z dR 10)=some []:=kr
theorem Yg:drawInfo (Z dR 32)=some []:=kr
theorem aef:dR=(S1 (G1 dR 0) (S1 (G1 dR 1) (S1 (G1 dR 2) (S1 (S1 (G1 dR 3) (C1 71 (S1 (G1 dR 4) .ret) K1)) (S1 (S1 (G1 dR 5) (C1 101 (S1 (G1 dR 6) .ret) K1)) (S1 (S1 (G1 dR 7) (B1 0 (.loop (S1 (S1 (G1 dR 8) (C1 106 K1 (X1 0))) (S1 (B1 1 (S1 (G2 dR 10) (C1 120 (S1 (G1 dR 11) .ret) K1))) (G1 dR 9)))))) (S1 (G1 dR 12) (S1 (S1 (G1 dR 13) (B1 2 (.loop (S1 (G1 dR 14) (S1 (C1 126 K1 (X1 2)) (S1 (B1 3 (S1 (G1 dR 15) (S1 (S1 (G1 dR 16) (C1 139 (S1 (G1 dR 17) .ret) K1)) (S1 (G1 dR 18) (C1 143 (S1 (S1 (G1 dR 19) (C1 148 (S1 (G1 dR 20) .ret) K1)) (G1 dR 21)) K1))))) (G1 dR 22))))))) (S1 (G1 dR 23) (S1 (S1 (G1 dR 24) (B1 4 (.loop (S1 (G1 dR 25) (S1 (C1 160 K1 (X1 4)) (S1 (B1 5 (S1 (G1 dR 26) (S1 (G1 dR 27) (S1 (G1 dR 28) (B1 6 (.loop (S1 (G1 dR 29) (S1 (C1 168 K1 (X1 6)) (S1 (B1 7 (S1 (G1 dR 30) (S1 (G1 dR 31) (S1 (G2 dR 32) (C1 187 (S1 (G1 dR 33) .ret) K1))))) (G1 dR 34)))))))))) (G1 dR 35))))))) (S1 (G1 dR 36) .ret))))))))))):=kr
theorem ahO:n8=(S1 (G1 n8 0) (S1 (G1 n8 1) (S1 (S1 (G1 n8 2) (B1 0 (.loop (S1 (G1 n8 3) (S1 (C1 18 K1 (X1 0)) (S1 (B1 1 (S1 (G1 n8 4) (S1 (G1 n8 5) (B1 2 (.loop (S1 (G1 n8 6) (S1 (C1 28 K1 (X1 2)) (S1 (B1 3 (S1 (G1 n8 7) (G1 n8 8))) (G1 n8 9))))))))) (G1 n8 10))))))) (S1 (G1 n8 11) .ret)))):=kr
theorem adV:De=(S1 (G1 De 0) (S1 (G1 De 1) .ret)):=kr
theorem Y8:drawInfo (Z xc 2)=some [(0,2)]:=kr
theorem adW:xc=(S1 (G1 xc 0) (S1 (S1 (G1 xc 1) (C1 9 (S1 (G2 xc 2) .ret) K1)) (S1 (G1 xc 3) .ret))):=kr
theorem ID:drawInfo (Z iW 10)=some [(6,9)]:=kr
theorem adX:iW=(S1 (G1 iW 0) (S1 (G1 iW 1) (S1 (S1 (G1 iW 2) (B1 0 (.loop (S1 (G1 iW 3) (S1 (C1 17 K1 (X1 0)) (S1 (B1 1 (S1 (G1 iW 4) (S1 (S1 (G1 iW 5) (B1 2 (.loop (S1 (G1 iW 6) (S1 (C1 24 K1 (X1 2)) (S1 (B1 3 (S1 (G1 iW 7) (G1 iW 8))) (G1 iW 9))))))) (S1 (G2 iW 10) (G1 iW 11))))) (G1 iW 12))))))) (S1 (S1 (G1 iW 13) (B1 4 (.loop (S1 (G1 iW 14) (S1 (C1 56 K1 (X1 4)) (S1 (B1 5 (S1 (G1 iW 15) (G1 iW 16))) (G1 iW 17))))))) (S1 (G1 iW 18) .ret))))):=kr
theorem YY:drawInfo (Z vA 2)=some [(0,3)]:=kr
theorem YX:drawInfo (Z vA 3)=some [(0,2)]:=kr
theorem adJ:vA=(S1 (G1 vA 0) (S1 (S1 (G1 vA 1) (C1 7 (S1 (G2 vA 2) .ret) K1)) (S1 (G2 vA 3) .ret))):=kr
theorem YV:drawInfo (Z xd 2)=some []:=kr
theorem adH:xd=(S1 (G1 xd 0) (S1 (S1 (G1 xd 1) (C1 6 (G2 xd 2) K1)) (S1 (G1 xd 3) .ret))):=kr
theorem YW:drawInfo (Z sG 4)=some []:=kr
theorem adI:sG=(S1 (G1 sG 0) (S1 (S1 (G1 sG 1) (B1 0 (.loop (S1 (G1 sG 2) (S1 (C1 7 K1 (X1 0)) (S1 (B1 1 (S1 (G1 sG 3) (G2 sG 4))) (G1 sG 5))))))) (S1 (G1 sG 6) .ret))):=kr
theorem adG:Dn=(S1 (G1 Dn 0) (S1 (G1 Dn 1) .ret)):=kr
theorem afN:Dz=(S1 (G1 Dz 0) (S1 (G1 Dz 1) .ret)):=kr
theorem Y9:drawInfo (Z eL 1)=some [(4,5),(4,6),(4,7),(4,8)]:=kr
theorem X':drawInfo (Z eL 20)=some []:=kr
theorem Ya:drawInfo (Z eL 24)=some [(2,8),(3,8)]:=kr
theorem Yb:drawInfo (Z eL 25)=some []:=kr
theorem ad6:eL=(S1 (G1 eL 0) (S1 (G2 eL 1) (S1 (S1 (G1 eL 2) (B1 0 (.loop (S1 (G1 eL 3) (S1 (C1 29 K1 (X1 0)) (S1 (B1 1 (S1 (G1 eL 4) (G1 eL 5))) (G1 eL 6))))))) (S1 (G1 eL 7) (S1 (S1 (G1 eL 8) (B1 2 (.loop (S1 (G1 eL 9) (S1 (C1 45 K1 (X1 2)) (S1 (B1 3 (S1 (G1 eL 10) (G1 eL 11))) (G1 eL 12))))))) (S1 (S1 (G1 eL 13) (B1 4 (.loop (S1 (S1 (G1 eL 14) (C1 55 K1 (X1 4))) (B1 5 (S1 (G1 eL 15) (S1 (G1 eL 16) (B1 6 (.loop (S1 (G1 eL 17) (S1 (C1 61 K1 (X1 6)) (S1 (B1 7 (S1 (G1 eL 18) (S1 (S1 (G1 eL 19) (C1 69 (X1 7) K1)) (S1 (G2 eL 20) (S1 (G1 eL 21) (B1 8 (.loop (S1 (G1 eL 22) (S1 (C1 85 K1 (X1 8)) (S1 (B1 9 (S1 (G1 eL 23) (S1 (G2 eL 24) (S1 (G2 eL 25) (C1 110 (G1 eL 26) K1))))) (G1 eL 27))))))))))) (G1 eL 28))))))))))))) (S1 (G1 eL 29) .ret))))))):=kr
theorem Za:drawInfo (Z fY 7)=some []:=kr
theorem Yd:drawInfo (Z fY 17)=some []:=kr
theorem Ye:drawInfo (Z fY 18)=some [(14,15),(14,16),(14,18),(14,19)]:=kr
theorem aed:fY=(S1 (G1 fY 0) (.scope (S1 (G1 fY 1) (S1 (G1 fY 2) (S1 (.label 0) (S1 (S1 (G1 fY 3) (B1 0 (.loop (S1 (G1 fY 4) (S1 (C1 28 K1 (X1 0)) (S1 (B1 1 (S1 (G1 fY 5) (S1 (S1 (G1 fY 6) (C1 36 (X1 1) K1)) (S1 (S1 (G2 fY 7) (S1 (G1 fY 8) (C1 47 (S1 (G1 fY 9) .ret) K1))) (S1 (G1 fY 10) (B1 2 (.loop (S1 (G1 fY 11) (S1 (C1 52 K1 (X1 2)) (S1 (B1 3 (S1 (G1 fY 12) (S1 (S1 (G1 fY 13) (C1 57 (X1 1) K1)) (S1 (G1 fY 14) (B1 4 (.loop (S1 (G1 fY 15) (S1 (C1 64 K1 (X1 4)) (S1 (B1 5 (S1 (G1 fY 16) (S1 (G2 fY 17) (S1 (G2 fY 18) (C1 104 (S1 (G1 fY 19) .ret) K1))))) (G1 fY 20)))))))))) (G1 fY 21))))))))))) (G1 fY 22))))))) (S1 (G1 fY 23) .ret))))))):=kr
theorem ahW:vJ=(S1 (G1 vJ 0) (S1 (B1 0 (S1 (G1 vJ 1) (C1 3 (S1 (G1 vJ 2) .ret) (S1 (G1 vJ 3) (C1 7 (S1 (G1 vJ 4) .ret) K1))))) (S1 (G1 vJ 5) .ret))):=kr
theorem afO:fX=(S1 (G1 fX 0) (S1 (S1 (G1 fX 1) (B1 0 (S1 (S1 (G1 fX 2) (C1 5 K1 (S1 (G1 fX 3) (C1 5 K1 (S1 (G1 fX 4) (C1 5 K1 (S1 (G1 fX 5) (C1 5 K1 (S1 (G1 fX 6) (C1 5 K1 (S1 (G1 fX 7) (C1 5 K1 (S1 (G1 fX 8) (C1 5 K1 (S1 (G1 fX 9) (C1 5 K1 (S1 (G1 fX 10) (C1 5 K1 (S1 (G1 fX 11) (C1 5 K1 (S1 (G1 fX 12) (C1 5 K1 (S1 (G1 fX 13) (C1 5 K1 (S1 (G1 fX 14) (C1 5 K1 (S1 (G1 fX 15) (C1 5 K1 (G1 fX 16))))))))))))))))))))))))))))) (C1 5 (S1 (G1 fX 17) .ret) (S1 (S1 (G1 fX 18) (C1 23 K1 (S1 (G1 fX 19) (C1 23 K1 (S1 (G1 fX 20) (C1 23 K1 (S1 (G1 fX 21) (C1 23 K1 (S1 (G1 fX 22) (C1 23 K1 (S1 (G1 fX 23) (C1 23 K1 (G1 fX 24))))))))))))) (C1 23 (S1 (G1 fX 25) .ret) K1)))))) (S1 (G1 fX 26) .ret))):=kr
theorem afR:ff=(S1 (G1 ff 0) (S1 (S1 (G1 ff 1) (B1 0 (S1 (S1 (G1 ff 2) (C1 5 K1 (S1 (G1 ff 3) (C1 5 K1 (S1 (G1 ff 4) (C1 5 K1 (S1 (G1 ff 5) (C1 5 K1 (S1 (G1 ff 6) (C1 5 K1 (S1 (G1 ff 7) (C1 5 K1 (S1 (G1 ff 8) (C1 5 K1 (S1 (G1 ff 9) (C1 5 K1 (G1 ff 10))))))))))))))))) (C1 5 (S1 (G1 ff 11) .ret) (S1 (S1 (G1 ff 12) (C1 18 K1 (S1 (G1 ff 13) (C1 18 K1 (S1 (G1 ff 14) (C1 18 K1 (S1 (G1 ff 15) (C1 18 K1 (S1 (G1 ff 16) (C1 18 K1 (S1 (G1 ff 17) (C1 18 K1 (S1 (G1 ff 18) (C1 18 K1 (S1 (G1 ff 19) (C1 18 K1 (S1 (G1 ff 20) (C1 18 K1 (S1 (G1 ff 21) (C1 18 K1 (S1 (G1 ff 22) (C1 18 K1 (S1 (G1 ff 23) (C1 18 K1 (G1 ff 24))))))))))))))))))))))))) (C1 18 (S1 (G1 ff 25) .ret) (S1 (G1 ff 26) (C1 37 (S1 (G1 ff 27) .ret) (S1 (G1 ff 28) (C1 42 (S1 (G1 ff 29) .ret) K1)))))))))) (S1 (G1 ff 30) .ret))):=kr
theorem afS:lI=(S1 (G1 lI 0) (S1 (S1 (G1 lI 1) (B1 0 (S1 (S1 (G1 lI 2) (C1 5 K1 (S1 (G1 lI 3) (C1 5 K1 (G1 lI 4))))) (C1 5 (S1 (G1 lI 5) .ret) (S1 (G1 lI 6) (C1 12 (S1 (G1 lI 7) (C1 16 (S1 (G1 lI 8) .ret) K1)) (S1 (G1 lI 9) (C1 20 (S1 (G1 lI 10) .ret) (S1 (S1 (G1 lI 11) (C1 25 K1 (G1 lI 12))) (C1 25 (S1 (G1 lI 13) .ret) K1)))))))))) (S1 (G1 lI 14) .ret))):=kr
theorem afP:pU=(S1 (G1 pU 0) (S1 (S1 (G1 pU 1) (B1 0 (S1 (G1 pU 2) (C1 5 (S1 (G1 pU 3) .ret) (S1 (S1 (G1 pU 4) (C1 10 K1 (G1 pU 5))) (C1 10 (S1 (G1 pU 6) .ret) (S1 (G1 pU 7) (C1 15 (S1 (G1 pU 8) .ret) K1)))))))) (S1 (G1 pU 9) .ret))):=kr
theorem afQ:w8=(S1 (G1 w8 0) (S1 (S1 (G1 w8 1) (C1 4 (S1 (G1 w8 2) .ret) K1)) (S1 (G1 w8 3) .ret))):=kr
theorem ahI:D0=(S1 (G1 D0 0) (G1 D0 1)):=kr
theorem adT:fh=(S1 (G1 fh 0) (S1 (G1 fh 1) (B1 0 (.loop (B1 1 (S1 (G1 fh 2) (S1 (S1 (G1 fh 3) (C1 23 (S1 (G1 fh 4) .ret) K1)) (S1 (S1 (G1 fh 5) (C1 29 (S1 (G1 fh 6) .ret) K1)) (S1 (S1 (G1 fh 7) (C1 35 (S1 (G1 fh 8) (G1 fh 9)) K1)) (S1 (G1 fh 10) (S1 (S1 (G1 fh 11) (C1 50 (S1 (G1 fh 12) (S1 (G1 fh 13) (G1 fh 14))) K1)) (S1 (S1 (G1 fh 15) (C1 68 (S1 (G1 fh 16) (C1 72 .ret K1)) K1)) (S1 (S1 (G2 fh 17) (C1 87 (S1 (G1 fh 18) (S1 (G1 fh 19) (X1 1))) K1)) (S1 (G1 fh 20) (S1 (G1 fh 21) (S1 (G1 fh 22) (S1 (G1 fh 23) (S1 (G1 fh 24) (C1 113 (S1 (G1 fh 25) (S1 (G1 fh 26) (G1 fh 27))) (S1 (G1 fh 28) (S1 (G1 fh 29) (G1 fh 30)))))))))))))))))))))):=kr
theorem Y4:drawInfo (Z rk 4)=some []:=kr
theorem Y5:drawInfo (Z rk 6)=some []:=kr
theorem adS:rk=(S1 (G1 rk 0) (B1 0 (.loop (S1 (S1 (G1 rk 1) (C1 12 K1 (X1 0))) (S1 (B1 1 (S1 (G1 rk 3) (B1 2 (.loop (S1 (S1 (G2 rk 4) (C1 30 K1 (X1 2))) (S1 (B1 3 (G2 rk 6)) (G1 rk 5))))))) (G1 rk 2)))))):=kr
theorem adR:Dh=(S1 (G1 Dh 0) (S1 (G1 Dh 1) .ret)):=kr
theorem adQ:Dr=(S1 (G1 Dr 0) (S1 (G1 Dr 1) .ret)):=kr
theorem aam:drawInfo (Z js 6)=some []:=kr
theorem Y7:drawInfo (Z js 11)=some []:=kr
theorem ahJ:js=(S1 (G1 js 0) (S1 (S1 (G1 js 1) (C1 8 (S1 (G1 js 2) .ret) K1)) (S1 (S1 (G1 js 3) (B1 0 (.loop (S1 (S1 (G1 js 4) (C1 13 K1 (X1 0))) (S1 (B1 1 (S1 (G2 js 6) (C1 25 (S1 (G1 js 7) (S1 (S1 (G1 js 8) (B1 2 (.loop (S1 (S1 (G1 js 9) (C1 32 K1 (X1 2))) (S1 (B1 3 (S1 (G2 js 11) (C1 44 (S1 (G1 js 12) (G1 js 13)) K1))) (G1 js 10)))))) (S1 (G1 js 14) (S1 (G1 js 15) .ret)))) K1))) (G1 js 5)))))) (S1 (G1 js 16) .ret)))):=kr
theorem adU:zi=(S1 (G1 zi 0) (S1 (G1 zi 1) (S1 (G1 zi 2) (S1 (G1 zi 3) .ret)))):=kr
theorem adP:DA=(S1 (G1 DA 0) (S1 (G1 DA 1) .ret)):=kr
theorem adO:xf=(S1 (G1 xf 0) (S1 (S1 (G1 xf 1) (B1 0 (.rangeFunc (.tmp 6) #[7] (G1 xf 2) (B1 1 (G1 xf 3))))) (S1 (G1 xf 4) .ret))):=kr
theorem aej:mh=(S1 (G1 mh 0) (S1 (G1 mh 1) (S1 (S1 (G1 mh 2) (C1 13 (G1 mh 3) K1)) (S1 (S1 (G1 mh 4) (C1 26 (G1 mh 5) K1)) (S1 (S1 (G1 mh 6) (B1 0 (.loop (S1 (G1 mh 7) (S1 (C1 36 K1 (X1 0)) (S1 (B1 1 (S1 (G1 mh 8) (G1 mh 9))) (G1 mh 10))))))) (S1 (S1 (G1 mh 11) (C1 47 (G1 mh 12) K1)) (S1 (G1 mh 13) .ret))))))):=kr
theorem aeB:sw=(S1 (G1 sw 0) (S1 (G1 sw 1) (S1 (S1 (G1 sw 2) (C1 15 (S1 (G1 sw 3) .ret) K1)) (S1 (G1 sw 4) (S1 (G1 sw 5) (S1 (G1 sw 6) (S1 (G1 sw 7) .ret))))))):=kr
theorem aev:tY=(S1 (G1 tY 0) (S1 (G1 tY 1) (B1 0 (.loop (S1 (G1 tY 2) (S1 (C1 20 K1 (X1 0)) (S1 (B1 1 (S1 (G1 tY 3) (S1 (G1 tY 4) (C1 32 (G1 tY 5) K1)))) (G1 tY 6)))))))):=kr
theorem aaA:drawInfo (Z hD 5)=some []:=kr
theorem Zh:drawInfo (Z hD 11)=some [(1,6),(2,6),(3,6)]:=kr
theorem Zi:drawInfo (Z hD 15)=some [(1,14),(2,14),(3,14)]:=kr
theorem Vm:hD=(S1 (G1 hD 0) (S1 (S1 (G1 hD 1) (S1 (G1 hD 2) (C1 15 (S1 (G1 hD 3) .ret) K1))) (S1 (G1 hD 4) (S1 (G2 hD 5) (S1 (S1 (G1 hD 6) (B1 0 (.loop (S1 (G1 hD 7) (S1 (C1 31 K1 (X1 0)) (S1 (B1 1 (S1 (G1 hD 8) (S1 (G1 hD 9) (S1 (G1 hD 10) (S1 (G2 hD 11) (S1 (G1 hD 12) (B1 2 (.loop (S1 (G1 hD 13) (S1 (C1 57 K1 (X1 2)) (S1 (B1 3 (S1 (G1 hD 14) (G2 hD 15))) (G1 hD 16)))))))))))) (G1 hD 17))))))) (S1 (G1 hD 18) (S1 (G1 hD 19) .ret))))))):=kr
theorem aeC:sB=(S1 (G1 sB 0) (S1 (S1 (G1 sB 1) (B1 0 (.loop (S1 (G1 sB 2) (S1 (C1 20 K1 (X1 0)) (S1 (B1 1 (S1 (G1 sB 3) (S1 (G1 sB 4) (C1 27 (G1 sB 5) K1)))) (G1 sB 6))))))) (G1 sB 7))):=kr
theorem aia:sM=(S1 (G1 sM 0) (S1 (G1 sM 1) (S1 (G1 sM 2) (S1 (G1 sM 3) (S1 (G1 sM 4) (S1 (G1 sM 5) (S1 (G1 sM 6) (S1 (G1 sM 7) .ret)))))))):=kr
theorem aay:drawInfo (Z xv 3)=some []:=kr
theorem ah':xv=(S1 (G1 xv 0) (B1 0 (.loop (S1 (S1 (G1 xv 1) (C1 9 K1 (X1 0))) (S1 (B1 1 (G2 xv 3)) (G1 xv 2)))))):=kr
theorem aem:tW=(S1 (G1 tW 0) (S1 (G1 tW 1) (S1 (G1 tW 2) (S1 (S1 (G1 tW 3) (C1 19 (G1 tW 4) K1)) (S1 (G1 tW 5) .ret))))):=kr
theorem ael:Dg=(S1 (G1 Dg 0) (S1 (G1 Dg 1) .ret)):=kr
theorem aen:rj=(S1 (G1 rj 0) (S1 (G1 rj 1) (S1 (S1 (G1 rj 2) (B1 0 (.loop (S1 (G1 rj 3) (S1 (C1 12 K1 (X1 0)) (S1 (B1 1 (S1 (G1 rj 4) (S1 (G1 rj 5) (C1 17 (G1 rj 6) K1)))) (G1 rj 7))))))) (S1 (G1 rj 8) .ret)))):=kr
theorem aeo:zd=(S1 (G1 zd 0) (S1 (S1 (G1 zd 1) (C1 7 (S1 (G1 zd 2) .ret) K1)) (S1 (G1 zd 3) .ret))):=kr
theorem aes:ra=(S1 (G1 ra 0) (S1 (G1 ra 1) (S1 (G1 ra 2) (S1 (S1 (G1 ra 3) (B1 0 (.loop (S1 (G1 ra 4) (S1 (C1 25 K1 (X1 0)) (S1 (B1 1 (S1 (G1 ra 5) (G1 ra 6))) (G1 ra 7))))))) (S1 (G1 ra 8) .ret))))):=kr
theorem Zb:drawInfo (Z zc 1)=some []:=kr
theorem aeg:zc=(S1 (G1 zc 0) (S1 (G2 zc 1) (S1 (G1 zc 2) .ret))):=kr
theorem Zd:drawInfo (Z sy 4)=some []:=kr
theorem aei:sy=(S1 (G1 sy 0) (S1 (S1 (G1 sy 1) (B1 0 (.loop (S1 (G1 sy 2) (S1 (C1 7 K1 (X1 0)) (S1 (B1 1 (S1 (G1 sy 3) (G2 sy 4))) (G1 sy 5))))))) (S1 (G1 sy 6) .ret))):=kr
theorem Zc:drawInfo (Z w9 2)=some []:=kr
theorem aeh:w9=(S1 (G1 w9 0) (S1 (S1 (G1 w9 1) (C1 6 (G2 w9 2) K1)) (S1 (G1 w9 3) .ret))):=kr
theorem ahX:DZ=(S1 (G1 DZ 0) (S1 (G1 DZ 1) .ret)):=kr
theorem aaC:drawInfo (Z dh 2)=some []:=kr
theorem Zk:drawInfo (Z dh 22)=some [(0,5),(1,5),(0,6)]:=kr
theorem Zl:drawInfo (Z dh 32)=some [(0,2)]:=kr
theorem Zm:drawInfo (Z dh 38)=some []:=kr
theorem Zn:drawInfo (Z dh 39)=some [(5,7)]:=kr
theorem aib:dh=(S1 (G1 dh 0) (S1 (G1 dh 1) (S1 (G2 dh 2) (S1 (G1 dh 3) (S1 (G1 dh 4) (S1 (S1 (G1 dh 5) (B1 0 (.loop (S1 (S1 (G1 dh 6) (C1 37 K1 (X1 0))) (B1 1 (S1 (G1 dh 7) (S1 (G1 dh 8) (B1 2 (.loop (S1 (G1 dh 9) (S1 (C1 41 K1 (X1 2)) (S1 (B1 3 (S1 (G1 dh 10) (S1 (G1 dh 11) (S1 (G1 dh 12) (S1 (S1 (G1 dh 13) (B1 4 (.loop (S1 (G1 dh 14) (S1 (C1 61 K1 (X1 4)) (S1 (B1 5 (S1 (G1 dh 15) (S1 (G1 dh 16) (S1 (S1 (G1 dh 17) (B1 6 (.loop (S1 (G1 dh 18) (S1 (C1 74 K1 (X1 6)) (S1 (B1 7 (S1 (G1 dh 19) (G1 dh 20))) (G1 dh 21))))))) (G2 dh 22))))) (G1 dh 23))))))) (S1 (S1 (G1 dh 24) (B1 8 (.loop (S1 (G1 dh 25) (S1 (C1 95 K1 (X1 8)) (S1 (B1 9 (S1 (G1 dh 26) (G1 dh 27))) (G1 dh 28))))))) (S1 (G1 dh 29) (S1 (S1 (G1 dh 30) (B1 10 (.rangeFunc (.tmp 105) #[106,107] (G1 dh 31) (B1 11 (S1 (G2 dh 32) (S1 (G1 dh 33) (B1 12 (.loop (S1 (G1 dh 34) (S1 (C1 116 K1 (X1 12)) (S1 (B1 13 (S1 (G1 dh 35) (G1 dh 36))) (G1 dh 37)))))))))))) (S1 (G2 dh 38) (C1 136 (G2 dh 39) K1)))))))))) (G1 dh 40))))))))))))) (S1 (G1 dh 41) .ret))))))):=kr
theorem aet:Db=(S1 (G1 Db 0) (S1 (G1 Db 1) .ret)):=kr
theorem aeu:zh=(S1 (G1 zh 0) (B1 0 (.loop (S1 (S1 (G1 zh 1) (C1 8 K1 (X1 0))) (S1 (B1 1 (S1 (G1 zh 3) (C1 18 .ret K1))) (G1 zh 2)))))):=kr
theorem ah6:nr=(S1 (G1 nr 0) (S1 (G1 nr 1) (S1 (S1 (G1 nr 2) (B1 0 (.loop (S1 (G1 nr 3) (S1 (C1 24 K1 (X1 0)) (S1 (B1 1 (S1 (G1 nr 4) (S1 (S1 (G1 nr 5) (C1 30 (S1 (G1 nr 6) .ret) K1)) (S1 (G1 nr 7) (C1 42 (S1 (G1 nr 8) .ret) K1))))) (G1 nr 9))))))) (S1 (S1 (G1 nr 10) (C1 48 (S1 (G1 nr 11) .ret) K1)) (S1 (G1 nr 12) .ret))))):=kr
theorem aaw:drawInfo (Z pY 1)=some [(10,11)]:=kr
theorem aax:drawInfo (Z pY 3)=some [(3,4)]:=kr
theorem ah7:pY=(S1 (G1 pY 0) (S1 (B1 0 (S1 (G2 pY 1) (C1 9 (S1 (G1 pY 2) .ret) (S1 (G2 pY 3) (C1 23 (S1 (G1 pY 4) .ret) (S1 (G1 pY 5) (C1 30 (S1 (G1 pY 6) .ret) K1))))))) (S1 (G1 pY 7) .ret))):=kr
theorem aep:Dc=(S1 (G1 Dc 0) (S1 (G1 Dc 1) .ret)):=kr
theorem ah4:DW=(S1 (G1 DW 0) (S1 (G1 DW 1) .ret)):=kr
theorem aeq:Dd=(S1 (G1 Dd 0) (S1 (G1 Dd 1) .ret)):=kr
theorem ah5:DX=(S1 (G1 DX 0) (S1 (G1 DX 1) .ret)):=kr
theorem Zf:drawInfo (Z A4 1)=some [(1,2)]:=kr
theorem aer:A4=(S1 (G1 A4 0) (S1 (G2 A4 1) .ret)):=kr
theorem ah0:DV=(S1 (G1 DV 0) (S1 (G1 DV 1) .ret)):=kr
theorem aih:uk=(S1 (G1 uk 0) (S1 (G1 uk 1) (S1 (B1 0 (.loop (S1 (S1 (G1 uk 2) (C1 6 K1 (X1 0))) (S1 (B1 1 (G1 uk 4)) (G1 uk 3))))) (S1 (G1 uk 5) (S1 (G1 uk 6) .ret))))):=kr
theorem Vs:eU=(S1 (G1 eU 0) (S1 (G1 eU 1) (S1 (S1 (G1 eU 2) (C1 27 (S1 (G1 eU 3) .ret) K1)) (S1 (S1 (G1 eU 4) (C1 43 (S1 (G1 eU 5) .ret) K1)) (S1 (S1 (G1 eU 6) (S1 (G1 eU 7) (C1 65 (S1 (G1 eU 8) .ret) K1))) (S1 (G1 eU 9) (S1 (G1 eU 10) (S1 (S1 (G1 eU 11) (B1 0 (.loop (S1 (S1 (G1 eU 12) (C1 74 K1 (X1 0))) (S1 (B1 1 (S1 (G1 eU 14) (S1 (S1 (G1 eU 15) (B1 2 (S1 (G1 eU 16) (C1 84 (S1 (G1 eU 17) .ret) (S1 (G1 eU 18) (C1 89 (X1 1) K1)))))) (S1 (G1 eU 19) (B1 3 (.loop (S1 (G1 eU 20) (S1 (C1 100 K1 (X1 3)) (S1 (B1 4 (S1 (G1 eU 21) (S1 (G1 eU 22) (B1 5 (S1 (G1 eU 23) (C1 108 (S1 (G1 eU 24) .ret) (S1 (G1 eU 25) (C1 116 (S1 (G1 eU 26) (S1 (G1 eU 27) (C1 125 (S1 (G1 eU 28) (G1 eU 29)) K1))) K1)))))))) (G1 eU 30)))))))))) (G1 eU 13)))))) (S1 (G1 eU 31) .ret))))))))):=kr
theorem Zp:drawInfo (Z ej 11)=some []:=kr
theorem Vx:ej=(S1 (G1 ej 0) (S1 (G1 ej 1) (S1 (S1 (G1 ej 2) (C1 24 (S1 (G1 ej 3) .ret) K1)) (S1 (S1 (G1 ej 4) (C1 40 (S1 (G1 ej 5) .ret) K1)) (S1 (S1 (G1 ej 6) (C1 55 (S1 (G1 ej 7) .ret) K1)) (S1 (S1 (G1 ej 8) (B1 0 (.loop (S1 (G1 ej 9) (S1 (C1 59 K1 (X1 0)) (S1 (B1 1 (S1 (G1 ej 10) (S1 (G2 ej 11) (C1 96 (S1 (G1 ej 12) .ret) K1)))) (G1 ej 13))))))) (S1 (S1 (G1 ej 14) (B1 2 (.loop (S1 (G1 ej 15) (S1 (C1 101 K1 (X1 2)) (S1 (B1 3 (S1 (G1 ej 16) (S1 (G1 ej 17) (S1 (S1 (G1 ej 18) (C1 111 (S1 (G1 ej 19) (S1 (S1 (G1 ej 20) (C1 125 (S1 (G1 ej 21) .ret) K1)) (S1 (G1 ej 22) (C1 137 (S1 (G1 ej 23) .ret) K1)))) K1)) (S1 (G1 ej 24) (B1 4 (S1 (G1 ej 25) (C1 144 (S1 (G1 ej 26) .ret) (S1 (G1 ej 27) (C1 146 (S1 (S1 (G1 ej 28) (C1 148 (S1 (G1 ej 29) .ret) K1)) (S1 (G1 ej 30) (C1 154 (S1 (G1 ej 31) .ret) K1))) (S1 (G1 ej 32) (C1 155 (S1 (G1 ej 33) (C1 157 (S1 (G1 ej 34) .ret) K1)) K1)))))))))))) (G1 ej 35))))))) (S1 (G1 ej 36) .ret)))))))):=kr
theorem aip:jq=(S1 (G1 jq 0) (S1 (S1 (G1 jq 1) (C1 58 (S1 (G1 jq 2) .ret) K1)) (S1 (S1 (G1 jq 3) (B1 0 (.loop (S1 (S1 (G1 jq 4) (C1 63 K1 (X1 0))) (S1 (B1 1 (S1 (G1 jq 6) (C1 72 (S1 (G1 jq 7) .ret) K1))) (G1 jq 5)))))) (S1 (S1 (G1 jq 8) (B1 2 (.loop (S1 (S1 (G1 jq 9) (C1 77 K1 (X1 2))) (S1 (B1 3 (S1 (G1 jq 11) (S1 (S1 (G1 jq 12) (C1 117 (S1 (G1 jq 13) .ret) K1)) (S1 (G1 jq 14) (B1 4 (.loop (S1 (S1 (G1 jq 15) (C1 122 K1 (X1 4))) (S1 (B1 5 (S1 (G1 jq 17) (C1 132 (S1 (G1 jq 18) .ret) K1))) (G1 jq 16))))))))) (G1 jq 10)))))) (S1 (G1 jq 19) .ret))))):=kr
theorem aiq:xu=(S1 (G1 xu 0) (B1 0 (.loop (S1 (G1 xu 1) (S1 (C1 12 K1 (X1 0)) (S1 (B1 1 (S1 (G1 xu 2) (S1 (G1 xu 3) (C1 22 .ret K1)))) (G1 xu 4))))))):=kr
theorem CD:drawInfo (Z dC 20)=some [(0,6)]:=kr
theorem VD:dC=(S1 (G1 dC 0) (S1 (G1 dC 1) (S1 (S1 (G1 dC 2) (C1 19 (S1 (G1 dC 3) .ret) K1)) (S1 (G1 dC 4) (S1 (G1 dC 5) (S1 (S1 (G1 dC 6) (B1 0 (.rangeFunc (.tmp 31) #[32] (G1 dC 7) (B1 1 (S1 (G1 dC 8) (B1 2 (.loop (S1 (G1 dC 9) (S1 (C1 42 K1 (X1 2)) (S1 (B1 3 (S1 (G1 dC 10) (S1 (G1 dC 11) (B1 4 (.loop (S1 (S1 (G1 dC 12) (C1 64 K1 (X1 4))) (S1 (B1 5 (G2 dC 14)) (G1 dC 13)))))))) (G1 dC 15))))))))))) (S1 (S1 (G1 dC 16) (B1 6 (.loop (S1 (G1 dC 17) (S1 (C1 83 K1 (X1 6)) (S1 (B1 7 (S1 (G1 dC 18) (S1 (G1 dC 19) (G2 dC 20)))) (G1 dC 21))))))) (S1 (G1 dC 22) .ret)))))))):=kr
noncomputable def Em:T (Func×Code):=
 (.node none (.node none (.node none (.node none (.node none (.node none (.node none (.node none (.node (some (Tryz.f255,DC)) .leaf .leaf) .leaf) (.node (some (Tryz.f191,Dj)) .leaf .leaf)) (.node (some (Tryz.f95,vJ)) .leaf (.node (some (Tryz.f223,Q7)) .leaf .leaf))) (.node none (.node none (.node (some (Tryz.f143,Dd)) .leaf .leaf) .leaf) (.node none (.node (some (Tryz.f175,pU)) .leaf .leaf) (.node (some (Tryz.f239,A6)) .leaf .leaf)))) (.node (some (Tryz.f23,Sj)) (.node (some (Tryz.f39,dC)) (.node (some (Tryz.f71,DW)) (.node (some (Tryz.f135,w9)) .leaf .leaf) (.node (some (Tryz.f199,xc)) .leaf .leaf)) (.node none .leaf (.node (some (Tryz.f231,sE)) .leaf .leaf))) (.node none (.node (some (Tryz.f87,Sw)) (.node (some (Tryz.f151,fh)) .leaf .leaf) .leaf) (.node (some (Tryz.f119,Da)) (.node (some (Tryz.f183,Q1)) .leaf .leaf) (.node (some (Tryz.f247,DA)) .leaf .leaf))))) (.node none (.node none (.node none (.node none (.node (some (Tryz.f131,QT)) .leaf .leaf) (.node (some (Tryz.f195,eS)) .leaf .leaf)) (.node none .leaf (.node (some (Tryz.f227,Dr)) .leaf .leaf))) (.node (some (Tryz.f51,hD)) (.node (some (Tryz.f83,uk)) .leaf .leaf) (.node (some (Tryz.f115,mh)) (.node (some (Tryz.f179,QV)) .leaf .leaf) (.node (some (Tryz.f243,sG)) .leaf .leaf)))) (.node none (.node none (.node none (.node (some (Tryz.f139,fX)) .leaf .leaf) .leaf) (.node none .leaf (.node (some (Tryz.f235,o7)) .leaf .leaf))) (.node none (.node none (.node (some (Tryz.f155,De)) .leaf .leaf) .leaf) (.node none (.node (some (Tryz.f187,Q4)) .leaf .leaf) (.node (some (Tryz.f251,Re)) .leaf .leaf)))))) (.node none (.node none (.node (some (Tryz.f17,Se)) (.node (some (Tryz.f33,Sk)) (.node (some (Tryz.f65,dh)) (.node (some (Tryz.f129,QS)) (.node (some (Tryz.f257,DE)) .leaf .leaf) .leaf) (.node (some (Tryz.f193,Dl)) .leaf .leaf)) (.node (some (Tryz.f97,n8)) .leaf (.node (some (Tryz.f225,Q9)) .leaf .leaf))) (.node none .leaf (.node none (.node (some (Tryz.f177,Dg)) .leaf .leaf) (.node (some (Tryz.f241,Rc)) .leaf .leaf)))) (.node none (.node (some (Tryz.f41,Sm)) (.node (some (Tryz.f73,DX)) (.node (some (Tryz.f137,lI)) .leaf .leaf) (.node (some (Tryz.f201,zi)) .leaf .leaf)) (.node (some (Tryz.f105,w8)) .leaf (.node (some (Tryz.f233,Dw)) .leaf .leaf))) (.node none (.node (some (Tryz.f89,D0)) (.node (some (Tryz.f153,dR)) .leaf .leaf) .leaf) (.node none (.node (some (Tryz.f185,Q2)) .leaf .leaf) .leaf)))) (.node none (.node none (.node none (.node (some (Tryz.f69,DV)) (.node (some (Tryz.f133,zc)) .leaf .leaf) (.node (some (Tryz.f197,eL)) .leaf .leaf)) (.node none .leaf (.node (some (Tryz.f229,Dt)) .leaf .leaf))) (.node (some (Tryz.f53,Sq)) (.node (some (Tryz.f85,sM)) (.node (some (Tryz.f149,sB)) .leaf .leaf) .leaf) (.node (some (Tryz.f117,QQ)) (.node (some (Tryz.f181,QY)) .leaf .leaf) (.node (some (Tryz.f245,vA)) .leaf .leaf)))) (.node none (.node none (.node none (.node (some (Tryz.f141,tW)) .leaf .leaf) .leaf) (.node none .leaf (.node (some (Tryz.f237,Dx)) .leaf .leaf))) (.node (some (Tryz.f61,xu)) (.node (some (Tryz.f93,Sx)) .leaf .leaf) (.node none (.node (some (Tryz.f189,A5)) .leaf .leaf) (.node (some (Tryz.f253,n6)) .leaf .leaf))))))) (.node none (.node none (.node none (.node none (.node none (.node (some (Tryz.f64,Su)) (.node none (.node (some (Tryz.f256,DD)) .leaf .leaf) .leaf) (.node (some (Tryz.f192,Dk)) .leaf .leaf)) (.node (some (Tryz.f96,D1)) .leaf (.node (some (Tryz.f224,Q8)) .leaf .leaf))) (.node none (.node none (.node (some (Tryz.f144,A4)) .leaf .leaf) .leaf) (.node none (.node (some (Tryz.f176,zh)) .leaf .leaf) (.node (some (Tryz.f240,A7)) .leaf .leaf)))) (.node none (.node none (.node (some (Tryz.f72,nr)) (.node (some (Tryz.f136,zd)) .leaf .leaf) (.node (some (Tryz.f200,Dn)) .leaf .leaf)) (.node none (.node (some (Tryz.f168,tY)) .leaf .leaf) (.node (some (Tryz.f232,Dv)) .leaf .leaf))) (.node none (.node none (.node (some (Tryz.f152,QU)) .leaf .leaf) .leaf) (.node none (.node (some (Tryz.f184,Dh)) .leaf .leaf) .leaf)))) (.node none (.node (some (Tryz.f20,Sg)) (.node (some (Tryz.f36,Sl)) (.node none (.node (some (Tryz.f132,ra)) (.node (some (Tryz.f260,sI)) .leaf .leaf) .leaf) (.node (some (Tryz.f196,mj)) .leaf .leaf)) (.node (some (Tryz.f100,C')) .leaf (.node (some (Tryz.f228,Ds)) .leaf .leaf))) (.node (some (Tryz.f52,Sp)) (.node (some (Tryz.f84,xv)) .leaf .leaf) (.node (some (Tryz.f116,sw)) (.node (some (Tryz.f180,QW)) .leaf .leaf) (.node (some (Tryz.f244,Dz)) .leaf .leaf)))) (.node (some (Tryz.f28,eU)) (.node none (.node none (.node (some (Tryz.f140,ff)) .leaf .leaf) .leaf) (.node none .leaf (.node (some (Tryz.f236,sF)) .leaf .leaf))) (.node (some (Tryz.f60,Sr)) (.node none (.node (some (Tryz.f156,Df)) .leaf .leaf) .leaf) (.node none (.node (some (Tryz.f188,Q5)) .leaf .leaf) (.node (some (Tryz.f252,sH)) .leaf .leaf)))))) (.node none (.node none (.node (some (Tryz.f18,Sf)) (.node none (.node (some (Tryz.f66,Sv)) (.node (some (Tryz.f130,sx)) (.node (some (Tryz.f258,xf)) .leaf .leaf) .leaf) (.node (some (Tryz.f194,Dm)) .leaf .leaf)) (.node none .leaf (.node (some (Tryz.f226,Ra)) .leaf .leaf))) (.node (some (Tryz.f50,So)) (.node (some (Tryz.f82,DZ)) .leaf .leaf) (.node none (.node (some (Tryz.f178,rk)) .leaf .leaf) (.node (some (Tryz.f242,xd)) .leaf .leaf)))) (.node (some (Tryz.f26,ej)) (.node none (.node none (.node (some (Tryz.f138,Db)) .leaf .leaf) (.node (some (Tryz.f202,rm)) .leaf .leaf)) (.node none .leaf (.node (some (Tryz.f234,zj)) .leaf .leaf))) (.node none (.node (some (Tryz.f90,js)) (.node (some (Tryz.f154,fY)) .leaf .leaf) .leaf) (.node none (.node (some (Tryz.f186,Q3)) .leaf .leaf) .leaf)))) (.node none (.node (some (Tryz.f22,Si)) (.node none (.node (some (Tryz.f70,pY)) (.node (some (Tryz.f134,sy)) .leaf .leaf) (.node (some (Tryz.f198,iW)) .leaf .leaf)) (.node none (.node (some (Tryz.f166,zg)) .leaf .leaf) (.node (some (Tryz.f230,Du)) .leaf .leaf))) (.node (some (Tryz.f54,DU)) .leaf (.node (some (Tryz.f118,QR)) (.node (some (Tryz.f182,QZ)) .leaf .leaf) (.node (some (Tryz.f246,tZ)) .leaf .leaf)))) (.node none (.node none (.node none (.node (some (Tryz.f142,Dc)) .leaf .leaf) .leaf) (.node (some (Tryz.f110,sv)) (.node (some (Tryz.f174,rj)) .leaf .leaf) (.node (some (Tryz.f238,Dy)) .leaf .leaf))) (.node (some (Tryz.f62,Ss)) (.node (some (Tryz.f94,Sy)) (.node (some (Tryz.f158,sC)) .leaf .leaf) (.node (some (Tryz.f222,Q6)) .leaf .leaf)) (.node none (.node (some (Tryz.f190,Di)) .leaf .leaf) (.node (some (Tryz.f254,DB)) .leaf .leaf))))))))
def HB(p:Nat->Func×Code->Prop):(Nat->Nat)->T (Func×Code)->Prop
 |_,.leaf=>True
 |g,.node v l r=>(∀ a,v=some a->p (g 0) a)/\HB p (fun i=>g (2*i+1)) l/\HB p (fun i=>g (2*i+2)) r
theorem JJ{p:Nat->Func×Code->Prop}:∀ {t:T (Func×Code)} {g:Nat->Nat},HB p g t->∀ i a,t.get i=some a->p (g i) a
 | .leaf,_,_,i,a,h=>by cases h
 | .node v l r,g,⟨h1,h2,h3⟩,i,a,h=>by
  rw[T.vp] at h;by_cases h0:i=0
  .subst h0;exact h1 a (by simpa using h)
  .rw[if_neg h0] at h;by_cases C:i % 2=1
   .rw[if_pos C] at h;have:=JJ h2 _ a h;have e:2*(i / 2)+1=i:=by omega
    simpa only[e] using this
   .rw[if_neg C] at h;have:=JJ h3 _ a h;have e:2*(i / 2 - 1)+2=i:=by omega
    simpa only[e] using this
theorem e0{p:Func×Code->Prop}:∀ a,(none:Option (Func×Code))=some a->p a:=fun _ h=>by cases h
theorem e1{i:Nat}{fn:Func}{c:Code}(h:mE prog i fn c):∀ a,some (fn,c)=some a->mE prog i a.1 a.2:=fun _ e=>by cases e;exact h
theorem acf:HB (fun i a=>mE prog i a.1 a.2) (fun i=>i) Em:=
 ⟨e0,⟨e0,⟨e0,⟨e0,⟨e0,⟨e0,⟨e0,⟨e0,⟨e1 T9,trivial,trivial⟩,trivial⟩,⟨e1 TC,trivial,trivial⟩⟩,⟨e1 U9,trivial,⟨e1 age,trivial,trivial⟩⟩⟩,⟨e0,⟨e0,⟨e1 TO,trivial,trivial⟩,trivial⟩,⟨e0,⟨e1 Uq,trivial,trivial⟩,⟨e1 K2,trivial,trivial⟩⟩⟩⟩,⟨e1 ai5,⟨e1 VG,⟨e1 Vd,⟨e1 TG,trivial,trivial⟩,⟨e1 To,trivial,trivial⟩⟩,⟨e0,trivial,⟨e1 KO,trivial,trivial⟩⟩⟩,⟨e0,⟨e1 ajf,⟨e1 Tl,trivial,trivial⟩,trivial⟩,⟨e1 S9,⟨e1 af9,trivial,trivial⟩,⟨e1 Th,trivial,trivial⟩⟩⟩⟩⟩,⟨e0,⟨e0,⟨e0,⟨e0,⟨e1 af3,trivial,trivial⟩,⟨e1 Un,trivial,trivial⟩⟩,⟨e0,trivial,⟨e1 Ti,trivial,trivial⟩⟩⟩,⟨e1 LM,⟨e1 Vr,trivial,trivial⟩,⟨e1 TI,⟨e1 af5,trivial,trivial⟩,⟨e1 Tb,trivial,trivial⟩⟩⟩⟩,⟨e0,⟨e0,⟨e0,⟨e1 Up,trivial,trivial⟩,trivial⟩,⟨e0,trivial,⟨e1 T0,trivial,trivial⟩⟩⟩,⟨e0,⟨e0,⟨e1 Tn,trivial,trivial⟩,trivial⟩,⟨e0,⟨e1 agb,trivial,trivial⟩,⟨e1 agk,trivial,trivial⟩⟩⟩⟩⟩⟩,⟨e0,⟨e0,⟨e1 ai1,⟨e1 ai6,⟨e1 Vn,⟨e1 af2,⟨e1 T7,trivial,trivial⟩,trivial⟩,⟨e1 TA,trivial,trivial⟩⟩,⟨e1 U1,trivial,⟨e1 agh,trivial,trivial⟩⟩⟩,⟨e0,trivial,⟨e0,⟨e1 TJ,trivial,trivial⟩,⟨e1 agj,trivial,trivial⟩⟩⟩⟩,⟨e0,⟨e1 ai8,⟨e1 Ve,⟨e1 Ut,trivial,trivial⟩,⟨e1 Tm,trivial,trivial⟩⟩,⟨e1 Ur,trivial,⟨e1 KZ,trivial,trivial⟩⟩⟩,⟨e0,⟨e1 UY,⟨e1 TE,trivial,trivial⟩,trivial⟩,⟨e0,⟨e1 af',trivial,trivial⟩,trivial⟩⟩⟩⟩,⟨e0,⟨e0,⟨e0,⟨e1 Vc,⟨e1 TF,trivial,trivial⟩,⟨e1 Tu,trivial,trivial⟩⟩,⟨e0,trivial,⟨e1 Tw,trivial,trivial⟩⟩⟩,⟨e1 aja,⟨e1 Vl,⟨e1 TX,trivial,trivial⟩,trivial⟩,⟨e1 af0,⟨e1 af7,trivial,trivial⟩,⟨e1 Tc,trivial,trivial⟩⟩⟩⟩,⟨e0,⟨e0,⟨e0,⟨e1 TK,trivial,trivial⟩,trivial⟩,⟨e0,trivial,⟨e1 TV,trivial,trivial⟩⟩⟩,⟨e1 VB,⟨e1 ajg,trivial,trivial⟩,⟨e0,⟨e1 Ua,trivial,trivial⟩,⟨e1 TZ,trivial,trivial⟩⟩⟩⟩⟩⟩⟩,⟨e0,⟨e0,⟨e0,⟨e0,⟨e0,⟨e1 ajd,⟨e0,⟨e1 TU,trivial,trivial⟩,trivial⟩,⟨e1 S6,trivial,trivial⟩⟩,⟨e1 U2,trivial,⟨e1 agf,trivial,trivial⟩⟩⟩,⟨e0,⟨e0,⟨e1 TP,trivial,trivial⟩,trivial⟩,⟨e0,⟨e1 TS,trivial,trivial⟩,⟨e1 Uc,trivial,trivial⟩⟩⟩⟩,⟨e0,⟨e0,⟨e1 Vf,⟨e1 TM,trivial,trivial⟩,⟨e1 S',trivial,trivial⟩⟩,⟨e0,⟨e1 TT,trivial,trivial⟩,⟨e1 Tx,trivial,trivial⟩⟩⟩,⟨e0,⟨e0,⟨e1 af4,trivial,trivial⟩,trivial⟩,⟨e0,⟨e1 Tj,trivial,trivial⟩,trivial⟩⟩⟩⟩,⟨e0,⟨e1 ai3,⟨e1 ai7,⟨e0,⟨e1 TQ,⟨e1 KQ,trivial,trivial⟩,trivial⟩,⟨e1 Ud,trivial,trivial⟩⟩,⟨e1 S7,trivial,⟨e1 S5,trivial,trivial⟩⟩⟩,⟨e1 ai',⟨e1 Vj,trivial,trivial⟩,⟨e1 TW,⟨e1 af6,trivial,trivial⟩,⟨e1 Uo,trivial,trivial⟩⟩⟩⟩,⟨e1 LU,⟨e0,⟨e0,⟨e1 Us,trivial,trivial⟩,trivial⟩,⟨e0,trivial,⟨e1 K4,trivial,trivial⟩⟩⟩,⟨e1 ajb,⟨e0,⟨e1 Td,trivial,trivial⟩,trivial⟩,⟨e0,⟨e1 agc,trivial,trivial⟩,⟨e1 KN,trivial,trivial⟩⟩⟩⟩⟩⟩,⟨e0,⟨e0,⟨e1 ai2,⟨e0,⟨e1 aje,⟨e1 KR,⟨e1 Tg,trivial,trivial⟩,trivial⟩,⟨e1 Tz,trivial,trivial⟩⟩,⟨e0,trivial,⟨e1 agi,trivial,trivial⟩⟩⟩,⟨e1 ai9,⟨e1 Va,trivial,trivial⟩,⟨e0,⟨e1 Tk,trivial,trivial⟩,⟨e1 Ta,trivial,trivial⟩⟩⟩⟩,⟨e1 Hr,⟨e0,⟨e0,⟨e1 TR,trivial,trivial⟩,⟨e1 Te,trivial,trivial⟩⟩,⟨e0,trivial,⟨e1 K0,trivial,trivial⟩⟩⟩,⟨e0,⟨e1 BE,⟨e1 TD,trivial,trivial⟩,trivial⟩,⟨e0,⟨e1 aga,trivial,trivial⟩,trivial⟩⟩⟩⟩,⟨e0,⟨e1 ai4,⟨e0,⟨e1 Vg,⟨e1 TH,trivial,trivial⟩,⟨e1 Tp,trivial,trivial⟩⟩,⟨e0,⟨e1 T',trivial,trivial⟩,⟨e1 TB,trivial,trivial⟩⟩⟩,⟨e1 Vb,trivial,⟨e1 af1,⟨e1 af8,trivial,trivial⟩,⟨e1 Tf,trivial,trivial⟩⟩⟩⟩,⟨e0,⟨e0,⟨e0,⟨e1 TN,trivial,trivial⟩,trivial⟩,⟨e1 KY,⟨e1 TL,trivial,trivial⟩,⟨e1 T8,trivial,trivial⟩⟩⟩,⟨e1 ajc,⟨e1 ajh,⟨e1 KP,trivial,trivial⟩,⟨e1 agd,trivial,trivial⟩⟩,⟨e0,⟨e1 Ty,trivial,trivial⟩,⟨e1 S8,trivial,trivial⟩⟩⟩⟩⟩⟩⟩⟩
theorem Kj(f:FuncId)(fn:Func)(c:Code)(h:Em.get f=some (fn,c)):mE prog f fn c:=JJ acf f (fn,c) h
end Go.Proofs.Tryz.K
namespace Go.Abs
open Go.ChangeShapes Go.WideShapes
inductive Sh
 |int (k:IntKind)
 |bool
 |str
 |sl (s:Sh)
 |unit
 |pair (a b:Sh)
def Sh.val:Sh->Type
 | .int _=>Int
 | .bool=>Bool
 | .str=>ByteArray
 | .sl s=>List s.val
 | .unit=>Unit
 | .pair a b=>a.val×b.val
def Sh.size:Sh->Nat
 | .unit=>0
 | .pair a b=>a.size+b.size
 |_=>1
def Sh.enc:(s:Sh)->s.val->List D
 | .int k,n=>[.s (.int k n)]
 | .bool,b=>[.s (.bool b)]
 | .str,b=>[.s (.string b)]
 | .sl s,l=>[.sl (List.flatMap s.enc l) (List.length l)]
 | .unit,_=>[]
 | .pair a b,x=>a.enc x.1++b.enc x.2
def Sh.arg:(s:Sh)->s.val->D
 | .int k,n=>.s (.int k n)
 | .bool,b=>.s (.bool b)
 | .str,b=>.s (.string b)
 | .sl s,l=>.sl (List.flatMap s.enc l) (List.length l)
 | .unit,_=>.agg []
 | .pair a b,x=>.agg (a.enc x.1++b.enc x.2)
def Sh.ok:(s:Sh)->s.val->Prop
 | .int k,n=>(Lit.int k n).wf=true
 | .bool,_=>True
 | .str,b=>ByteArray.size b<=maxLen
 | .sl s,l=>∀ x:s.val,List.Mem x l->s.ok x
 | .unit,_=>True
 | .pair a b,x=>a.ok x.1/\b.ok x.2
theorem Sh.enc_length:∀ (s:Sh) (x:s.val),(s.enc x).length=s.size
 | .int _,_ | .bool,_ | .str,_ | .sl _,_ | .unit,_=>rfl
 | .pair a b,x=>by simp[Sh.enc,Sh.size,Sh.enc_length a,Sh.enc_length b]
section
variable(P:Program)
def shFs(C:TypeId->Option Sh):Nat->List Field->Option Sh
 |_,[]=>some .unit
 |off,f::fs=>if f.offset=off then match C f.type,shFs C (off+P.cellsOf f.type) fs with
  |some a,some b=>some (.pair a b)
  |_,_=>none
  else none
def shT:Nat->TypeId->Option Sh
 |0,_=>none
 |n+1,t=>match P.underlying t with
  |some .bool=>if P.cellsOf t=1 then some .bool else none
  |some (.int k)=>if P.cellsOf t=1 then some (.int k) else none
  |some .string=>if P.cellsOf t=1 then some .str else none
  |some (.slice e)=>if P.cellsOf t=1/\0<P.cellsOf e then(shT n e).map .sl else none
  |some (.struct fs)=>match shFs P (shT n) 0 fs.toList with
   |some s=>if s.size=P.cellsOf t then some s else none
   |none=>none
  |_=>none
end
section
variable{P:Program}{H:Type}{ec:TypeId×Value->H}{w:World}{base:Nat}{spare:Nat->Bool}{held:Bool}
def Holds(w:World)(ds:List D)(cs:List Value):Prop:=ds.length=cs.length/\∀ (k:Nat) (d:D) (u:Value),ds[k]? =some d->cs[k]? =some u->R (fun _=>False) noRows w d u/\u.oneCell'=true
theorem Holds.app{ds J:List D}{cs cs':List Value}(h:Holds w ds cs)(h':Holds w J cs'):Holds w (ds++J) (cs++cs'):=by
 refine⟨by simp[h.1,h'.1],fun k d u hd C=>?_⟩;by_cases hk:k<ds.length
 .rw[List.getElem?_append_left hk] at hd;rw[List.getElem?_append_left (by have:=h.1;omega)] at C;exact h.2 k d u hd C
 .rw[List.getElem?_append_right oG] at hd;rw[List.getElem?_append_right (by have:=h.1;omega), <- h.1] at C;exact h'.2 (k - ds.length) d u hd C
theorem Holds.one{d:D}{u:Value}(h:R (fun _=>False) noRows w d u)(h':u.oneCell'=true):Holds w [d] [u]:=⟨rfl,fun k d' J hd C=>by
 cases k with
 |zero=>simp at hd C;subst hd C;exact⟨h,h'⟩
 |succ k=>simp at hd⟩
theorem Holds.nil:Holds w [] []:=⟨rfl,oS⟩
theorem shFs_nil{C:TypeId->Option Sh}{off:Nat}{s:Sh}(h:shFs P C off []=some s):s=.unit:=by
 simp only[shFs,aQ] at h;exact h.symm
theorem shFs_cons{C:TypeId->Option Sh}{off:Nat}{f:Field}{fs:List Field}{s:Sh}(h:shFs P C off (f::fs)=some s):
 f.offset=off/\∃ a b,C f.type=some a/\shFs P C (off+P.cellsOf f.type) fs=some b/\s=.pair a b:=by
 simp only[shFs] at h;split at h
 .rename_i J;split at h
  .rename_i a b ha hb;simp only[aQ] at h;exact⟨J,a,b,ha,hb,h.symm⟩
  .cases h
 .cases h
theorem shT_size:∀ (n:Nat) (t:TypeId) (s:Sh),shT P n t=some s->s.size=P.cellsOf t
 |0,_,_,h=>by cases h
 |n+1,t,s,h=>by
  unfold shT at h;split at h
  .split at h
   .rename_i h1;simp only[aQ] at h;subst h;exact h1.symm
   .cases h
  .split at h
   .rename_i h1;simp only[aQ] at h;subst h;exact h1.symm
   .cases h
  .split at h
   .rename_i h1;simp only[aQ] at h;subst h;exact h1.symm
   .cases h
  .split at h
   .rename_i h1;simp only[dw] at h;obtain⟨a,_,rfl⟩:=h;exact h1.1.symm
   .cases h
  .split at h
   .split at h
    .rename_i h1;simp only[aQ] at h;subst h;exact h1
    .cases h
   .cases h
  .cases h
def Reads(P:Program)(w:World)(C:TypeId->Option Sh)(rd:TypeId->List Value->Option (DataW H×List MemPlace)):Prop:=
 ∀ t s cs x,C t=some s->cs.length=P.cellsOf t->rd t cs=some x->∃ v:s.val,s.ok v/\Holds w (s.enc v) cs
theorem reads_fs{J:TypeId->Option Sh}{rd:TypeId->List Value->Option (DataW H×List MemPlace)}(U:∀ t s,J t=some s->s.size=P.cellsOf t)(h:Reads P w J rd){cs:List Value}:∀ (fs:List Field) (off:Nat) (s:Sh),shFs P J off fs=some s->off+s.size<=cs.length->
 (∀ f∈fs,∃ x,rd f.type ((cs.drop f.offset).take (P.cellsOf f.type))=some x)->∃ v:s.val,s.ok v/\Holds w (s.enc v) ((cs.drop off).take s.size)
 |[],off,s,hs,_,_=>by
  obtain rfl:=shFs_nil hs;exact⟨(),trivial,by simp[Sh.enc,Sh.size,Holds]⟩
 |f::fs,off,s,hs,hl,hr=>by
  obtain⟨oe,a,b,ha,hb,rfl⟩:=shFs_cons hs;obtain⟨x,hx⟩:=hr f oS;have mK:off+(a.size+b.size)<=cs.length:=hl;have cA:=U _ _ ha;rw[oe] at hx;obtain⟨v,wJ,hv⟩:=h f.type a _ x ha (by simp only[List.length_take,List.length_drop];omega) hx;rw[<- cA] at hb hv;obtain⟨X,C,Mh⟩:=reads_fs U h fs (off+a.size) b hb oG fun g hg=>hr g (by simp[hg]);refine⟨(v,X),⟨wJ,C⟩,?_⟩;have:=hv.app Mh;show Holds w (a.enc v++b.enc X) ((cs.drop off).take (a.size+b.size));rw[List.take_add,List.drop_drop];exact this
theorem cells_get{a:Addr}{n:Nat}{cs:List Value}(h:w.cells? base a n=some cs):cs.length=n/\∀ k,k<n->w.cell? (a.add k)=cs[k]? /\k<cs.length:=by
 unfold World.cells? at h;split at h
 .have hl:cs.length=n:=by simpa using mapM_some_length h
  exact⟨hl,fun k hk=>⟨mapM_some_get h k k (by simp[hk]),oG⟩⟩
 .cases h
theorem choose_list{α β:Type}{p:Nat->α->β->Prop}:∀ (n:Nat) (l:Nat->α),(∀ i,i<n->∃ y,p i (l i) y)->∃ ys:List β,ys.length=n/\∀ i (h:i<n) y,ys[i]? =some y->p i (l i) y
 |0,_,_=>⟨[],rfl,fun i h=>by omega⟩
 |n+1,l,h=>by
  obtain⟨ys,h1,h2⟩:=choose_list n l fun i hi=>h i oG;obtain⟨y,hy⟩:=h n oG;refine⟨ys++[y],by simp[h1],fun i hi z C=>?_⟩;by_cases J:i<n
  .rw[List.getElem?_append_left oG] at C;exact h2 i J z C
  .have:i=n:=by omega
   subst this;rw[List.getElem?_append_right oG] at C;simp[h1] at C;subst C;exact hy
theorem flat_get{α:Type}{f:α->List D}{sz:Nat}(C:∀ x,(f x).length=sz):∀ (l:List α) (i j:Nat),j<sz->(l.flatMap f)[i*sz+j]? =(l[i]?).bind fun x=>(f x)[j]?
 |[],i,j,_=>by simp
 |x::l,0,j,h=>by simp[List.getElem?_append_left (show j<(f x).length by rw[C];exact h)]
 |x::l,i+1,j,h=>by
  rw[List.flatMap_cons,List.getElem?_append_right (by rw[C,Nat.add_mul];omega)];have:(i+1)*sz+j - (f x).length=i*sz+j:=by rw[C,Nat.add_mul];omega
  rw[this,flat_get C l i j h];simp
theorem reads_T:∀ (gz n:Nat),Reads P w (shT P n) (DataW.trod ec P w base spare held gz)
 |gz,0,t,s,cs,x,h,_,_=>by cases h
 |gz,n+1,t,s,cs,x,h,hl,hr=>by
  have cA:=shT_size _ _ _ h;unfold shT at h;split at h
  .rename_i ht;split at h
   .simp only[aQ] at h;subst h;obtain⟨b,rfl,_⟩:=DataW.trod_bool ht hr;exact⟨b,trivial,.one (.s _ rfl) rfl⟩
   .cases h
  .rename_i k ht;split at h
   .simp only[aQ] at h;subst h;obtain⟨b,rfl,_,hw⟩:=DataW.trod_int ht hr;exact⟨b,hw,.one (.s _ rfl) rfl⟩
   .cases h
  .rename_i ht;split at h
   .simp only[aQ] at h;subst h;obtain⟨b,rfl,_,hw⟩:=DataW.trod_string ht hr;exact⟨b,hw,.one (.s _ rfl) rfl⟩
   .cases h
  .rename_i e ht;split at h
   .rename_i hc;simp only[dw] at h;obtain⟨a,ha,rfl⟩:=h;have haz:=shT_size _ _ _ ha;rcases DataW.trod_slice ht hr with⟨rfl,_⟩|⟨U,len,cap,Uz,rest,X,rfl,rfl,_,hb,hlc,hm,hlen,E8,_,_⟩
    .exact⟨([]:List a.val),(fun x h=>nomatch h),.one (by exact .sln none 0) rfl⟩
    .have V1:∀ i,i<len->∃ C:List Value,w.cells? base (U.add (i*P.cellsOf e)) (P.cellsOf e)=some C/\∃ y,DataW.trod ec P w base spare held X e C=some y:=fun i hi=>by
      have:=E8 i hi;have hg:Uz[i]? =some Uz[i]:=by simp[hlen,hi]
      rw[hg,Option.bind_eq_some_iff] at this;obtain⟨C,h1,h2⟩:=this;exact⟨C,h1,_,h2⟩
     have EE:∀ i,i<len->∃ v:a.val,a.ok v/\∃ C,w.cells? base (U.add (i*P.cellsOf e)) (P.cellsOf e)=some C/\Holds w (a.enc v) C:=fun i hi=>by
      obtain⟨C,h1,y,h2⟩:=V1 i hi;obtain⟨v,wJ,hv⟩:=reads_T X n e a C y ha (cells_get h1).1 h2;exact⟨v,wJ,C,h1,hv⟩
     obtain⟨vs,rS,Ao⟩:=choose_list (p:=fun(i:Nat) (_:Nat) (v:a.val)=>a.ok v/\∃ C,w.cells? base (U.add (i*P.cellsOf e)) (P.cellsOf e)=some C/\Holds w (a.enc v) C) len (fun i=>i) EE
     have ajl:∀ x:a.val,x∈vs->a.ok x:=fun x hm=>by
      obtain⟨i,hx⟩:=dt hm;exact(Ao i (by have:=(bL.1 hx).1;omega) x hx).1
     cases len with
     |zero=>
      have:vs=[]:=List.length_eq_zero_iff.1 rS;subst this;exact⟨([]:List a.val),(fun x h=>nomatch h),.one (by exact .sln _ cap) rfl⟩
     |succ l=>
      obtain⟨C,h0,_⟩:=V1 0 oG;have Cr:=(cells_get h0).2 0 hc.2;simp only[Nat.zero_mul,Addr.add,if_true] at Cr;obtain⟨b,o,sp⟩:=U;have GM:∃ u,w.cell? ⟨b,o,sp⟩=some u:=⟨C[0],by rw[Cr.1];simp[Cr.2]⟩
      obtain⟨u0,J⟩:=GM;unfold World.cell? at J
      have gY:b<w.heap.size:=by
       cases hh:w.heap[b]? with
       |none=>rw[hh] at J;cases J
       |some x=>exact(Array.getElem?_eq_some_iff.1 hh).1
      have oV:sp=none:=by
       cases sp with
       |none=>rfl
       |some q=>
        simp only at J;split at J
        .simp at J
        .cases J
      subst oV
      have ajm:∀ i j,((⟨b,o,none⟩:Addr).add i).add j=⟨b,o+(i+j),none⟩:=fun i j=>by
       unfold Addr.add;split<;>split<;>simp_all;omega
      have hk:∀ k d,(vs.flatMap a.enc)[k]? =some d->∃ u,w.cell? ⟨b,o+k,none⟩=some u/\R (fun _=>False) noRows w d u/\u.oneCell'=true:=fun k d hd=>by
       have ik:0<a.size:=by omega
       have EN:k / a.size*a.size+k % a.size=k:=by rw[Nat.mul_comm];exact Nat.div_add_mod k a.size
       have Nq:=Nat.mod_lt k ik;rw[<- EN,flat_get a.enc_length _ _ _ Nq,Option.bind_eq_some_iff] at hd;obtain⟨x,hx,hd⟩:=hd
       have hi:k / a.size<l+1:=by
        have:=(bL.1 hx).1;omega
       obtain⟨_,C,AB,hho⟩:=Ao _ hi x hx;obtain⟨h1,h2⟩:=(cells_get AB).2 (k % a.size) oG;rw[ajm, <- haz,EN] at h1;refine⟨C[k % a.size],by rw[h1];simp[h2],hho.2 _ d _ hd (by simp[h2])⟩
      refine⟨vs,fun x h=>ajl x h,.one (by
       have Fk:(List.length vs)=l+1:=rS;show R _ _ _ (.sl (List.flatMap a.enc vs) (List.length vs)) _;rw[Fk];refine .sl _ _ b o cap (fun k=>(w.cell? ⟨b,o+k,none⟩).getD undef) oS (fun _ _ h=>by cases h) gY hlc hm (fun k qA=>?_) fun k d hd=>?_
       .obtain⟨u,h1,_,h3⟩:=hk k _ (aG qA);simp[h1,h3]
       .obtain⟨u,h1,h2,_⟩:=hk k d hd
        simpa[h1] using h2) rfl⟩
   .cases h
  .rename_i fs ht;obtain⟨xs,X,rfl,_,_,WX,uT⟩:=DataW.trod_struct ht hr;split at h
   .rename_i s' eu;split at h
    .rename_i hs;simp only[aQ] at h;subst h
     obtain⟨v,wJ,hv⟩:=reads_fs (P:=P) (w:=w) (fun t s=>shT_size n t s) (reads_T X n) (cs:=cs) fs.toList 0 s' eu oG fun f hf=>by
      obtain⟨i,hi,rfl⟩:=Array.getElem_of_mem (Array.mem_toList_iff.1 hf);have:=uT i fs[i] (by simp[hi]);exact⟨xs[i],by rw[this];simp[WX,hi]⟩
     refine⟨v,wJ,?_⟩;rw[List.drop_zero,dn oG] at hv;exact hv
    .cases h
   .cases h
  .cases h
theorem arg_R{r:Reach}{b0:Nat}{t:TypeId}{v:Value}{d:DataW H}{ps:List MemPlace}{n:Nat}{s:Sh}(C:shT P n t=some s)(hv:Value.okWide P w r b0 t v)(hd:DataW.Trod ec P w base spare held t v d ps):
 ∃ x:s.val,s.ok x/\R (fun _=>False) noRows w (s.arg x) v:=by
 cases n with
 |zero=>cases C
 |succ n=>
  obtain⟨gz,hf⟩:=hd;have hz:=shT_size _ _ _ C;have key:v.cells.toList.length=P.cellsOf t->∃ x:s.val,s.ok x/\Holds w (s.enc x) v.cells.toList:=fun hl=>reads_T gz (n+1) t s _ _ C hl hf;unfold shT at C;split at C
  .rename_i ht;obtain⟨b,rfl⟩:=okWide_bool ht hv;split at C
   .simp only[aQ] at C;subst C;exact⟨b,trivial,.s _ rfl⟩
   .cases C
  .rename_i k ht;obtain⟨b,rfl⟩:=okWide_int ht hv;split at C
   .simp only[aQ] at C;subst C;obtain⟨c,hc,_,U⟩:=DataW.trod_int ht hf;simp[Value.cells] at hc;subst hc;exact⟨b,U,.s _ rfl⟩
   .cases C
  .rename_i ht;obtain⟨b,rfl⟩:=okWide_string ht hv;split at C
   .simp only[aQ] at C;subst C;obtain⟨c,hc,_,U⟩:=DataW.trod_string ht hf;simp[Value.cells] at hc;subst hc;exact⟨b,U,.s _ rfl⟩
   .cases C
  .rename_i e ht;obtain⟨a,len,cap,rfl⟩:=okWide_slice ht hv;split at C
   .rename_i h1;simp only[dw] at C;obtain⟨q,_,rfl⟩:=C;obtain⟨x,X,hx⟩:=key h1.1.symm;exact⟨x,X,(hx.2 0 _ _ rfl rfl).1⟩
   .cases C
  .rename_i fs ht;obtain⟨cs,rfl,cA⟩:=okWide_struct ht hv;obtain⟨x,X,hx⟩:=key (by simpa[Value.cells] using cA);refine⟨x,X,?_⟩
   have ha:s.arg x=.agg (s.enc x):=by
    split at C
    .rename_i s' J;split at C
     .simp only[aQ] at C;subst C;cases tq:fs.toList with
      |nil=>
       rw[tq] at J;obtain rfl:=shFs_nil J;rfl
      |cons f Ic=>
       rw[tq] at J;obtain⟨_,a,b,_,_,rfl⟩:=shFs_cons J;rfl
     .cases C
    .cases C
   rw[ha];have:=hx.1;simp only[Value.cells] at this hx;have e:cs=cs.toList.toArray:=by simp
   rw[e];exact .agg _ cs.toList this.symm fun k d v h1 h2=>(hx.2 k d v h1 h2).1
  .cases C
theorem flat_one{α β:Type}(f:α->β):∀ l:List α,(l.flatMap fun x=>[f x])=l.map f
 |[]=>rfl
 |x::l=>by rw[List.flatMap_cons,flat_one f l];rfl
theorem flat_congr{α β γ:Type}{f:α->List γ}{g:β->List γ}{h:α->β}(he:∀ x,f x=g (h x)):∀ l:List α,l.flatMap f=(l.map h).flatMap g
 |[]=>rfl
 |x::l=>by rw[List.flatMap_cons,List.map_cons,List.flatMap_cons,he,flat_congr he l]
end
end Go.Abs
namespace Go.Argus
open Go.Abs
abbrev ko:Sh:=.int .i64
abbrev EF:Sh:=.int .u8
abbrev Ee:Sh:=.pair EF (.pair ko (.pair ko (.pair ko (.pair ko (.pair (.sl ko) .unit)))))
abbrev GD:Sh:=.pair .str (.pair ko .unit)
abbrev G4:Sh:=.pair EF (.pair ko (.pair ko (.pair ko (.pair ko (.pair .str (.pair Ee (.pair (.sl ko) (.pair (.sl GD) (.pair ko .unit)))))))))
abbrev Gv:Sh:=.pair (.sl Ee) (.pair G4 .unit)
abbrev zo:Sh:=.pair .str (.pair .bool (.pair ko (.pair EF (.pair (.sl EF) (.pair (.sl EF) (.pair (.sl .str) (.pair (.sl Gv) .unit)))))))
def Lc(x:Ee.val):a7:=⟨x.1,x.2.1,x.2.2.1,x.2.2.2.1,x.2.2.2.2.1,x.2.2.2.2.2.1⟩
def SJ(x:GD.val):kq:=⟨x.1,x.2.1⟩
def UA(x:G4.val):End:=⟨x.1,x.2.1,x.2.2.1,x.2.2.2.1,x.2.2.2.2.1,x.2.2.2.2.2.1,Lc x.2.2.2.2.2.2.1,x.2.2.2.2.2.2.2.1,List.map SJ x.2.2.2.2.2.2.2.2.1,x.2.2.2.2.2.2.2.2.2.1⟩
def Ry(x:Gv.val):bB:=⟨List.map Lc x.1,UA x.2.1⟩
def Kp(x:zo.val):aA:=⟨x.1,x.2.1,x.2.2.1,x.2.2.2.1,x.2.2.2.2.1,x.2.2.2.2.2.1,x.2.2.2.2.2.2.1,List.map Ry x.2.2.2.2.2.2.2.1⟩
theorem D2{k:IntKind}(l:List Int):D.sl (List.flatMap (Sh.enc (.int k)) l) l.length=.sl (l.map fun n=>.s (.int k n)) l.length:=congrArg (D.sl · l.length) (flat_one (fun n=>D.s (.int k n)) l)
theorem ac4(l:List ByteArray):D.sl (List.flatMap (Sh.enc .str) l) l.length=q0 l:=congrArg (D.sl · l.length) (flat_one S l)
theorem Ld{s:Sh}{β:Type}{g:β->List D}{h:s.val->β}(he:∀ x,s.enc x=g (h x))(l:List s.val):D.sl (List.flatMap s.enc l) l.length=.sl ((l.map h).flatMap g) (l.map h).length:=by
 rw[flat_congr he l,List.length_map]
theorem c1'{α β:Type}(f:α->β){a a':α}(h:a=a'):f a=f a':=by rw[h]
theorem c2'{α β γ:Type}(f:α->β->γ){a a':α}{b C:β}(h:a=a')(h2:b=C):f a b=f a' C:=by rw[h,h2]
theorem c3'{α β γ δ:Type}(f:α->β->γ->δ){a a':α}{b C:β}{c J:γ}(h:a=a')(h2:b=C)(h3:c=J):f a b c=f a' C J:=by rw[h,h2,h3]
theorem c4'{α β γ δ ε:Type}(f:α->β->γ->δ->ε){a a':α}{b C:β}{c J:γ}{d d':δ}(h:a=a')(h2:b=C)(h3:c=J)(h4:d=d'):f a b c d=f a' C J d':=by rw[h,h2,h3,h4]
theorem aaV(l:List Int):(Sh.sl ko).arg l=aB l:=D2 l
theorem Rz(x:Ee.val):Ee.enc x=a9 (Lc x):=
 c1' (fun q=>[U8 x.1,I x.2.1,I x.2.2.1,I x.2.2.2.1,I x.2.2.2.2.1,q]) (D2 (k:=.i64) x.2.2.2.2.2.1)
theorem abf(x:GD.val):GD.enc x=mf (SJ x):=rfl
theorem acg(x:G4.val):G4.enc x=bd (UA x):=
 c3' (fun a b c=>[U8 x.1,I x.2.1,I x.2.2.1,I x.2.2.2.1,I x.2.2.2.2.1,S x.2.2.2.2.2.1]++(a++[b,c,I x.2.2.2.2.2.2.2.2.2.1])) (Rz x.2.2.2.2.2.2.1) (D2 (k:=.i64) x.2.2.2.2.2.2.2.1) (Ld abf x.2.2.2.2.2.2.2.2.1)
theorem ZW(x:Gv.val):Gv.enc x=c9 (Ry x):=by
 have:=c2' (fun a b=>a::(b++[])) (Ld Rz x.1) (acg x.2.1);refine Eq.trans this ?_;rw[List.append_nil];rfl
theorem aaU(x:zo.val):zo.arg x=.agg (aD (Kp x)):=
 c4' (fun a b c d=>D.agg [S x.1,B x.2.1,I x.2.2.1,U8 x.2.2.2.1,a,b,c,d]) (D2 (k:=.u8) x.2.2.2.2.1) (D2 (k:=.u8) x.2.2.2.2.2.1) (ac4 x.2.2.2.2.2.2.1) (Ld ZW x.2.2.2.2.2.2.2.1)
end Go.Argus
