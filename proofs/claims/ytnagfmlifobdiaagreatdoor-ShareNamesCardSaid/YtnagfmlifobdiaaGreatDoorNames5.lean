/- Part 5. -/
import Derived.Test.YtnagfmlifobdiaaGreatDoorNames4
import Derived.Handed
import Derived.LaidLaws
import Derived.Stop.Joined
import Derived.Test.YtnagfmlifobdiaaGreatDoorRows
set_option linter.all false
set_option maxHeartbeats 8000000
set_option maxRecDepth 10000
open List(range)
namespace Go.Abs
section
variable{P:Program}{F:Nat->Prop}{fn:Func}
def JV(I:(Nat->Prop)->Mem->Nat->Prop):Prop:=∀ (S:Nat->Prop) m nx (C:Nat->Prop) m' ai,I S m nx->nx<=ai->(∀ i,i<nx->¬ S i->m' i=m i)->(∀ i,C i->S i\/(nx<=i/\i<ai))->I C m' ai
def JW(I:(Nat->Prop)->Mem->Nat->Prop):Prop:=∀ (S:Nat->Prop) m nx (q:Nat) (σ:D->D),S q->I S m nx->I S (fun j=>if j=q then none else(m j).map (Row.sub σ)) nx
def QC(I:Nat->(Nat->Prop)->Mem->Nat->Prop)(Stop:Mem->Nat->Prop)(k:Nat)(S:Nat->Prop)(m:Mem)(nx:Nat)(d:D)(m':Mem)(C:Nat):Prop:=
 ((d=.s (.bool true)/\I (k+1) S m' C)\/(d=.s (.bool false)/\Stop m' C))/\nx<=C/\∀ i,S i->m' i=m i
def Hf(P:Program)(f:FuncId)(fs cs:List D)(xs:List (List D)):Prop:=
 nY P f=true/\∀ (F:Nat->Prop) (l:Nat) (I:Nat->(Nat->Prop)->Mem->Nat->Prop) (Stop:Mem->Nat->Prop) (m:Mem) (nx:Nat) (β:aC) (w:World) (vs:Array Value),(∀ k,JV (I k))->(∀ k,JW (I k))->xx Stop->
  aJ P F m β w->(∀ i,nx<=i->β i=none)->Rs F β w (fs++[.fn (.yield l) [] []]++cs) vs->
  (∀ k x S m nx,xs[k]? =some x->(∀ i,S i->i<nx)->I k S m nx->nn P F β w l x m nx (QC I Stop k S m nx))->I 0 (fun _=>False) m nx->
  Calls P f vs w fun e w'=>∃ v d m' C β',e=.returned v/\((∃ S,I xs.length S m' C)\/Stop m' C)/\aJ P F m' β' w'/\(∀ i,C<=i->β' i=none)/\R F β' w' d v/\Step β w β' w'/\nx<=C/\∀ i,i<nx->β i=none->β' i=none
def Te(J:Nat)(xs:List (List D))(I:Nat->(Nat->Prop)->Mem->Nat->Prop)(Stop:Mem->Nat->Prop):ea:=fun l args m nx dX=>
 l=J/\∃ k S,xs[k]? =some args/\(∀ i,S i->i<nx)/\I k S m nx/\∀ d m' C,QC I Stop k S m nx d m' C->dX d m' C
instance{l:Nat}{xs:List (List D)}{I:Nat->(Nat->Prop)->Mem->Nat->Prop}{Stop:Mem->Nat->Prop}:dD (Te l xs I Stop):=⟨fun _ _ _ _ _ _ hk ⟨h1,k,S,h2,C,J,M⟩=>⟨h1,k,S,h2,C,J,fun d m nx h=>hk _ _ _ (M d m nx h)⟩⟩
theorem aci(gX:P.follows .mixedOrders=true){f:FuncId}{c:Code}(hf:lj P f fn c){fs cs:List D}(hn:Nat.ble (fs.length+1+cs.length) fn.ntmps=true){xs:List (List D)}
 (h:∀ (l:Nat) (I:Nat->(Nat->Prop)->Mem->Nat->Prop) (Stop:Mem->Nat->Prop) (m:Mem) (nx:Nat),(∀ k,JV (I k))->(∀ k,JW (I k))->xx Stop->I 0 (fun _=>False) m nx->
  AW P (Te l xs I Stop) true c (gY P fn.results.toList fun _ st=>(∃ S,I xs.length S st.mem st.nx)\/Stop st.mem st.nx) ⟨iy (fs++[.fn (.yield l) [] []]++cs),m,nx⟩):Hf P f fs cs xs:=
 ⟨hf.he,fun F l I Stop m nx β w vs hI hF M hm X hR hy h0=>
  (zT gX hf.hf hf.hb hf.af (by simpa[Nat.add_assoc,Nat.add_comm,Nat.add_left_comm] using hn) (h l I Stop m nx hI hF M h0) (fun l' args m' U K hK=>by
   obtain⟨rfl,k,S,h1,h2,C,J⟩:=hK
   exact(hy k args S m' U h1 h2 C).mono J) hm X hR).mono fun e w' ⟨v,d,st',β',h1,h2,C,J,h5,h6,h7,h8⟩=>⟨v,d,st'.mem,st'.nx,β',h1,h2,J,h5,C,h6,h7,h8⟩⟩
def AX(P:Program)(Y:ea):Code->(Exit->St->Prop)->St->Prop
 | .seq a b,Q,st=>AX P Y a (fJ (fun st'=>∃ C,aI P st' C/\AX P Y b Q C) Q) st
 | .block id b,Q,st=>AX P Y b (fq id Q) st
 | .rangeFunc g ps assign body,Q,st=>(opd st.env g).ask/\∃ f fs cs xs,∃ I:Nat->Mem->Nat->Prop,(opd st.env g).core=.fn (.func f) fs cs/\Hf P f fs cs xs/\(∀ x∈xs,x.length=ps.size/\∀ d∈x,Tr d)/\I 0 st.mem st.nx/\
   (∀ k m nx x,xs[k]? =some x->I k m nx->AW P cZ false assign (Co fun s=>AW P cZ false body (xB st.env (I (k+1)) Q) s) ⟨nd st.env ps.toList x,m,nx⟩)/\
   ∀ m nx,I xs.length m nx->Q .normal ⟨st.env,m,nx⟩
 |c,Q,st=>AW P Y true c Q st
theorem View.adu{il n₀:Nat}{f:Nat->Option Nat}{mc:Mem}{nc:Nat}{m:Mem}{nx:Nat}(h:View il n₀ f mc nc m nx){β:aC}{w:World}(hm:aJ P F m β w)(hn:∀ i,nx<=i->β i=none){l:Nat}{o o':Obj}(hl:m il=some (.raw l o))
 {m':Mem} {M:Nat} {β':aC} {w':World} (fy:aJ P (hidden F β f) m' β' w') (hs:o8 l (β.via f) w β' w') (ij:∀ i,M<=i->β' i=none) (hle:nc<=M) (hg:∀ i,i<nc->(β.via f) i=none->β' i=none) (ho:w'.heap[l]? =some o'):
 ∃ f' J gJ C,View il n₀ f' m' M J gJ/\J il=some (.raw l o')/\aJ P F J C w'/\(∀ i,gJ<=i->C i=none)/\Step β w C w'/\nx<=gJ/\(∀ i,i<nx->β i=none->C i=none)/\
  (∀ i j,f' i=some j->f i=some j\/nx<=j)/\∀ j,j<nx->j≠il->(∀ i,f i≠some j)->J j=m j:=by
 obtain⟨yN,rr,DW,af⟩:=hm.pO hl
 let f':Nat->Option Nat:=fun i=>if i<nc then f i else if i<M then some (nx+(i - nc)) else none
 have qV:∀ i,i<nc->f' i=f i:=fun i hi=>by simp[f',hi]
 have xO:∀ i,nc<=i->i<M->f' i=some (nx+(i - nc)):=fun i h1 h2=>by simp[f',h2,Nat.not_lt.2 h1]
 have CV:∀ i,M<=i->f' i=none:=fun i h1=>by simp[f',Nat.not_lt.2 h1,Nat.not_lt.2 (Nat.le_trans hle h1)]
 have X:∀ i j,f' i=some j->(f i=some j/\i<nc/\j<nx)\/(nc<=i/\i<M/\j=nx+(i - nc)):=fun i j hf=>by
  rcases Nat.lt_or_ge i nc with h1|h1
  .rw[qV i h1] at hf;exact .inl ⟨hf,h.lY hf |>.1,(h.lY hf).2.1⟩
  .rcases Nat.lt_or_ge i M with h2|h2
   .rw[xO i h1 h2] at hf;cases hf;exact .inr ⟨h1,h2,rfl⟩
   .rw[CV i h2] at hf;cases hf
 have xP:∀ i i' j,f' i=some j->f' i'=some j->i=i':=fun i i' j h1 h2=>by
  rcases X i j h1 with⟨a1,a2,a3⟩|⟨a1,a2,a3⟩<;>rcases X i' j h2 with⟨b1,b2,b3⟩|⟨b1,b2,b3⟩
  .exact h.inj i i' j a1 b1
  .omega
  .omega
  .omega
 let inv:Nat->Option Nat:=fun j=>(range M).find? fun i=>f' i==some j
 have mF:∀ i j,inv j=some i->f' i=some j:=fun i j hi=>((EQ xP).1 i hi).1;have yn:∀ i j,f' i=some j->inv j=some i:=fun i j hf=>(EQ xP).2 i (by rcases X i j hf with h1|h1<;>omega) hf
 have Lr:∀ j,inv j=none->∀ i,f i≠some j:=fun j hj i hf=>by
  have:=yn i j (by rw[qV i (h.lY hf).1];exact hf);rw[hj] at this;cases this
 let C:aC:=fun j=>match inv j with|some i=>β' i|none=>β j
 let J:Mem:=fun j=>match inv j with|some i=>(m' i).map (Row.lX f')|none=>if j=il then some (.raw l o') else m j
 have βs:∀ i j,f' i=some j->C j=β' i:=fun i j hf=>by simp[C,yn i j hf]
 have βn:∀ j,inv j=none->C j=β j:=fun j hj=>by simp[C,hj]
 have Kl:inv il=none:=by
  cases hi:inv il with
  |none=>rfl
  |some i=>
   rcases X i il (mF i il hi) with⟨a1,a2,a3⟩|⟨a1,a2,a3⟩
   .exact absurd rfl (h.lY a1).2.2
   .have:=h.lt;omega
 have via:C.via f'=β':=by
  funext i;simp only[aC.via];cases hf:f' i with
  |some j=>exact βs i j hf
  |none=>
   rcases Nat.lt_or_ge i M with h1|h1
   .rcases Nat.lt_or_ge i nc with h2|h2
    .obtain⟨j,h3,_⟩:=h.wB i h2;rw[qV i h2,h3] at hf;cases hf
    .rw[xO i h2 h1] at hf;cases hf
   .exact(ij i h1).symm
 have look:∀ j p,C j=some p->(∃ i,inv j=some i/\f' i=some j/\β' i=some p)\/(inv j=none/\β j=some p):=fun j p hp=>by
  cases hi:inv j with
  |some i=>exact .inl ⟨i,rfl,mF i j hi,by rw[<- βs i j (mF i j hi)];exact hp⟩
  |none=>exact .inr ⟨rfl,by rw[<- βn j hi];exact hp⟩
 have Ls:∀ b,β.free b->b≠l:=fun b hb e=>hb il _ yN (e▸rfl)
 have de:∀ b,b<w.heap.size->β.free b->w'.heap[b]? =w.heap[b]? /\C.free b:=fun b hb hf=>by
  obtain⟨h1,h2⟩:=hs.de b hb (Ls b hf) (aC.oV hf f);refine⟨h1,fun j p hp=>?_⟩;rcases look j p hp with⟨i,_,_,U⟩|⟨_,U⟩
  .exact h2 i p U
  .exact hf j p U
 have keep:∀ j p,β j=some p->C j=some p\/C j=some .dead:=fun j p hp=>by
  cases hi:inv j with
  |none=>exact .inl ((βn j hi).trans hp)
  |some i=>
   have hf:=mF i j hi;rw[βs i j hf];rcases X i j hf with⟨a1,a2,a3⟩|⟨a1,a2,a3⟩
   .exact hs.keep i p (by simp[aC.via,a1,hp])
   .rw[hn j oG] at hp;cases hp
 have own:∀ j p b,inv j=none->β j=some p->p.bF=some b->hidden F β f b/\(b≠l->b<w.heap.size/\w'.heap[b]? =w.heap[b]?):=fun j p b hj hp hb=>by
  obtain⟨h1,h2⟩:=h.vi hm (Lr j hj) hp hb;exact⟨h2,fun aE=>⟨hm.lt j p b hp hb,(hs.de b (hm.lt j p b hp hb) aE h1).1⟩⟩
 refine⟨f',J,nx+(M - nc),C,⟨Nat.le_trans h.low hle,by have:=h.lt;omega,fun i hi=>?_,fun i hi=>?_,CV,xP,fun i r hi=>?_⟩,?_,⟨fun j r hj=>?_,fun i j p q b hp hq e e'=>?_,fun j p b hp e=>?_,fun j p b hp e hF=>?_,?_⟩,fun i hi=>?_,⟨hs.size,de,keep,hs.out⟩,oG,fun i hi hb=>?_,fun i j hf=>?_,fun j hj aE js=>?_⟩
 .rw[qV i (Nat.lt_of_lt_of_le hi h.low)];exact h.id i hi
 .rcases Nat.lt_or_ge i nc with h1|h1
  .obtain⟨j,h2,h3,U⟩:=h.wB i h1;exact⟨j,by rw[qV i h1];exact h2,oG,U⟩
  .exact⟨_,xO i h1 hi,oG,by have:=h.lt;omega⟩
 .obtain⟨p,hp,_⟩:=fy.row i r hi
  have:∃ j,f' i=some j:=by
   rw[<- via] at hp;obtain⟨j,h1,_⟩:=Option.bind_eq_some_iff.1 hp;exact⟨j,h1⟩
  obtain⟨j,hj⟩:=this;exact⟨j,hj,by simp[J,yn i j hj,hi]⟩
 .simp[J,Kl]
 .cases hi:inv j with
  |some i=>
   simp only[J,hi,cP] at hj;obtain⟨r0,wC,rfl⟩:=hj;obtain⟨p,hp,hr⟩:=fy.row i r0 wC;refine⟨p,(βs i j (mF i j hi)).trans hp,cw.G7 (F':=hidden F β f) (by rw[via];exact hr) (fun b hb=>.inl hb) fun b g1 g2=>?_⟩;obtain⟨k,q,hq,yO⟩:=Jf g1;rcases look k q hq with⟨i',_,_,U⟩|⟨h3,U⟩
   .exact absurd yO (g2 i' q (by rw[via];exact U))
   .exact(own k q b h3 U yO).1
  |none=>
   simp only[J,hi] at hj;split at hj
   .rename_i e;subst e;cases hj;exact⟨.raw l,(βn j hi).trans yN,.raw l o' ho⟩
   .rename_i aE;obtain⟨p,hp,hr⟩:=hm.row j r hj;refine⟨p,(βn j hi).trans hp,hr.gen hs.size (fun b hb g1 g2=>⟨tE (de b hb g2).1,(de b hb g2).2,g1⟩) (fun i p _=>keep i p) fun b hb=>?_⟩;exact((own j p b hi hp hb).2 fun e=>aE (hm.inj j il p _ b hp yN hb (e▸rfl))).2
 .rcases look i p hp with⟨i',a1,a2,a3⟩|⟨a1,a2⟩<;>rcases look j q hq with⟨j',b1,b2,b3⟩|⟨b1,b2⟩
  .have:=fy.inj i' j' p q b a3 b3 e e';subst this;rw[a2] at b2;cases b2;rfl
  .exact absurd (own j q b b1 b2 e').1 (fy.nf i' p b a3 e)
  .exact absurd (own i p b a1 a2 e).1 (fy.nf j' q b b3 e')
  .exact hm.inj i j p q b a2 b2 e e'
 .rcases look j p hp with⟨i',a1,a2,a3⟩|⟨a1,a2⟩
  .exact fy.lt i' p b a3 e
  .exact Nat.lt_of_lt_of_le (hm.lt j p b a2 e) hs.size
 .rcases look j p hp with⟨i',a1,a2,a3⟩|⟨a1,a2⟩
  .exact fy.nf i' p b a3 e (.inl hF)
  .exact hm.nf j p b a2 e hF
 .exact hm.fb.next (fun b hb=>Nat.lt_of_lt_of_le (hm.fb.lt b hb) hs.size) (fun _ h=>h) fun t _ hF=>(de _ (hm.fb.lt _ hF) fun i p hp e=>hm.nf i p _ hp e hF).1
 .cases cq:inv i with
  |none=>exact(βn i cq).trans (hn i oG)
  |some i0=>
   rcases X i0 i (mF i0 i cq) with⟨a1,a2,a3⟩|⟨a1,a2,a3⟩<;>omega
 .cases cq:inv i with
  |none=>exact(βn i cq).trans hb
  |some i0=>
   have hf:=mF i0 i cq;rw[βs i0 i hf];rcases X i0 i hf with⟨a1,a2,a3⟩|⟨a1,a2,a3⟩
   .exact hg i0 a2 (by simp[aC.via,a1,hb])
   .omega
 .rcases X i j hf with⟨a1,_,_⟩|⟨_,_,a3⟩
  .exact .inl a1
  .exact .inr oG
 .have hi:inv j=none:=by
   cases hi:inv j with
   |none=>rfl
   |some i=>
    rcases X i j (mF i j hi) with⟨a1,_,_⟩|⟨_,_,a3⟩
    .exact absurd a1 (js i)
    .omega
  simp[J,hi,aE]
theorem View.ahh{il n₀:Nat}{f:Nat->Option Nat}{mc:Mem}{nc:Nat}{m m':Mem}{nx J:Nat}(h:View il n₀ f mc nc m nx)(C:nx<=J)(he:∀ i j,f i=some j->m' j=m j):View il n₀ f mc nc m' J:=
 ⟨h.low,Nat.lt_of_lt_of_le h.lt C,h.id,fun i hi=>by
  obtain⟨j,h1,h2,M⟩:=h.wB i hi;exact⟨j,h1,oG,M⟩,h.out,h.inj,fun i r hi=>by
  obtain⟨j,h1,h2⟩:=h.rows i r hi
  exact⟨j,h1,(he i j h1).trans h2⟩⟩
def xi(il l:Nat)(n₀:Nat)(o:Obj)(I:Mem->Nat->Prop)(S:Nat->Prop)(m:Mem)(nx:Nat):Prop:=∃ f mc nc,View il n₀ f mc nc m nx/\m il=some (.raw l o)/\I mc nc/\¬ S il/\∀ i j,f i=some j->¬ S j
theorem xi.closed{il l n₀:Nat}{o:Obj}{I:Mem->Nat->Prop}:JV (xi il l n₀ o I):=by
 rintro S m nx X m' ai ⟨f,mc,nc,h1,h2,U,J,M⟩ C he hs;refine⟨f,mc,nc,h1.ahh C fun i j hf=>he j (h1.lY hf).2.1 (M i j hf),(he il h1.lt J).trans h2,U,fun e=>?_,fun i j hf e=>?_⟩
 .rcases hs il e with h|h
  .exact J h
  .have:=h1.lt;omega
 .rcases hs j e with h|h
  .exact M i j hf h
  .have:=(h1.lY hf).2.1;omega
theorem aaF(f:Nat->Option Nat)(σ:D->D)(r:Row):(r.lX f).sub σ=r.lX f:=by cases r<;>rfl
theorem xi.nR{il l n₀:Nat}{o:Obj}{I:Mem->Nat->Prop}:JW (xi il l n₀ o I):=by
 rintro S m nx q σ hq ⟨f,mc,nc,h1,h2,U,C,J⟩;have M:il≠q:=fun e=>C (e▸hq);refine⟨f,mc,nc,⟨h1.low,h1.lt,h1.id,h1.wB,h1.out,h1.inj,fun i r hi=>?_⟩,?_,U,C,J⟩
 .obtain⟨j,a1,a2⟩:=h1.rows i r hi;refine⟨j,a1,?_⟩;have hj:j≠q:=fun e=>J i j a1 (e▸hq);simp only[if_neg hj,a2,Option.map_some,aaF]
 .simp only[if_neg M,h2,Option.map_some];rfl
theorem aaG(gX:P.follows .mixedOrders=true):∀ (c:Code) (F:Nat->Prop) (n:Nat) (Y:ea) (N₀:Nat) (β₀:aC) (w₀:World) (a₀:Act),
 (∀ l args m nx K,Y l args m nx K->nn P F β₀ w₀ l args m nx K)->gB a₀.tmps.size c=true->∀ (Q:Exit->St->Prop) (st:St) (β:aC) (w:World) (a:Act),
 AX P Y c Q st->ej P F st β w a->oz N₀ β₀ w₀ a₀ st β w a->c.wpIn (Fe none) n P (SY P F N₀ β₀ w₀ a₀ Q) a w:=by
 intro c
 induction c with
 |seq x y Bj Bk=>
  intro F n Y N₀ β₀ w₀ a₀ hY af Q st β w a h hs bZ;simp only[gB,bf] at af;refine wpIn_seq (wpIn_mono (Bj F n Y N₀ β₀ w₀ a₀ hY af.1 _ st β w a h hs bZ) fun e a' w' hp=>?_);obtain⟨st',β',hq,cL,dL⟩:=hp;cases e with
  |normal=>
   obtain⟨fH,hg,hy⟩:=hq;obtain⟨dQ,pd,CW⟩:=Is hg cL;exact Bk F n Y N₀ β₀ w₀ a₀ hY af.2 Q fH dQ w' a' hy pd (dL.since CW)
  |_=>exact⟨st',β',hq,cL,dL⟩
 |block id b ih=>
  intro F n Y N₀ β₀ w₀ a₀ hY af Q st β w a h hs bZ;refine wpIn_block (wpIn_mono (ih F n Y N₀ β₀ w₀ a₀ hY af _ st β w a h hs bZ) fun e a' w' hp=>?_);obtain⟨st',β',hq,cL,dL⟩:=hp;cases e with
  |exit i=>
   simp only[fq] at hq;simp only[Exit.inBlock];split at hq
   .rename_i hi;rw[if_pos hi];exact⟨st',β',hq,cL,dL⟩
   .rename_i hi;rw[if_neg hi];exact⟨st',β',hq,cL,dL⟩
  |_=>exact⟨st',β',hq,cL,dL⟩
 |rangeFunc g ps assign body uD uE=>
  intro F n Y N₀ β₀ w₀ a₀ hY af Q st β w a h hs bZ;obtain⟨env,mem,nx⟩:=st;obtain⟨jF,f,fs,cs,xs,I,tY,yo,xQ,yP,tP,xR⟩:=h;simp only at jF tY yP tP xR;simp only[gB,bf,bS,Nat.blt_eq] at af;obtain⟨ru,Lu,Lv⟩:=af;have bB:a.tmps.size=a₀.tmps.size:=bZ.size;have hR:=(hs.e.opd g).tD _ jF;simp only[tY] at hR;refine wpIn_rangeFunc fun fn sR=>?_;obtain⟨C,ky⟩:∃ C:LoopState->Option Code->Loop,C=fun st pe=>{ state:=st,pending:=pe,fn,tmps:=a.tmps,params:=ps,assign,body,defers:=w.heap.size }:=⟨_,rfl⟩
  obtain⟨U,rv⟩:∃ U,(w.alloc (.deferred (some []))).alloc (.loop (C .ready none))=U:=⟨_,rfl⟩
  obtain⟨us,vs,d,yQ,oA,hu,hv,nw,hinv⟩:=Og (P:=P) hR yo.1 (w.heap.size+1) U;have hn:∀ i,nx<=i->β i=none:=hs.n;have uF:∀ t∈uk,t.1≠w.heap.size+1:=fun t ht e=>by have:=hs.m.fb.lt _ (hs.m.fb.l8 t ht).1;omega
  have DW:¬ F (w.heap.size+1):=fun e=>by have:=hs.m.fb.lt _ e;omega
  let X:Nat->Option Nat:=fun i=>if i<nx then some i else none
  have Du:β.via X=β:=by
   funext i;simp only[aC.via,X];split
   .rfl
   .exact(hn i oG).symm
  have kJ:aJ P F (fun i=>(mem i).map (Row.lX X)) β w:=⟨fun i r hi=>by
   simp only[cP] at hi;obtain⟨r0,h1,rfl⟩:=hi;obtain⟨p,hp,hr⟩:=hs.m.row i r0 h1
   exact⟨p,hp,cw.G7 (F':=F) (by rw[Du];exact hr) (fun _ h=>h) fun b g1 g2=>absurd (Du▸g2) g1⟩,hs.m.inj,hs.m.lt,hs.m.nf,hs.m.fb⟩
  have uG:Step β w β (w.alloc (.deferred (some []))):=zR oS fun b hb=>heap_alloc_old w _ hb;have iU:aJ P F (fun i=>(mem i).map (Row.lX X)) β (w.alloc (.deferred (some []))):=kJ.ext oS fun b hb=>heap_alloc_old w _ hb
  have Mw:aJ P F (up (fun i=>(mem i).map (Row.lX X)) nx (some (.raw (w.heap.size+1) (.loop (C .ready none))))) (up β nx (some (.raw (w.heap.size+1)))) U:=by
   rw[<- rv];refine iU.alloc (hn nx (a8 _)) _ _ _ (fun b hb=>by simp only[Pl.bF,aG] at hb;simp;omega) (.raw _ _ ?_);have:=World.alloc_heap_new (w.alloc (.deferred (some []))) (.loop (C .ready none))
   rwa[World.size_alloc] at this
  have mN:Step β w (up β nx (some (.raw (w.heap.size+1)))) U:=by
   rw[<- rv];exact uG.trans (zI iU _ (hn nx (a8 _)) _ (fun b hb=>by simp only[Pl.bF,aG] at hb;simp;omega))
  have Mx:U.heap[w.heap.size]? =some (.deferred (some [])):=by
   rw[<- rv];rw[heap_alloc_old _ _ oS];exact World.alloc_heap_new w _
  have CB:aC.free (up β nx (some (.raw (w.heap.size+1)))) w.heap.size:=
   qC (fun i p hp e=>by have:=hs.m.lt i p _ hp e;omega) (by rintro q hq;cases hq;simp[Pl.bF])
  have ag7:U.heap.size=w.heap.size+2:=by rw[<- rv];simp
  have JK:∀ i,nx<=i->mem i=none:=fun i hi=>by
   cases hm:mem i with
   |none=>rfl
   |some row=>
    obtain⟨p,hp,_⟩:=hs.m.row i row hm;rw[hn i hi] at hp;cases hp
  have own:∀ {f:Nat->Option Nat} {mc:Mem} {nc:Nat} {m:Mem} {gM:Nat} {M:aC} {w2:World},View nx nx f mc nc m gM->Step (up β nx (some (.raw (w.heap.size+1)))) U M w2->
   ∀ {d:D} {v:Value},R F β w d v->R (hidden F M f) (M.via f) w2 d v:=fun {_ _ _ _ _ _ _} J c7 {d v} h=>by
   have yp:=mN.trans c7;refine h.gen yp.size (fun b hb hf k8=>?_) fun i p _ hp=>?_
   .obtain⟨g1,g2⟩:=yp.de b hb k8;exact⟨tE g1,aC.oV g2 _,fun e=>e.elim hf fun e=>e.1 g2⟩
   .have hi:i<nx:=by
     rcases Nat.lt_or_ge i nx with h1|h1
     .exact h1
     .rw[hn i h1] at hp;cases hp
    simp only[aC.via,J.id i hi,Option.bind_some];exact yp.keep i p hp
  refine⟨w.heap.size+1,[mark w.heap.size],U,d,U,f,_,U,?_,nw,fun f' _=>trivial,hinv,fun hd=>by simp at hd,Jg ?_⟩
  .rw[<- rv,ky];exact run_enterLoop_outer _ _ _ _ _
  refine(yo.2 F (w.heap.size+1) (fun k S=>xi nx (w.heap.size+1) nx (.loop (C .ready none)) (I k) S) (fun m k=>∃ c,vt nx (w.heap.size+1) nx (.loop (C .done (some c))) (Jump env Q c) m k)
   (up (fun i=>(mem i).map (Row.lX X)) nx (some (.raw (w.heap.size+1) (.loop (C .ready none))))) (nx+1) (up β nx (some (.raw (w.heap.size+1)))) U _ (fun k=>xi.closed) (fun k=>xi.nR) ?_ Mw ?_ ?_ ?_ ?_).mono ?_
  .rintro m k m' k' ⟨c,hc⟩ hle he;exact⟨c,vt.closed m k m' k' hc hle he⟩
  .intro i hi;rw[az _ _ (show i≠nx by omega)];exact hn i oG
  .refine Rs.append (Rs.append ?_ ?_) ?_
   .exact⟨by simp[yQ],fun k d v hd hv=>(hu k d v hd (by simpa using hv)).step mN⟩
   .refine⟨rfl,fun k d v hd hv=>?_⟩;cases k with
    |zero=>
     simp only[List.getElem?_cons_zero,aG] at hd;simp only[List.getElem?_toArray,List.getElem?_cons_zero,aG] at hv;subst hd;subst hv;exact .fn _ [] [] [] [] rfl rfl oS oS
    |succ k=>simp at hd
   .exact⟨by simp[oA],fun k d v hd DX=>(hv k d v hd (by simpa using DX)).step mN⟩
  .rintro k x S m k' hx Ua ⟨g,mc,nc,J,eR,My,Ub,Vf⟩ M w2 uH Lw ik HA uI;obtain⟨DY,qW,_,yq⟩:=ik.pO eR;have Lx:uH.size=ps.size:=by rw[uI.1];exact(xQ x (bD hx)).1
   have hy:=run_yield (P:=P) (args:=uH) qW (by rw[ky];exact Lx);simp only[ky,PF] at hy;refine⟨fn,_,assign,body,hy,fun n'=>?_⟩;obtain⟨yR,jY⟩:=J.enter ik;have ry:hidden F M g (w.heap.size+1):=(J.vi ik (fun i e=>(J.lY e).2.2 rfl) DY rfl).2;have CC:(M.via g).free (w.heap.size+1):=(J.vi ik (fun i e=>(J.lY e).2.2 rfl) DY rfl).1;have Mz:gI (hidden F M g) (M.via g) w2 env { tmps:=a.tmps,defers:=[] }:=fun t=>own J Lw (hs.e t)
   obtain⟨MA,Dv⟩:=Ix ps.toList x uH.toList env a.tmps (by simp[uI.1]) (fun j d v hd hv=>
    ((xQ x (bD hx)).2 d (bD hd) F M w2 v (uI.2 j d v hd (by simpa using hv))).gen (a8 _)
     (fun b _ hb _=>⟨ki.refl _ b,aC.oV (uZ hb).2 _,fun e=>e.elim (uZ hb).1 fun e=>e.1 (uZ hb).2⟩) (fun i p _ hp=>by cases hp)) (fun t ht=>by rw[bB];exact ru t ht) Mz
   have Ly:=E2 gX assign (hidden F M g) (some (w.heap.size+1)) n' cZ false nc (M.via g) w2
    { tmps:=(ps.toList.zip uH.toList).foldl (fun tmps (t,a)=>tmps.setIfInBounds t a) a.tmps,defers:=[] } oS (fun _ _ _ _ _ h=>h.elim) (by show gB (Array.size _) assign=true;rw[Dv,bB];exact Lu) _ ⟨nd env ps.toList x,mc,nc⟩ (M.via g) w2 _
    (tP k mc nc x hx My) ⟨MA,yR,jY⟩ (fU.refl ⟨nd env ps.toList x,mc,nc⟩ _ _ _).yM
   refine roundIn_of_wpIn trivial (wpIn_mono Ly fun e a3 w3 hp=>?_);obtain⟨iE,β3,yS,Bl,gv⟩:=hp;cases e with
   |normal=>
    have xS:w.heap.size+1<w3.heap.size:=Nat.lt_of_lt_of_le yq gv.step.size;have KP:w3.heap[w.heap.size+1]? =some (.loop (C .ready none)):=(gv.step.de _ yq CC).1.trans qW;refine⟨_,run_beginRound KP (by rw[ky]),?_⟩;have Lz:=Bl.og (l:=w.heap.size+1) ry uF (.loop { C .ready none with state:=.busy });have KQ:=E2 gX body (hidden F M g) (some (w.heap.size+1)) n' cZ false iE.nx β3 _ a3 oS (fun _ _ _ _ _ h=>h.elim) (by rw[gv.size];show gB (Array.size _) body=true;rw[Dv,bB];exact Lv) _ iE β3 _ a3 yS Lz (fU.refl iE _ _ _).yM;refine wpIn_mono KQ fun e a4 w4 MB=>?_;obtain⟨DZ,β4,uJ,D0,qi⟩:=MB;have KR:w.heap.size+1<w4.heap.size:=Nat.lt_of_lt_of_le (by simpa using xS) qi.step.size
    have KS:w4.heap[w.heap.size+1]? =some (.loop { C .ready none with state:=.busy }):=
     (qi.step.de _ (by simpa using xS) (gv.step.de _ yq CC).2).1.trans (World.putObj_heap_same xS)
    have fin:∀ (jump:Option Code) (K:D->Mem->Nat->Prop),(∀ f' dM gJ,View nx nx f' DZ.mem DZ.nx dM gJ->dM nx=some (.raw (w.heap.size+1) (.loop (C (if jump.isNone then .ready else .done) jump)))->k'<=gJ->(∀ i,S i->dM i=m i)->(∀ i j,f' i=some j->¬ S j)->K (.s (.bool jump.isNone)) dM gJ)->
     ∃ v w',(Instr.endRound (w.heap.size+1) jump).run P w4=.ok v w'/\∃ v' d m' ai β',Ending.returned v=.returned v'/\K d m' ai/\aJ P F m' β' w'/\(∀ i,ai<=i->β' i=none)/\R F β' w' d v'/\Step M w2 β' w'/\k'<=ai/\∀ i,i<k'->M i=none->β' i=none:=fun jump K hK=>by
     have dn:=run_endRound (P:=P) jump KS;have e1:∀ s p,({ ({ C .ready none with state:=.busy }:Loop) with state:=s,pending:=p }:Loop)=C s p:=fun s p=>by rw[ky]
     rw[e1] at dn
     obtain⟨f',dM,gJ,dQ,v1,v2,v3,v4,v5,v6,v7,v8,v9⟩:=J.adu ik HA eR (o':=.loop (C (if jump.isNone then .ready else .done) jump)) (D0.m.og ry uF _)
      (((gv.step.x _).trans (o8.put _ β3 w3 _)).trans ((qi.step.x _).trans (o8.put _ β4 w4 _))) D0.n (Nat.le_trans gv.le qi.le) (fun i hi hb=>qi.grow i (Nat.lt_of_lt_of_le hi gv.le) (gv.grow i hi hb)) (World.putObj_heap_same KR)
     exact⟨_,_,dn,.bool jump.isNone,_,dM,gJ,dQ,rfl,hK f' dM gJ v1 v2 v6 (fun i hi=>v9 i (Ua i hi) (fun e=>Ub (e▸hi)) fun j hj=>Vf j i hj hi) (fun i j hf hj=>(v8 i j hf).elim (fun h=>Vf i j h hj) fun h=>by have:=Ua j hj;omega),v3,v4,.s _ rfl,v5,v6,v7⟩
    cases e with
    |normal=>exact fin none _ fun f' dM gJ v1 v2 v6 v8 v9=>⟨.inl ⟨rfl,f',_,_,v1,v2,uJ,Ub,v9⟩,v6,v8⟩
    |ret=>exact fin (some .ret) _ fun f' dM gJ v1 v2 v6 v8 _=>⟨.inr ⟨rfl,.ret,f',_,_,v1,v2,uJ⟩,v6,v8⟩
    |exit id=>exact fin (some (.exit id)) _ fun f' dM gJ v1 v2 v6 v8 _=>⟨.inr ⟨rfl,.exit id,f',_,_,v1,v2,uJ⟩,v6,v8⟩
    |_=>exact uJ.elim
   |_=>exact yS.elim
  .refine⟨X,mem,nx,⟨a8 _,oG,fun i hi=>by simp[X,hi],fun i hi=>⟨i,by simp[X,hi],oG,oG⟩,fun i hi=>by simp[X,Nat.not_lt.2 hi],fun i i' j h1 h2=>?_,fun i r hi=>?_⟩,ah _ _ _,yP,id,fun _ _ _=>id⟩
   .simp only[X,Option.ite_none_right_eq_some,aG] at h1 h2;omega
   .have af:i<nx:=by
     rcases Nat.lt_or_ge i nx with h1|h1
     .exact h1
     .rw[JK i h1] at hi;cases hi
    exact⟨i,by simp[X,af],by rw[az _ _ (show i≠nx by omega),hi];rfl⟩
  .rintro e w6 ⟨v,d6,m6,MC,β6,rfl,Dw,pk,hn6,_,kz,ag8,LA⟩
   have fin:∀ {g:Nat->Option Nat} {mc:Mem} {nc:Nat} (o':Obj),View nx nx g mc nc m6 MC->
    ej P F ⟨env,mc,nc⟩ (β6.via g) (w6.putObj (w.heap.size+1) o') { a with defers:=[mark w.heap.size]++a.defers }/\
    oz N₀ β₀ w₀ a₀ ⟨env,mc,nc⟩ (β6.via g) (w6.putObj (w.heap.size+1) o') { a with defers:=[mark w.heap.size]++a.defers }:=fun {g mc nc} o' J=>by
    obtain⟨yR,jY⟩:=J.enter pk
    have ry:hidden F β6 g (w.heap.size+1):=by
     have hβ:β6 nx=some (.raw (w.heap.size+1))\/β6 nx=some .dead:=kz.keep nx _ (ah _ _ _);rcases hβ with hβ|hβ
     .exact(J.vi pk (fun i e=>(J.lY e).2.2 rfl) hβ rfl).2
     .exfalso;rcases Dw with⟨_,f',MD,gu,_,yr,_,_⟩|⟨c,f',MD,gu,_,yr,_⟩
      .rw[(pk.pO yr).1] at hβ;cases hβ
      .rw[(pk.pO yr).1] at hβ;cases hβ
    refine⟨⟨fun t=>((own J kz (hs.e t)).og ry o').nv fun b hb=>.inl hb,(yR.og ry uF o').nv (fun b hb=>.inl hb) fun t ht=>(hs.m.fb.l8 t ht).1,jY⟩,bZ.trans ⟨⟨?_,fun b hb hf=>?_,fun i p hp=>?_,(mN.out.trans kz.out).trans ⟨rfl,rfl⟩⟩,J.low,fun i hi hb=>?_,rfl,[mark w.heap.size],rfl,?_⟩⟩
    .have:=kz.size;simp;omega
    .obtain⟨g1,g2⟩:=mN.de b hb hf;obtain⟨g3,g4⟩:=kz.de b oG g2;exact⟨(World.putObj_heap_other oG).trans (g3.trans g1),aC.oV g4 _⟩
    .have hi:i<nx:=by
      rcases Nat.lt_or_ge i nx with h1|h1
      .exact h1
      .rw[hn i h1] at hp;cases hp
     simp only[aC.via,J.id i hi,Option.bind_some];exact(mN.trans kz).keep i p hp
    .have hi:i<nx:=hi;simp only[aC.via,J.id i hi,Option.bind_some];exact LA i oG (by rw[az _ _ oG];exact hb)
    .refine⟨w.heap.size,rfl,a8 _,?_,?_,?_,trivial⟩
     .have:=kz.size;simp;omega
     .exact(World.putObj_heap_other oG).trans ((kz.de _ oG CB).1.trans Mx)
     .exact aC.oV (kz.de _ oG CB).2 _
   rcases Dw with⟨_,g,mc,nc,J,eR,hI,_⟩|⟨c,g,mc,nc,J,eR,hj⟩
   .have dn:(Instr.endLoop (w.heap.size+1)).run P w6=.ok none (w6.putObj (w.heap.size+1) (.loop (C .exhausted none))):=by
     have:=run_endLoop (P:=P) (pk.pO eR).2.1 (by rw[ky];simp);rw[ky] at this ⊢;exact this
    obtain⟨g1,g2⟩:=fin (.loop (C .exhausted none)) J;exact⟨none,_,dn,⟨env,mc,nc⟩,_,xR mc nc hI,g1,g2⟩
   .have dn:(Instr.endLoop (w.heap.size+1)).run P w6=.ok (some c) (w6.putObj (w.heap.size+1) (.loop (C .exhausted (some c)))):=by
     have:=run_endLoop (P:=P) (pk.pO eR).2.1 (by rw[ky];simp);rw[ky] at this ⊢;exact this
    obtain⟨g1,g2⟩:=fin (.loop (C .exhausted (some c))) J;refine⟨some c,_,dn,?_⟩;cases c with
    |ret=>exact wpIn_ret ⟨⟨env,mc,nc⟩,_,hj,g1,g2⟩
    |exit id=>exact wpIn_exit ⟨⟨env,mc,nc⟩,_,hj,g1,g2⟩
    |_=>exact hj.elim
 |_=>exact fun F n Y N₀ β₀ w₀ a₀ hY af Q st β w a h hs bZ=>E2 gX _ F none n Y true N₀ β₀ w₀ a₀ (fun _=>rfl) hY af Q st β w a h hs bZ
theorem aaH(gX:P.follows .mixedOrders=true){Y:ea}{f:FuncId}{c:Code}(hf:P.funcs[f]? =some fn)(hb:fn.body=some c)(af:gB fn.ntmps c=true){args:List D}(hn:Nat.ble args.length fn.ntmps=true){m:Mem}{nx:Nat}{K:D->St->Prop}
 (h:AX P Y c (gY P fn.results.toList K) ⟨iy args,m,nx⟩) {β:aC} {w:World} {vs:Array Value} (hY:∀ l args m nx K,Y l args m nx K->nn P F β w l args m nx K) (hm:aJ P F m β w) (cx:∀ i,nx<=i->β i=none) (C:Rs F β w args vs):
 Calls P f vs w fun e w'=>∃ v d st' β',e=.returned v/\K d st'/\R F β' w' d v/\aJ P F st'.mem β' w'/\(∀ i,st'.nx<=i->β' i=none)/\Step β w β' w'/\nx<=st'.nx/\∀ i,i<nx->β i=none->β' i=none:=by
 have hle:args.length<=fn.ntmps:=by simpa using hn
 refine(callsIn_wide (n:=0)).1 (callsIn_of_wp_marks hf hb trivial ?_)
 have bB:(vs++Array.replicate (fn.ntmps - vs.size) undef).size=fn.ntmps:=by
  simp only[Array.size_append,Array.size_replicate,C.1];omega
 let a₀:Act:={ tmps:=vs++Array.replicate (fn.ntmps - vs.size) undef,defers:=[] }
 have hE:gI F β w (iy args) a₀:=fun t=>by
  unfold iy;rcases Nat.lt_or_ge t args.length with af|bl
  .have h1:args.getD t .u=args[t]:=by simp[af]
   have h2:a₀.tmps.getD t undef=vs[t]'(by rw[C.1];exact af):=by
    show(vs++Array.replicate (fn.ntmps - vs.size) undef).getD t undef=_;have U:t<vs.size:=by rw[C.1];exact af
    simp[Array.getD_eq_getD_getElem?,Array.getElem?_append_left U,U]
   rw[h1,h2];exact C.2 t _ _ (by simp[af]) (by simp[C.1,af])
  .have h1:args.getD t .u=.u:=by simp[bl]
   rw[h1];exact .u _
 have:=aaG gX c F 0 Y nx β w a₀ hY (by show gB (vs++Array.replicate (fn.ntmps - vs.size) undef).size c=true;rw[bB];exact af) _ ⟨iy args,m,nx⟩ β w a₀ h ⟨hE,hm,cx⟩ (fU.refl ⟨iy args,m,nx⟩ β w a₀).yM;refine wpIn_mono this fun e a' w' hp=>?_;obtain⟨st',β',hq,cL,J⟩:=hp
 have X:(nD P st' fn.results.toList [] fun ds=>K (pZ ds) st')->LeavesInM (Fe none) 0 P fn a'.tmps (fun e w'=>∃ v d st' β',e=.returned v/\K d st'/\R F β' w' d v/\aJ P F st'.mem β' w'/\(∀ i,st'.nx<=i->β' i=none)/\Step β w β' w'/\nx<=st'.nx/\∀ i,i<nx->β i=none->β' i=none) a'.defers .returning w':=fun hq=>by
  obtain⟨ds,h1,h2⟩:=J.defers;rw[h1,show a₀.defers=[] from rfl,List.append_nil];refine Io ds _ w' h2 cL J.step fun w'' M KW=>?_;obtain⟨v,d,g1,g2,g3⟩:=Ov (K:=fun d=>K d st') M hq;exact⟨v,g1,v,d,st',β',rfl,g2,g3,M.m,M.n,KW,J.le,J.grow⟩
 cases e with
 |normal=>exact X hq
 |ret=>exact X hq
 |_=>exact hq.elim
theorem aaI(C:P.follows .mixedOrders=true){f:FuncId}{c:Code}(hf:lj P f fn c){args:List D}(hn:Nat.ble args.length fn.ntmps=true)(ht:∀ a∈args,Tr a){r:D}(hr:Tr r)
 (h:AX P cZ c (gY P fn.results.toList fun d _=>d=r) ⟨iy args,fun _=>none,0⟩):aA P f args r:=
 ⟨hf.he,ht,fun F w vs U X=>(aaH C hf.hf hf.hb hf.af hn h (fun _ _ _ _ _ h=>h.elim) (ES U) (fun _ _=>rfl) X).mono fun e w' hp=>by
  obtain⟨v,d,st',β',h1,rfl,J,h4,h5,M,h7,h8⟩:=hp
  exact⟨v,h1,hr.AB J,EE M⟩⟩
end
end Go.Abs
section
open Go Go.Abs Go.Proofs Go.Argus
namespace Go.Argus
def fF(x:PW):List D:=[I x.1.1,I x.1.2,aP (ao x.2)]
@[simp] theorem Pg (x : PW) : (fF x).length = 3 := rfl
theorem EY:∀ l:List PW,(l.flatMap fF).length=l.length*3
 |[]=>rfl
 |x::l=>by rw[List.flatMap_cons,List.length_append,EY l,Pg,List.length_cons];omega
theorem Ph(pre O:List PW):((pre++O).flatMap fF).drop (pre.length*3)=O.flatMap fF:=by
 rw[List.flatMap_append, <- EY pre,List.drop_left]
theorem I4{X:Nat->Prop}(x:PW):∀ d∈fF x,fG X d:=fun d hd=>by
 simp only[fF,List.mem_cons,List.not_mem_nil,or_false] at hd;rcases hd with rfl|rfl|rfl<;>first|exact .s _|exact .sl _ _
def n9(p:Nat×Nat):Value:=.agg #[.int .i64 p.1,.int .i64 p.2]
def l5(S:List (Nat×Nat)):List (Value×D):=S.map fun p=>(n9 p,B true)
theorem IG{X:Nat->Prop}(S:List (Nat×Nat)):kY X (.map (l5 S)):=fun i cs sz _=>by
 simp[Row.sub,l5,sub,pc,cE]
def CQ(x:PW):List D:=[.agg [I x.1.1,I x.1.2],aP (ao x.2)]
def jW(n:Nat)(a:Int):Bool:=decide (0<=a)&&decide (a<n)
theorem RS{α:Type}{p:α->Bool}:∀ {l:List α} {k:Nat} {x:α},l[k]? =some x->p x=true->(∀ j y,j<k->l[j]? =some y->p y=false)->l.find? p=some x
 |[],k,x,h,_,_=>by simp at h
 |y::l,0,x,h,hp,_=>by
  simp only[List.getElem?_cons_zero,aG] at h;subst h;simp[hp]
 |y::l,k+1,x,h,hp,hj=>by
  have:=hj 0 y oG rfl;rw[List.find?_cons,this];exact RS (by simpa using h) hp fun j C J hz=>hj (j+1) C oG (by simpa using hz)
def pH(l:List al)(a b:Int):List D:=
 if(di l).2=0 then(if jW l.length a&&jW l.length b then(match Gr (c6 l) (aY l) a.toNat b.toNat with
  |some x=>[aP (ao x.2),B true,I 0]
  |none=>[.z,B false,I 0]) else [.z,B false,I 1]) else [.z,B false,I (di l).2]
theorem Zv(l:List al)(a b:Int):∀ d∈pH l a b,Tr d:=by
 unfold pH;split
 .split
  .split
   .exact .cons (du _) (.cons (.s _) (.cons (.s _) .nil))
   .exact .cons .z (.cons (.s _) (.cons (.s _) .nil))
  .exact .cons .z (.cons (.s _) (.cons (.s _) .nil))
 .exact .cons .z (.cons (.s _) (.cons (.s _) .nil))
def ta(l:List al)(keep:List ByteArray)(i:Nat):Bool:=keep.any fun x=>((l.map fun f:al=>f.name).getD i (⟨#[]⟩:ByteArray)).toList==x.toList
def iv(l:List al)(i:Nat):ByteArray:=(l.map fun f:al=>f.name).getD i (⟨#[]⟩:ByteArray)
def mK(n:Nat)(f:Nat->Bool)(g:Nat->ByteArray):Mem:=a7 [(1,.cells ((range n).map fun i=>B (f i)) 4),(2,.cells [.rs 1 0 n] 92),(3,.cells ((range n).map fun i=>S (g i)) 9)]
theorem QT{n:Nat}{f f':Nat->Bool}{g g':Nat->ByteArray}(hf:∀ i,i<n->f i=f' i)(hg:∀ i,i<n->g i=g' i):mK n f g=mK n f' g':=by
 unfold mK;have e1:((range n).map fun i=>B (f i))=(range n).map fun i=>B (f' i):=List.map_congr_left fun i hi=>by rw[hf i (List.mem_range.1 hi)]
 have e2:((range n).map fun i=>S (g i))=(range n).map fun i=>S (g' i):=List.map_congr_left fun i hi=>by rw[hg i (List.mem_range.1 hi)]
 rw[e1,e2]
theorem Fg{P:Program}{env:Env}{m:Mem}{nx n:Nat}{f:Nat->Bool}{g:Nat->ByteArray}{l:List (Nat×D)}(he:kX l env)(h1:m 1=some (.cells ((range n).map fun i=>B (f i)) 4))(h2:m 2=some (.cells [.rs 1 0 n] 92))(C:m 3=some (.cells ((range n).map fun i=>S (g i)) 9)):
 aI P ⟨env,m,nx⟩ ⟨ay l,mK n f g,nx⟩:=bQ he ⟨h1,h2,C,trivial⟩
theorem X'{α:Type}{n y:Nat}(g:Nat->α)(h:y<n):∃ cs,((range n).map g).drop y=g y::cs:=by
 rw[List.drop_eq_getElem_cons (by simpa using h)];simp only[List.getElem_map,List.getElem_range];exact⟨_,rfl⟩
theorem Zw{α:Type}{p:α->Bool}{l:List α}{y:α}(h:l.find? p=some y):∃ k:Nat,l[k]? =some y/\mH p l=k:=by
 obtain⟨hp,k,hk,he,hj⟩:=List.find?_eq_some_iff_getElem.1 h;have hx:l[k]? =some y:=by rw[aU hk,he]
 exact⟨k,hx,tu hx hp fun j J C hz=>by
  have:=hj j C;obtain⟨h1,rfl⟩:=bK.1 hz
  simpa using this⟩
end Go.Argus
namespace Go.Abs
theorem acx{P:Program}{env:Env}{m:Mem}{nx:Nat}{t:TypeId}{x y:Operand}{k:IntKind}{j off l sz:Nat}{e:TypeId}{r:Row}(hx:(opd env x).core=.rs j off l)(hy:(opd env y).core=.s (.int k 0))(hm:m j=some r)(he:aD P t=e)(hs:P.cellsOf e=sz):
 Ef P (.indexAddr t x y) env m nx ⟨bi P t=true/\0<l,.rp j off,[],[j],0⟩:=by
 have h:=Ge (P:=P) (env:=env) (m:=m) (nx:=nx) (t:=t) hx hy hm he hs;have h1:off+(0:Int).toNat*sz=off:=by simp
 have h2:(bi P t=true/\(0:Int)<=0/\(0:Int)<l)=(bi P t=true/\0<l):=by
  simp
 rw[h1,h2] at h;exact h
end Go.Abs
namespace Go.Proofs.Tryz.K
theorem afh:vI prog 121=some [0,0]:=kr
theorem afi:prog.eqGuardType prog.depth 121=false:=kr
theorem afj:lN prog (lh prog 172)=B false:=kr
theorem acy(C J a b:Nat):gK [.int .i64 C,.int .i64 J] [.int .i64 a,.int .i64 b]=decide ((C,J)=(a,b)):=by
 rw[Bool.eq_iff_iff];simp[gK,pX];omega
theorem acz{P:Program}{d:Nat}{fs:List Field}{cs:List Value}{G:Nat×Nat->Option (List Lit)}{ts:List (Nat×Nat)}(h:fs.map (fun f=>(f.type,f.offset))=ts)(C:∀ t o,G (t,o)=P.keyLits d t ((cs.drop o).take (P.cellsOf t))):
 fs.mapM (fun f=>P.keyLits d f.type ((cs.drop f.offset).take (P.cellsOf f.type)))=ts.mapM G:=by
 rw[<- h,List.mapM_map];congr 1;funext f;exact(C _ _).symm
theorem Us(d:Nat){a:Int}(h: -9223372036854775808<=a/\a<=9223372036854775807):prog.keyLits (d+1) 3 [.int .i64 a]=some [.int .i64 a]:=by
 have u3:prog.underlying 3=some (.int .i64):=kr
 have C:(Lit.int .i64 a).wf=true:=by
  have e1:IntKind.i64.min= -9223372036854775808:=kr;have e2:IntKind.i64.max=9223372036854775807:=kr;simp[Lit.wf,e1,e2,h]
 simp only[Program.keyLits,u3,C,and_self,if_true]
theorem Tz:∃ fs:Array Field,prog.underlying 121=some (.struct fs)/\prog.cellsOf 121=2/\fs.all (·.name !="_")=true/\fs.toList.map (fun f=>(f.type,f.offset))=[(3,0),(3,1)]:=
 ⟨match prog.underlying 121 with|some (.struct fs)=>fs|_=> #[],by kernel_rfl,by kernel_rfl,by kernel_rfl,by kernel_rfl⟩
theorem afk(d:Nat){a b:Int}(h: -9223372036854775808<=a/\a<=9223372036854775807)(h': -9223372036854775808<=b/\b<=9223372036854775807):prog.keyLits (d+2) 121 [.int .i64 a,.int .i64 b]=some [.int .i64 a,.int .i64 b]:=by
 obtain⟨fs,hu,hc,hn,hf⟩:=Tz;have c3:prog.cellsOf 3=1:=kr;unfold Program.keyLits;simp only[hu];rw[if_pos ⟨by rw[hc];rfl,hn⟩,acz (G:=fun p=>prog.keyLits (d+1) p.1 (([.int .i64 a,.int .i64 b].drop p.2).take (prog.cellsOf p.1))) hf fun _ _=>by dsimp only];simp[c3,Us d h,Us d h']
theorem aiO:∃ d,prog.types.size+1=d+2:=⟨prog.types.size - 1,by
 have:Nat.ble 1 prog.types.size=true:=kr;have:=bC this
 omega⟩
theorem KA(p:Nat×Nat)(h:p.1<=1000000/\p.2<=1000000):cC prog 121 (n9 p)=true:=by
 obtain⟨fs,hu,hc,_,_⟩:=Tz;have hk:prog.keyType 121=true:=kr;obtain⟨d,hd⟩:=aiO;simp only[cC,n9,hu,keyOf,hk,Value.formed,hc,hd];have:=afk d (a:=p.1) (b:=p.2) oG oG;simp[Value.cells,this]
theorem TA{S:List (Nat×Nat)}(h:∀ p∈S,p.1<=1000000/\p.2<=1000000):(l5 S).all (fun e=>cC prog 121 e.1)=true:=by
 refine bS.2 fun e he=>?_;obtain⟨x,hx,rfl⟩:=List.mem_map.1 he;exact KA x (h x hx)
theorem acA(p q:Nat×Nat):kM (n9 p) (n9 q)=decide (p=q):=by
 rw[Bool.eq_iff_iff];simp[n9,kM,gK,pX,Prod.ext_iff];omega
theorem KB(q:Nat×Nat):∀ S:List (Nat×Nat),(cN (n9 q) (l5 S)).map (·.2)=if q∈S then some (B true) else none
 |[]=>rfl
 |p::S=>by
  have ih:=KB q S;have e1:l5 (p::S)=(n9 p,B true)::l5 S:=rfl;rw[e1];simp only[cN];rw[acA];by_cases h:p=q
  .subst h;simp
  .have h':¬ q=p:=fun e=>h e.symm;simp only[decide_eq_false h,Bool.false_eq_true,if_false,Option.map_map,List.mem_cons,h',false_or];rw[<- ih];rfl
theorem afl(q:Nat×Nat)(S:List (Nat×Nat)):fv prog 172 false (cN (n9 q) (l5 S))=B (decide (q∈S)):=by
 have h:=KB q S;by_cases hq:q∈S
 .rw[if_pos hq] at h;cases hl:cN (n9 q) (l5 S) with
  |none=>rw[hl] at h;cases h
  |some x=>
   rw[hl] at h;simp only[Option.map_some,aG] at h;rw[decide_eq_true hq];simp[fv,h]
 .rw[if_neg hq] at h;cases hl:cN (n9 q) (l5 S) with
  |none=>rw[decide_eq_false hq];simp[fv,afj]
  |some x=>rw[hl] at h;cases h
theorem afm{q:Nat×Nat}{S:List (Nat×Nat)}(h:q∉S):fV (n9 q) (B true) (l5 S)=l5 (S++[q]):=by
 have h1:=KB q S;rw[if_neg h] at h1;unfold fV;cases hl:cN (n9 q) (l5 S) with
 |none=>simp[l5]
 |some x=>rw[hl] at h1;cases h1
theorem Nt{l:List al}{sh:List ByteArray}{ca:List (List Int)}{a b:Int}:aA prog 71 [.agg (cS l sh ca),.agg [I a,I b]] (.fn (.func 114) [] [.pt [I a,I b],.pt (cS l sh ca)]):=by
 have t1:∀ d∈[I a,I b],Tr d:=.cons (.s _) (.cons (.s _) .nil);have t2:=E' l sh ca;refine bj aiP (.cons (.agg t2) (.cons (.agg t1) .nil)) (.fn oS (.cons (.pt t1) (.cons (.pt t2) .nil))) ?_;rw[aiQ];refine aw ?_;refine eA (r9 (cs:=cS l sh ca) rfl) aK (by first|rfl|exact rO eB bN|exact nF _|exact ud rC) ?_;refine eA (r9 (cs:=[I a,I b]) rfl) aK (by first|rfl|exact rO eB bN|exact nF _|exact ud rC) ?_;refine au (jx (v:=.s .nilFunc) rfl) ak trivial ?_;refine aa (bG (dB [(0,cS l sh ca,82),(1,[I a,I b],121)] eH (l:=[(2,.pt (cS l sh ca)),(3,.pt [I a,I b])]) eH) (aj ?_));refine SS ?_;refine au (jx (v:=.fn _ _ _) rfl) ak trivial ?_;exact aa (aF rfl rfl)
structure WS where
 k:Nat
 S:Nat->Prop
 m:Mem
 nx:Nat
 j:Nat
 pre:List PW
 seen:List (Nat×Nat)
 O:List PW
structure WI(I':(Nat->Prop)->Mem->Nat->Prop)(r:Nat)(s:WS):Prop where
 inv:I' s.S s.m s.nx
 slt:∀ i,s.S i->i<s.nx
 sr:s.S r
 sj:s.S s.j
 ne:s.j≠r
 amJ:s.m r=some (.map (l5 s.seen))
 amK:s.m s.j=some (.cells ((s.pre++s.O).flatMap fF) 174)
structure WP(sn:List Nat)(ca:List (List Nat))(fr:Nat×Nat)(wsq:List PW)(k:Nat)(seen:List (Nat×Nat))(O pre:List PW):Prop where
 go:∃ Y f,wsq=Y++sq sn ca fr f (seen,O)/\Y.length=k/\BI sn ca fr Y seen O/\ca.length*ca.length<f+k
 len:∀ y∈O,y.2.length<=seen.length
 pre:pre.length<=k
theorem WP.next{sn:List Nat}{ca:List (List Nat)}{fr:Nat×Nat}{wsq:List PW}{k:Nat}{seen C:List (Nat×Nat)}{x:PW}{O J pre M:List PW}(af:∀ w p,sM sn ca fr w p->p.1<ca.length/\p.2<ca.length)(h:WP sn ca fr wsq k seen (x::O) pre)
 (hn:vQ sn ca fr (seen,x::O)=(C,J)) (hl:∀ y∈J,y.2.length<=C.length) (hp:M.length<=k+1):WP sn ca fr wsq (k+1) C J M/\wsq[k]? =some x:=by
 obtain⟨⟨Y,f,h1,h2,U,h4⟩,_,_⟩:=h;have:=Gq U af;simp only[List.length_cons] at this;obtain⟨f,rfl⟩:∃ g,f=g+1:=⟨f - 1,oG⟩
 have e:sq sn ca fr (f+1) (seen,x::O)=x::sq sn ca fr f (vQ sn ca fr (seen,x::O)):=rfl;have X:=RQ U;rw[e,hn] at h1;rw[hn] at X;refine⟨⟨⟨Y++[x],f,by rw[h1];simp,by simp[h2],X,oG⟩,hl,hp⟩,?_⟩;rw[h1, <- h2,List.getElem?_append_right (a8 _)];simp
theorem WP.end{sn:List Nat}{ca:List (List Nat)}{fr:Nat×Nat}{wsq:List PW}{k:Nat}{seen:List (Nat×Nat)}{pre:List PW}(h:WP sn ca fr wsq k seen [] pre):wsq.length=k:=by
 obtain⟨⟨Y,f,h1,h2,C,J⟩,_,_⟩:=h;rw[h1];cases f<;>simp[sq,h2]
theorem QS{ca:List (List Nat)}{fr p:Nat×Nat}{x:PW}{S:List (Nat×Nat)}{O:List PW}{k:Nat}(hp:oa ca x.1 k=p)(h:¬ (p≠fr/\p∉S)):vS ca fr x (S,O) k=(S,O):=by
 unfold vS;rw[hp,if_neg h]
theorem Zt{ca:List (List Nat)}{fr p:Nat×Nat}{x:PW}{S:List (Nat×Nat)}{O:List PW}{k:Nat}(hp:oa ca x.1 k=p)(h1:p≠fr)(h2:p∉S):vS ca fr x (S,O) k=(S++[p],O++[(p,x.2++[k])]):=by
 unfold vS;rw[hp,if_pos ⟨h1,h2⟩]
def VD(l:Nat)(fl:List al)(sh:List ByteArray)(ca:List (List Nat))(a b r:Nat)(s:WS):St:=
 ⟨ay [(0,.fn (.yield l) [] []),(1,.pt [I a,I b]),(2,.pt (cS fl sh (ca.map ao))),(4,.mp r),(5,.rs s.j (s.pre.length*3) s.O.length)],s.m,s.nx⟩
theorem aiR{fl:List al}{sh:List ByteArray}{ca:List (List Nat)}{a b:Nat}(mf:sh.length=ca.length)(hN:ca.length<=1000)(jM:DG ca)(hlen:Lb (br sh) ca)(ha:a<ca.length)(hb:b<ca.length)(dz:∀ x∈ca,x.length<=100000):
 Hf prog 114 [] [.pt [I a,I b],.pt (cS fl sh (ca.map ao))] ((pU (br sh) ca a b).map CQ):=by
 refine aci mixed afn kr fun l I' Stop m nx hI hF Db h0=>?_;rw[afo];refine ws ?_;refine ab ?_;refine aa (aw ?_);refine aZ ?_;generalize fx:br sh=sn at*
 have af:∀ w p,sM sn ca (a,b) w p->p.1<ca.length/\p.2<ca.length:=fun w p=>J8 jM hlen ha hb;refine aa ?_;have hC:aP (ao [])=.sl [] 0:=rfl
 refine(kq (α:=WS) (VD l fl sh ca a b nx)
  (fun s=>WI (I' s.k) nx s/\WP sn ca (a,b) (pU sn ca a b) s.k s.seen s.O s.pre) (fun s=>(pU sn ca a b).length - s.k) ⟨0,fun i=>i=nx\/i=nx+1,up (up m nx (some (.map []))) (nx+1) (some (.cells (fF ((a,b),[])) 174)),nx+2,nx+1,[],[],[((a,b),[])]⟩
  ((av (l:=[(0,.fn (.yield l) [] []),(1,.pt [I a,I b]),(2,.pt (cS fl sh (ca.map ao))),(4,.mp nx),(5,.rs (nx+1) 0 1)]) eH).trans (.nv _ _ _ _ _ (fun _ _ _ _ _ h=>h) fun i=>?_))
  ⟨⟨hI 0 _ m nx (fun i=>i=nx\/i=nx+1) (up (up m nx (some (.map []))) (nx+1) (some (.cells (fF ((a,b),[])) 174))) (nx+2) h0 oG (fun i hi _=>ag oG (ag oG rfl)) fun i hi=>.inr oG,fun i hi=>by dsimp only at hi ⊢;omega,.inl rfl,.inr rfl,oM,ag oG (ah _ _ _),ah _ _ _⟩,⟨⟨[],ca.length*ca.length+2,rfl,rfl,?_,oG⟩,fun y hy=>?_,a8 _⟩⟩ ?_)
 .by_cases hi:i=nx+1
  .subst hi;refine .inr ⟨_,fF ((a,b),[]),174,ah _ _ _,ah _ _ _,rfl,fun k d d' hd fa=>?_⟩
   match k with
   |0=>cases hd;cases fa;exact fun _ _ _ _ h=>h
   |1=>cases hd;cases fa;exact fun _ _ _ _ h=>h
   |2=>cases hd;cases fa;exact A4
   |k+3=>cases hd
  .exact .inl ((az _ _ hi).trans (az _ _ hi).symm)
 .refine⟨fun x hx=>?_,rfl,oS,oS,fun x hx y hy=>?_,fun x hx=>by simp at hx⟩
  .simp only[List.nil_append,List.mem_cons,List.not_mem_nil,or_false] at hx;subst hx;exact .nil
  .simp only[List.mem_cons,List.not_mem_nil,or_false] at hx hy;subst hx hy;omega
 .simp only[List.mem_cons,List.not_mem_nil,or_false] at hy;subst hy;exact a8 _
 .rintro⟨k,S,m,C,j,pre,seen,O⟩ ⟨⟨hinv,qd,s8,s9,aE,kv,ap⟩,BF⟩;dsimp only at hinv qd s8 s9 aE kv ap BF;obtain⟨⟨Yd,f,nN,hYk,hB,hf⟩,TC,ra⟩:=id BF;unfold VD;dsimp only;have c8:=Gq hB af;have hNN:ca.length*ca.length<=1000000:=Nat.mul_le_mul hN hN;refine ax ?_;refine aa ⟨_,rfl,fun h=>?_,fun h=>?_⟩
  .cases O with
   |nil=>simp at h
   |cons x O=>
    clear h
    have hd:(((pre++x::O).flatMap fF).drop (pre.length*3)).take 3=fF x:=by
     rw[Ph,List.flatMap_cons];exact List.take_left' (Pg x)
    refine aw ?_;refine SS ?_;refine au (acx rfl rfl ap A' uy) aK ⟨AM,oS⟩ ?_;refine au (eL rfl ap Uu uy hd) aK (eM t174 uy (by rw[EY];simp;omega)) ?_;refine eA (Fs Hn) aK t174 ?_;refine bM (fk rfl rfl (ah _ _ _) rfl) aK (bU t174 uy oS (by rfl)) ?_;obtain⟨U,rI⟩:∃ U:Nat->Prop,U=fun i=>S i\/i=C:=⟨_,rfl⟩
    have me:=qd _ s9;have rG:=qd _ s8;have adE:∀ y∈O,y.2.length<=seen.length:=fun y hy=>TC y (List.mem_cons_of_mem _ hy)
    have Uv:(pU sn ca a b)[k]? =some x:=by
     obtain⟨⟨Y,f,h1,h2,h3,h4⟩,_,_⟩:=BF;obtain⟨f,rfl⟩:∃ g,f=g+1:=⟨f - 1,by simp at c8;omega⟩
     rw[h1, <- h2,List.getElem?_append_right (a8 _)];simp[sq]
    have VE:((pU sn ca a b).map CQ)[k]? =some (CQ x):=by rw[List.getElem?_map,Uv];rfl
    have iF:k<(pU sn ca a b).length:=(bK.1 Uv).1;obtain⟨m2,ik⟩:∃ m2,m2=up (up m C (some (Row.cells [D.s (Value.int IntKind.i64 0),D.s (Value.int IntKind.i64 0),D.z] 174))) C (some (Row.cells (fF x) 174)):=⟨_,rfl⟩
    have ov:∀ i,i≠C->m2 i=m i:=fun i hi=>by rw[ik,az _ _ hi,az _ _ hi]
    have aiS:m2 C=some (Row.cells (fF x) 174):=by rw[ik];exact ah _ _ _
    have wl:U nx:=by rw[rI];exact .inl s8
    have yC:U j:=by rw[rI];exact .inl s9
    have yi:∀ i,U i->i<C+1:=fun i hi=>by
     rw[rI] at hi;rcases hi with hi|hi
     .have:=qd i hi;omega
     .omega
    have AN:I' k U (dh C (fF x) (prog.cellsOf 174) m2) (C+1):=hF k U m2 (C+1) C _ (by rw[rI];exact .inr rfl) (hI k S m C U m2 (C+1) hinv oG (fun i hi _=>ov i oG) fun i hi=>by
     rw[rI] at hi;rcases hi with hi|hi
     .exact .inl hi
     .exact .inr oG)
    have vC:dh C (fF x) (prog.cellsOf 174) m2 nx=some (.map (l5 seen)):=gS ((ov nx oG).trans kv) oG (IG seen);have qU:dh C (fF x) (prog.cellsOf 174) m2 j=some (.cells ((pre++x::O).flatMap fF) 174):=gS ((ov j oG).trans ap) oG (zK I4 _);refine aa ⟨⟨ay [(0,.fn (.yield l) [] []),(1,.pt [I a,I b]),(2,.pt (cS fl sh (ca.map ao))),(4,.mp nx),(5,.rs j (pre.length*3) (x::O).length),(6,.pt (fF x))],dh C (fF x) (prog.cellsOf 174) m2,C+1⟩,?_,?_⟩
    .subst ik;exact lz (i:=C) (cs:=fF x) (e:=174) (ah _ _ _) ⟨rfl,rfl,rfl,rfl,if_neg oG,if_pos rfl,trivial⟩
    clear aiS ov ik kv ap hinv qd s8 s9;generalize dh C (fF x) (prog.cellsOf 174) m2=m at*
    refine aB (aj ?_);refine bu ?_;refine LO rfl rfl aK ⟨rfl,k,U,VE,yi,AN,fun d m' ai hp=>?_⟩;obtain⟨hp,A3,jD⟩:=hp;rcases hp with⟨rfl,hp⟩|⟨rfl,hp⟩
    .refine SS ?_;refine aa (cR rfl (fun h=>oH) fun h=>?_);have kv:=(jD nx wl).trans vC;have ap:=(jD j yC).trans qU;clear jD vC qU;obtain⟨En,BG⟩:=af _ _ (hB.lead x oS);obtain⟨sa,Em⟩:∃ sa,sh[x.1.1]? =some sa:=⟨_,aU oG⟩
     obtain⟨sb,Nu⟩:∃ sb,sh[x.1.2]? =some sb:=⟨_,aU oG⟩
     have kC:(sn.getD x.1.1 0=sn.getD x.1.2 0)↔sa=sb:=by
      have:=Jz Em Nu;rw[fx] at this;rw[<- this];have l1:x.1.1<sn.length:=by rw[<- fx];simpa using(by omega:x.1.1<sh.length)
      have l2:x.1.2<sn.length:=by rw[<- fx];simpa using(by omega:x.1.2<sh.length)
      rw[eU (d:=0) l1,eU (d:=0) l2,aG]
     have amL:(ca.map ao)[x.1.1]? =some (ao (ca.getD x.1.1 [])):=by rw[List.getElem?_map,eU (d:=[]) En];rfl
     have amM:(ca.map ao)[x.1.2]? =some (ao (ca.getD x.1.2 [])):=by rw[List.getElem?_map,eU (d:=[]) BG];rfl
     refine cI (aB (ep Zu ?_));refine bt ?_;refine cr ?_;refine ct cG (cR rfl (fun h=>?_) fun h=>?_)
     .have aiT:=aE
      have aE:¬ sn.getD x.1.1 0=sn.getD x.1.2 0:=fun e=>by
       rw[kC] at e;subst e;simp at h
      refine tm (Gj ?_);refine SS ?_;refine au (E6 rfl ap A' uy (a:=1) (b:=((x::O).length:Nat)) rfl rfl) aK ⟨⟨AM,rfl⟩,oG,by rw[List.length_cons];omega,Int.le_refl _⟩ ?_;refine au (jx (v:=.rs _ _ _) rfl) aK trivial ?_;refine aa (bg ⟨k+1,U,m',ai,j,pre++[x],seen,O⟩ (av ⟨rfl,rfl,rfl,rfl,?_,trivial⟩) ⟨⟨hp,fun i hi=>by have:=yi i hi;dsimp only;omega,wl,yC,aiT,kv,by rw[List.append_assoc];exact ap⟩,(BF.next af (by unfold vQ;simp only[if_neg aE];rfl) adE oP).1⟩ oM);show D.rs j (pre.length*3+(1:Int).toNat*3) (((x::O).length:Int) - 1).toNat=D.rs j ((pre++[x]).length*3) O.length;congr 1
      .simp;omega
      .simp
     .have sY:sn.getD x.1.1 0=sn.getD x.1.2 0:=by
       rw[kC];have:sa.toList=sb.toList:=by simpa using h
       rw[qF,qF] at this;exact vB this
      refine cI (aw ?_);refine bt ?_;have hcx:ao (ca.getD x.1.1 [])=ao (ca.getD x.1.1 []):=rfl;have fM:(ao (ca.getD x.1.1 [])).length=(ca.getD x.1.1 []).length:=by simp
      have amN:(ca.getD x.1.2 []).length=(ca.getD x.1.1 []).length:=(hlen _ _ En BG sY).symm;have zh:(ca.getD x.1.1 []).length<=100000:=dz _ (bD (eU (d:=[]) En))
      refine aa (cy (α:=Nat×WS) (fun s=>⟨ay [(0,.fn (.yield l) [] []),(1,.pt [I a,I b]),(2,.pt (cS fl sh (ca.map ao))),(4,.mp nx),(5,.rs s.2.j (s.2.pre.length*3) s.2.O.length),(6,.pt (fF x)),(50,aP (ao (ca.getD x.1.1 []))),(51,I (ao (ca.getD x.1.1 [])).length),(52,I s.1)],s.2.m,s.2.nx⟩)
       (fun s=>WI (I' (k+1)) nx s.2/\s.1<=(ca.getD x.1.1 []).length/\oX ca (a,b) x (seen,x::O) s.1=(s.2.seen,s.2.O)/\s.2.pre.length<=k/\∀ y∈s.2.O,y.2.length<=s.2.seen.length) (fun s=>(ca.getD x.1.1 []).length - s.1) (0,⟨k+1,U,m',ai,j,pre,seen,x::O⟩)
       (av eH) ⟨⟨hp,fun i hi=>by have:=yi i hi;dsimp only;omega,wl,yC,aE,kv,ap⟩,Nat.zero_le _,rfl,ra,TC⟩ ?_)
      clear kv ap hp VE;rintro⟨i,⟨k2,S,m,C,j,pre,oc,O2⟩⟩ ⟨⟨hinv,qd,s8,s9,aE,kv,ap⟩,hi,hE,ra,Ap⟩;dsimp only at hinv qd s8 s9 aE kv ap hi hE ra Ap ⊢;obtain⟨O',Ec,BH,gv,_⟩:=J9 sY (hB.lead x oS) i hi hB;rw[hE] at Ec BH;dsimp only at Ec BH;subst Ec;have Uw:=Gq BH af
      have amO:oc.length<=1000000:=by
       have:=congrArg List.length BH.pR;simp at this Uw;omega
      have uL:∀ p∈oc,p.1<=1000000/\p.2<=1000000:=fun p hp=>by
       have:p∈(Yd++x::O').map (·.1):=by rw[BH.pR];exact List.mem_cons_of_mem _ hp
       obtain⟨y,hy,rfl⟩:=List.mem_map.1 this;have:=af _ _ (BH.lead y hy);omega
      refine SS ?_;refine aa ⟨_,rfl,fun h=>?_,fun h=>?_⟩
      .have eR:i<(ca.getD x.1.1 []).length:=by simpa using h
       clear h;have uM:(ao (ca.getD x.1.1 []))[i]? =some (((ca.getD x.1.1 []).getD i 0:Nat):Int):=by rw[List.getElem?_map,eU (d:=0) eR];rfl
       have nP:(ao (ca.getD x.1.2 []))[i]? =some (((ca.getD x.1.2 []).getD i 0:Nat):Int):=by rw[List.getElem?_map,eU (d:=0) oG];rfl
       refine ws ?_;refine bu ?_;refine aa (aw ?_);refine bt ?_;refine ab ?_;refine au (E5 Ux TD Ho rfl rfl) aK ⟨t121,TE⟩ ?_;refine eA (Fs Ho) aK t121 ?_;refine bM (fk rfl rfl (ah _ _ _) rfl) aK (bU t121 L6 ⟨rfl,a8 2⟩ (by rfl)) ?_;obtain⟨U,rI⟩:∃ U:Nat->Prop,U=fun i=>S i\/i=C:=⟨_,rfl⟩
       have me:=qd _ s9;have rG:=qd _ s8;obtain⟨J,eB⟩:∃ J,J=(ca.getD x.1.1 []).getD i 0:=⟨_,rfl⟩
       obtain⟨M,HZ⟩:∃ M,M=(ca.getD x.1.2 []).getD i 0:=⟨_,rfl⟩
       have Nv:(J,M).1<=1000000/\(J,M).2<=1000000:=by
        have h1:=jM x.1.1 _ (bD (eU (d:=0) eR));have h2:=jM x.1.2 _ (bD (eU (d:=0) (show i<(ca.getD x.1.2 []).length by omega)));rw[<- eB] at h1;rw[<- HZ] at h2;dsimp only;omega
       have Nw:oX ca (a,b) x (seen,x::O) (i+1)=vS ca (a,b) x (oc,x::O') i:=by
        rw[<- hE];unfold oX;rw[List.range_succ,List.foldl_append];rfl
       have Lc:oa ca x.1 i=(J,M):=by rw[eB,HZ];rfl
       obtain⟨m2,ik⟩:∃ m2,m2=up (up m C (some (Row.cells [D.s (Value.int IntKind.i64 0),D.s (Value.int IntKind.i64 0)] 121))) C (some (Row.cells [I J,I M] 121)):=⟨_,rfl⟩
       have ov:∀ i,i≠C->m2 i=m i:=fun i hi=>by rw[ik,az _ _ hi,az _ _ hi]
       have wl:U nx:=by rw[rI];exact .inl s8
       have yC:U j:=by rw[rI];exact .inl s9
       have yi:∀ i,U i->i<C+1:=fun i hi=>by
        rw[rI] at hi;rcases hi with hi|hi
        .have:=qd i hi;omega
        .omega
       have AN:I' (k+1) U (dh C [I J,I M] (prog.cellsOf 121) m2) (C+1):=hF (k+1) U m2 (C+1) C _ (by rw[rI];exact .inr rfl) (hI (k+1) S m C U m2 (C+1) hinv oG (fun i hi _=>ov i oG) fun i hi=>by
        rw[rI] at hi;rcases hi with hi|hi
        .exact .inl hi
        .exact .inr oG)
       have vC:dh C [I J,I M] (prog.cellsOf 121) m2 nx=some (.map (l5 oc)):=gS ((ov nx oG).trans kv) oG (IG oc);have qU:dh C [I J,I M] (prog.cellsOf 121) m2 j=some (.cells ((pre++x::O').flatMap fF) 174):=gS ((ov j oG).trans ap) oG (zK I4 _);refine aa ⟨⟨ay [(0,.fn (.yield l) [] []),(1,.pt [I a,I b]),(2,.pt (cS fl sh (ca.map ao))),(4,.mp nx),(5,.rs j (pre.length*3) (x::O').length),(6,.pt (fF x)),(7,I i),(9,.pt [I J,I M]),(50,aP (ao (ca.getD x.1.1 []))),(51,I (ao (ca.getD x.1.1 [])).length),(52,I i)],dh C [I J,I M] (prog.cellsOf 121) m2,C+1⟩,?_,?_⟩
       .subst ik eB HZ;exact lz (i:=C) (cs:=[I ((ca.getD x.1.1 []).getD i 0:Nat),I ((ca.getD x.1.2 []).getD i 0:Nat)]) (e:=121) (ah _ _ _) ⟨rfl,rfl,rfl,rfl,if_neg oG,rfl,rfl,if_pos rfl,rfl,rfl,rfl,trivial⟩
       clear ov ik kv ap hinv qd s8 s9 eB HZ;generalize dh C [I J,I M] (prog.cellsOf 121) m2=m at*
       refine ws ?_;refine ab ?_;refine au (TF (c:= !decide ((J,M)=(a,b))) rfl rfl afh rfl (by rw[acy])) aK ⟨rfl,afi⟩ ?_;refine au (cV (v:=.s (.bool _)) rfl) aK trivial ?_;by_cases H0:(J,M)=(a,b)
       .rw[decide_eq_true H0];iterate 2 refine z fun _ _=>?_
        refine jf rfl rfl fun _ _=>?_;refine z fun _ _=>?_;refine SS ?_;refine aa (aO rfl (fun h=>oH) fun h=>cT ?_);show aq _ _ _ _ _ _ _ _ _;refine au (GO rfl rfl oG) aK rfl ?_;refine au (cV (v:=.s (.int _ _)) rfl) aK trivial ?_;exact aa (bg (i+1,⟨k2,U,m,C+1,j,pre,oc,x::O'⟩) (av eH) ⟨⟨AN,yi,wl,yC,aE,vC,qU⟩,oM,by rw[Nw,QS Lc (fun e=>e.1 H0)],ra,Ap⟩ oM)
       .rw[decide_eq_false H0];refine bd rfl rfl (cV (v:=.mp _) rfl) (fun hc=>⟨ak,trivial⟩) ?_;refine SS ?_;refine bd rfl rfl (E7 rfl vC rfl Ld (afl (J,M) oc)) (fun hc=>⟨(by repeat' (first|exact trivial|exact hc|exact rfl|refine And.intro ?_ ?_)),⟨Le,KA _ Nv,TA uL⟩⟩) ?_;refine ab ?_;refine aa (aO rfl (fun h=>aj ?_) fun h=>cT ?_)
        .have BC:(J,M)∉oc:=by simpa using h
         clear h;have hxw:x.2.length<=oc.length:=Ap x oS;have amP:O'.length<=1000000:=by simp at Uw;omega
         refine ab ?_;refine bM (xC (key:=n9 (J,M)) (v:=B true) rfl vC rfl rfl Ld) aK ⟨Le,KA _ Nv,TA uL⟩ ?_;refine aa (z7 X9 ?_);rw[afm BC];refine dG ?_;refine ab ?_;refine rh (ad8 rfl rfl rfl V.h (by rw[zl,c3];simp)) ak ?_;refine SS ?_;refine eA (tq (cs:=[_]) zl c3 z3 rfl rfl) aK ⟨rfl,oC,AZ,oC⟩ ?_;refine Hb (ab2 rfl zl c3 (j5 (ah _ _ _) rfl).ok (bC rfl) AZ oS oC oC (by unfold maxLen;simp;omega) (by rw[b3];simp;omega)) aK ?_;refine au (E5 Uy TG Hn rfl rfl) aK ⟨t174,TH⟩ ?_;refine eA (tq A' uy Hn rfl rfl) aK ⟨rfl,oC,AM,oC⟩ ?_;have gn:∀ {a b c d},up (up (up (up m nx a) (C+1) b) (C+1+1) c) (C+1+1+1) d j=some (.cells ((pre++x::O').flatMap fF) 174):=ag oG (ag oG (ag oG (ag oG qU)));refine iC (iw rfl gn rfl A' uy (j5 (ah _ _ _) rfl) rfl) aK ⟨AM,rfl,bC rfl,oC,by rw[EY];simp;omega,by unfold maxLen;simp;omega,by rw[Uz];simp;omega,by simp;omega⟩ ?_;refine au (jx (v:=.rs _ _ _) rfl) aK trivial ?_;refine ct cG ?_;refine au (GO rfl rfl oG) aK rfl ?_;refine au (cV (v:=.s (.int _ _)) rfl) aK trivial ?_;obtain⟨m3,Eo⟩:∃ m3,m3=up (up (up (up (up (up m nx (some (.map (l5 (oc++[(J,M)]))))) (C+1) (some (.cells [I i] 3))) (C+1+1) (some (.cells ((ao x.2).map I++[I i]) 3))) (C+1+1+1) (some (.cells [I J,I M,.rs (C+1+1) 0 ((ao x.2).length+1)] 174))) j none) (C+1+1+1+1) (some (.cells (((pre++x::O').flatMap fF).drop (pre.length*3)++[I J,I M,.rs (C+1+1) 0 ((ao x.2).length+1)]) 174)):=⟨_,rfl⟩
         refine aa (bg (i+1,⟨k2,fun q=>U q\/(C+1<=q/\q<C+1+1+1+1+1),dh (C+1+1) ((ao x.2).map I++[I i]) (prog.cellsOf 3) m3,C+1+1+1+1+1,C+1+1+1+1,[],oc++[(J,M)],x::(O'++[((J,M),x.2++[i])])⟩) ?_ ⟨⟨?_,?_,?_,?_,?_,?_,?_⟩,?_,?_,?_,?_⟩ oM)
         .have hr:m3 (C+1+1)=some (.cells ((ao x.2).map I++[I i]) 3):=by rw[Eo];exact ag oG (ag oG (ag oG (ah _ _ _)))
          clear AN vC qU gn;subst Eo;refine lz (i:=C+1+1) (cs:=(ao x.2).map I++[I i]) (e:=3) hr ⟨rfl,rfl,rfl,rfl,?_,rfl,rfl,rfl,rfl,trivial⟩;refine(xe oG).trans ?_;show D.rs (C+1+1+1+1) 0 _=D.rs (C+1+1+1+1) 0 _;congr 1;simp
         .refine hF (k+1) _ m3 _ (C+1+1) _ (.inr oG) (hI (k+1) U m (C+1) _ m3 (C+1+1+1+1+1) AN oG (fun q hq VF=>?_) fun q hq=>hq);have q1:q≠j:=fun e=>VF (e▸yC);have q2:q≠nx:=fun e=>VF (e▸wl);rw[Eo,az _ _ oG,az _ _ q1,az _ _ oG,az _ _ oG,az _ _ oG,az _ _ q2]
         .intro q hq;dsimp only at hq ⊢;rcases hq with hq|hq
          .have:=yi q hq;omega
          .exact hq.2
         .exact .inl wl
         .exact .inr oM
         .dsimp only;omega
         .refine gS ?_ oG (IG _);rw[Eo];exact ag oG (ag oG (ag oG (ag oG (ag oG (ah _ _ _)))))
         .have dd:=zK (X:=fun k=>k=C+1+1) I4 (x::O') (e:=174) (C+1+1) ((ao x.2).map I++[I i]) (prog.cellsOf 3) rfl;simp only[Row.sub,Row.cells.injEq,and_true] at dd;dsimp only;unfold dh;rw[if_neg oG,Eo,ah];simp only[Option.map_some,Row.sub];rw[Ph,List.map_append,dd]
          have e1:([]++x::(O'++[((J,M),x.2++[i])])).flatMap fF=(x::O').flatMap fF++fF ((J,M),x.2++[i]):=by
           rw[List.nil_append, <- List.cons_append,List.flatMap_append];simp
          rw[e1]
          have e2:sub (cE (C+1+1) ((ao x.2).map I++[I i]) (prog.cellsOf 3)) (.rs (C+1+1) 0 ((ao x.2).length+1))=aP (ao (x.2++[i])):=by
           rw[iJ (by rw[c3];simp)];simp[aP,ao]
          have e3:∀ n:Int,sub (cE (C+1+1) ((ao x.2).map I++[I i]) (prog.cellsOf 3)) (I n)=I n:=fun _=>rfl;simp only[List.map_cons,List.map_nil,e2,e3];rfl
         .dsimp only;omega
         .dsimp only;rw[Nw,Zt Lc H0 BC];rfl
         .exact Nat.zero_le _
         .intro y hy;dsimp only at hy ⊢;rw[<- List.cons_append,List.mem_append] at hy;rw[List.length_append];rcases hy with hy|hy
          .have:=Ap y hy;omega
          .simp only[List.mem_cons,List.not_mem_nil,or_false] at hy;subst hy;simp;omega
        .have BC:(J,M)∈oc:=by simpa using h
         show aq _ _ _ _ _ _ _ _ _;refine au (GO rfl rfl oG) aK rfl ?_;refine au (cV (v:=.s (.int _ _)) rfl) aK trivial ?_;exact aa (bg (i+1,⟨k2,U,m,C+1,j,pre,oc,x::O'⟩) (av eH) ⟨⟨AN,yi,wl,yC,aE,vC,qU⟩,oM,by rw[Nw,QS Lc (fun e=>e.2 BC)],ra,Ap⟩ oM)
      .have bl:¬ i<(ca.getD x.1.1 []).length:=by simpa using h
       have:i=(ca.getD x.1.1 []).length:=by omega
       subst this;refine SS ?_;refine au (E6 rfl ap A' uy (a:=1) (b:=((x::O').length:Nat)) rfl rfl) aK ⟨⟨AM,rfl⟩,oG,by rw[List.length_cons];omega,Int.le_refl _⟩ ?_;refine au (jx (v:=.rs _ _ _) rfl) aK trivial ?_;refine aa (bg ⟨k+1,S,m,C,j,pre++[x],oc,O'⟩ (av ⟨rfl,rfl,rfl,rfl,?_,trivial⟩) ⟨⟨hinv,qd,s8,s9,aE,kv,by rw[List.append_assoc];exact ap⟩,(BF.next af (by unfold vQ;simp only[if_pos sY];rw[hE];rfl) (fun y hy=>Ap y (List.mem_cons_of_mem _ hy)) oP).1⟩ oM);show D.rs j (pre.length*3+(1:Int).toNat*3) (((x::O').length:Int) - 1).toNat=D.rs j ((pre++[x]).length*3) O'.length;congr 1
       .simp;omega
       .simp
    .refine SS ?_;exact aa (cR rfl (fun h=>xD (bJ (bE (cu (vy (.inr hp)))))) fun h=>oH)
  .cases O with
   |nil=>
    refine vz (Or.inl ⟨S,?_⟩);rw[List.length_map,BF.end];exact hinv
   |cons x O=>simp at h
theorem wR{l:List al}{a b:Int}(hl:l.length<=1000):aA prog 70 [bc l,I a,I b] (.aL [.agg (q6 l),I (if(di l).2=0 then(if jW l.length a&&jW l.length b then 0 else 1) else(di l).2)]):=by
 have gO:=gO hl;refine bj aiU (.cons (gP l) (.cons (.s _) (.cons (.s _) .nil))) (.aL (.cons (.agg (QK l)) (.cons (.s _) .nil))) ?_;rw[aiV];refine ws ?_;refine ab ?_;refine er ?_;have J:=zX (l:=l);have M:=Ca (l:=l);generalize (di l).2=err at*
 by_cases he:err=0
 .have C:=J he;rw[C] at gO ⊢;subst he;refine SS ?_;refine cl gO ?_;refine cr ?_;have iY:=iY (l:=l) (sh:=bA l) (ca:=(aY l).map ao);have nG:((0:Int)==0)=true:=rfl;refine aa (aB (aj ?_));refine dG ?_;refine gc iY ?_;refine bt ?_;refine gc iY ?_;refine ax ?_
  have hb:(if(if(if decide (a<0)=true then true else decide ((l.length:Int)<=a))=true then true else decide (b<0))=true then true else decide ((l.length:Int)<=b))= !(jW l.length a&&jW l.length b):=by
   unfold jW;rw[Bool.eq_iff_iff];simp;omega
  rw[hb];refine aa (cR rfl (fun h=>?_) fun h=>?_)
  .have h:(jW l.length a&&jW l.length b)=false:=by revert h;cases (jW l.length a&&jW l.length b)<;>simp
   rw[h,if_pos rfl,if_neg oS];refine ws ?_;refine SS ?_;refine er ?_;refine aZ ?_;exact aa (bJ (mW (gy rfl rfl s5 mT rfl t82 (a8 3)) rfl rfl))
  .have h:(jW l.length a&&jW l.length b)=true:=by simpa using h
   rw[h,if_pos rfl,if_pos rfl];refine cI (aj ?_);refine aZ ?_;exact aa (bJ (mW (gy rfl rfl s5 mT rfl t82 (a8 3)) rfl rfl))
 .have C:=M he;rw[C] at gO ⊢;have nG:(err==0)=false:=by simpa using he
  refine SS ?_;refine cl gO ?_;refine cr ?_;refine aa (aB (aj ?_));have iY:(false==true)=true->aA prog 48 [.agg [.z,.z,.z]] (I 0):=fun h=>by cases h
  refine au (cV (v:=.s (.int _ _)) rfl) aK trivial ?_
  (first|refine au (CL rfl rfl nG) aK rfl ?_|refine au (CL rfl rfl Dc) aK rfl ?_|refine au (GN rfl rfl) aK rfl ?_)
  refine au (cV (v:=.s (.bool _)) rfl) aK trivial ?_
  (first|refine bd rfl rfl (cV (v:=.s (.int _ _)) rfl) (fun hc=>⟨(by repeat' (first|exact trivial|exact hc|exact rfl|refine And.intro ?_ ?_)),trivial⟩) ?_)
  (first|refine bd rfl rfl (adF rfl rfl aiW) (fun hc=>⟨(by repeat' (first|exact trivial|exact hc|exact rfl|refine And.intro ?_ ?_)),rfl⟩) ?_|refine bd rfl rfl (GL rfl rfl) (fun hc=>⟨(by repeat' (first|exact trivial|exact hc|exact rfl|refine And.intro ?_ ?_)),rfl⟩) ?_)
  (first|refine bd rfl rfl (cV (v:=.s (.bool _)) rfl) (fun hc=>⟨(by repeat' (first|exact trivial|exact hc|exact rfl|refine And.intro ?_ ?_)),trivial⟩) ?_)
  (first|refine bd rfl rfl (cV (v:=.s (.int _ _)) rfl) (fun hc=>⟨(by repeat' (first|exact trivial|exact hc|exact rfl|refine And.intro ?_ ?_)),trivial⟩) ?_)
  (first|refine bd rfl rfl (j6 rfl s5 mT rfl) (fun hc=>⟨(by repeat' (first|exact trivial|exact hc|exact rfl|refine And.intro ?_ ?_)),(j9 t82 mT oS)⟩) ?_|refine bd rfl rfl (eL rfl rfl s5 mT rfl) (fun hc=>⟨(by repeat' (first|exact trivial|exact hc|exact rfl|refine And.intro ?_ ?_)),(eM t82 mT (by first|(simp;done)|omega|exact bC rfl))⟩) ?_)
  (first|refine tS rfl rfl rfl (fun hc=>⟨(by repeat' (first|exact trivial|exact hc|exact rfl|refine And.intro ?_ ?_)),iY⟩) ?_|refine tS rfl rfl rfl (fun hc=>⟨(by repeat' (first|exact trivial|exact hc|exact rfl|refine And.intro ?_ ?_)),iY hc⟩) ?_|refine sg iY rfl rfl rfl rfl (aiX rfl) aK ?_|refine tS rfl rfl rfl (fun hc=>⟨(by repeat' (first|exact trivial|exact hc|exact rfl|refine And.intro ?_ ?_)),L7⟩) ?_|refine sg L7 rfl rfl rfl rfl (afp rfl) aK ?_)
  (first|refine bd rfl rfl (Ao rfl rfl ur) (fun hc=>⟨(by repeat' (first|exact trivial|exact hc|exact rfl|refine And.intro ?_ ?_)),rfl⟩) ?_|refine bd rfl rfl (C' rfl rfl) (fun hc=>⟨(by repeat' (first|exact trivial|exact hc|exact rfl|refine And.intro ?_ ?_)),rfl⟩) ?_)
  (first|refine B8 rfl rfl rfl rfl (by first|exact fun _=>trivial|exact fun _=>rfl|exact fun hc=>hc) (by first|exact fun _=>trivial|exact fun _=>rfl|exact fun hc=>hc) ?_|refine B9 rfl rfl rfl rfl (by first|exact fun _=>trivial|exact fun _=>rfl|exact fun hc=>hc) (by first|exact fun _=>trivial|exact fun _=>rfl|exact fun hc=>hc) ?_|refine Cf rfl rfl rfl rfl rfl (by first|exact fun _=>trivial|exact fun _=>rfl|exact fun hc=>hc) (fun hc h=>by first|exact trivial|exact rfl|exact hc|(show Eq _ _;rw[hc,h];rfl)|(show Eq _ _;rw[h,hc];rfl)|(show Eq _ _;simp[hc,h];done)|(show Eq _ _;simp_all;done)) (fun hc h=>by first|exact trivial|exact rfl|exact hc|(show Eq _ _;rw[hc,h];rfl)|(show Eq _ _;rw[h,hc];rfl)|(show Eq _ _;simp[hc,h];done)|(show Eq _ _;simp_all;done)) ?_)
  (first|refine bd rfl rfl (cV (v:=.s (.bool _)) rfl) (fun hc=>⟨(by repeat' (first|exact trivial|exact hc|exact rfl|refine And.intro ?_ ?_)),trivial⟩) ?_)
  (first|refine bd rfl rfl (cV (v:=.s (.int _ _)) rfl) (fun hc=>⟨(by repeat' (first|exact trivial|exact hc|exact rfl|refine And.intro ?_ ?_)),trivial⟩) ?_)
  (first|refine bd rfl rfl (adF rfl rfl aiW) (fun hc=>⟨(by repeat' (first|exact trivial|exact hc|exact rfl|refine And.intro ?_ ?_)),rfl⟩) ?_|refine bd rfl rfl (GL rfl rfl) (fun hc=>⟨(by repeat' (first|exact trivial|exact hc|exact rfl|refine And.intro ?_ ?_)),rfl⟩) ?_)
  (first|refine B8 rfl rfl rfl rfl (by first|exact fun _=>trivial|exact fun _=>rfl|exact fun hc=>hc) (by first|exact fun _=>trivial|exact fun _=>rfl|exact fun hc=>hc) ?_|refine B9 rfl rfl rfl rfl (by first|exact fun _=>trivial|exact fun _=>rfl|exact fun hc=>hc) (by first|exact fun _=>trivial|exact fun _=>rfl|exact fun hc=>hc) ?_|refine Cf rfl rfl rfl rfl rfl (by first|exact fun _=>trivial|exact fun _=>rfl|exact fun hc=>hc) (fun hc h=>by first|exact trivial|exact rfl|exact hc|(show Eq _ _;rw[hc,h];rfl)|(show Eq _ _;rw[h,hc];rfl)|(show Eq _ _;simp[hc,h];done)|(show Eq _ _;simp_all;done)) (fun hc h=>by first|exact trivial|exact rfl|exact hc|(show Eq _ _;rw[hc,h];rfl)|(show Eq _ _;rw[h,hc];rfl)|(show Eq _ _;simp[hc,h];done)|(show Eq _ _;simp_all;done)) ?_)
  (first|refine bd rfl rfl (cV (v:=.s (.bool _)) rfl) (fun hc=>⟨(by repeat' (first|exact trivial|exact hc|exact rfl|refine And.intro ?_ ?_)),trivial⟩) ?_)
  (first|refine bd rfl rfl (cV (v:=.s (.int _ _)) rfl) (fun hc=>⟨(by repeat' (first|exact trivial|exact hc|exact rfl|refine And.intro ?_ ?_)),trivial⟩) ?_)
  (first|refine bd rfl rfl (j6 rfl s5 mT rfl) (fun hc=>⟨(by repeat' (first|exact trivial|exact hc|exact rfl|refine And.intro ?_ ?_)),(j9 t82 mT oS)⟩) ?_|refine bd rfl rfl (eL rfl rfl s5 mT rfl) (fun hc=>⟨(by repeat' (first|exact trivial|exact hc|exact rfl|refine And.intro ?_ ?_)),(eM t82 mT (by first|(simp;done)|omega|exact bC rfl))⟩) ?_)
  (first|refine tS rfl rfl rfl (fun hc=>⟨(by repeat' (first|exact trivial|exact hc|exact rfl|refine And.intro ?_ ?_)),iY⟩) ?_|refine tS rfl rfl rfl (fun hc=>⟨(by repeat' (first|exact trivial|exact hc|exact rfl|refine And.intro ?_ ?_)),iY hc⟩) ?_|refine sg iY rfl rfl rfl rfl (aiX rfl) aK ?_|refine tS rfl rfl rfl (fun hc=>⟨(by repeat' (first|exact trivial|exact hc|exact rfl|refine And.intro ?_ ?_)),L7⟩) ?_|refine sg L7 rfl rfl rfl rfl (afp rfl) aK ?_)
  (first|refine bd rfl rfl (Ao rfl rfl ur) (fun hc=>⟨(by repeat' (first|exact trivial|exact hc|exact rfl|refine And.intro ?_ ?_)),rfl⟩) ?_|refine bd rfl rfl (C' rfl rfl) (fun hc=>⟨(by repeat' (first|exact trivial|exact hc|exact rfl|refine And.intro ?_ ?_)),rfl⟩) ?_)
  (first|refine B8 rfl rfl rfl rfl (by first|exact fun _=>trivial|exact fun _=>rfl|exact fun hc=>hc) (by first|exact fun _=>trivial|exact fun _=>rfl|exact fun hc=>hc) ?_|refine B9 rfl rfl rfl rfl (by first|exact fun _=>trivial|exact fun _=>rfl|exact fun hc=>hc) (by first|exact fun _=>trivial|exact fun _=>rfl|exact fun hc=>hc) ?_|refine Cf rfl rfl rfl rfl rfl (by first|exact fun _=>trivial|exact fun _=>rfl|exact fun hc=>hc) (fun hc h=>by first|exact trivial|exact rfl|exact hc|(show Eq _ _;rw[hc,h];rfl)|(show Eq _ _;rw[h,hc];rfl)|(show Eq _ _;simp[hc,h];done)|(show Eq _ _;simp_all;done)) (fun hc h=>by first|exact trivial|exact rfl|exact hc|(show Eq _ _;rw[hc,h];rfl)|(show Eq _ _;rw[h,hc];rfl)|(show Eq _ _;simp[hc,h];done)|(show Eq _ _;simp_all;done)) ?_)
  (first|refine Ju rfl rfl (by first|exact trivial|exact rfl) ?_|refine Jv rfl rfl (by first|exact trivial|exact rfl) ?_|refine JY rfl rfl rfl (fun h=>by first|exact trivial|exact rfl|exact h|(show Eq _ _;rw[h];rfl)|(show Eq _ _;simp[h];done)|(show Eq _ _;simp_all;done)) (fun h=>by first|exact trivial|exact rfl|exact h|(show Eq _ _;rw[h];rfl)|(show Eq _ _;simp[h];done)|(show Eq _ _;simp_all;done)) ?_)
  refine aa (cR rfl (fun h=>(by revert h;simp)) fun h=>cI (aj ?_));rw[if_neg he];refine aZ ?_;exact aa (bJ (mW (gy rfl rfl s5 mT rfl t82 (a8 3)) rfl rfl))
end Go.Proofs.Tryz.K
namespace Go.Abs
section
variable{P:Program}{Y:ea}{Q:Exit->St->Prop}{st:St}{b:Code}
theorem Lf{a:Code}(h:AX P Y a (fJ (fun st'=>∃ C,aI P st' C/\AX P Y b Q C) Q) st):AX P Y (.seq a b) Q st:=h
theorem AO[dD Y]{ops:Array Oper}{id:Nat}(h:aq P Y ops false [] (eP fun st=>∃ st',aI P st st'/\AX P Y b Q st') ops.toList st []):AX P Y (.seq (.region id ops false) b) Q st:=by
 show AW P Y true (.region id ops false) _ st;exact jP (rf:=true) (aq.iQ h fun _ h=>h)
theorem afq(h:Q .ret st):AX P Y .ret Q st:=h
theorem acB{env:Env}{I:Mem->Nat->Prop}(h:Q .ret ⟨env,st.mem,st.nx⟩):xB env I Q .ret st:=h
theorem KC{a1 a2 a3:Nat}{t1 t2 t3:TypeId}{K:D->St->Prop}{C J M:D}(h1:∃ p,nC P st (.cell a1 t1)=some (p,C)/\p)(h2:∃ p,nC P st (.cell a2 t2)=some (p,J)/\p)(U:∃ p,nC P st (.cell a3 t3)=some (p,M)/\p)(h:K (.aL [C,J,M]) st):
 gY P [.cell a1 t1,.cell a2 t2,.cell a3 t3] K .ret st:=by
 obtain⟨X,a1,b1⟩:=h1;obtain⟨p2,a2,b2⟩:=h2;obtain⟨p3,a3,b3⟩:=U;simp only[gY,nD,a1,a2,a3];exact⟨b1,b2,b3,h⟩
end
def Ob:Value->Value->Bool
 | .int k n,.int k' n'=>decide (k=k')&&decide (n=n')
 | .bool a,.bool b=>a==b
 | .string a,.string b=>decide (a=b)
 |_,_=>false
theorem adT{a b:Value}(h:Ob a b=true):a=b:=by
 unfold Ob at h;split at h
 .rw[bf,decide_eq_true_eq,decide_eq_true_eq] at h;rw[h.1,h.2]
 .rw[show _=_ from eq_of_beq h]
 .rw[of_decide_eq_true h]
 .cases h
def uC(g:D->D->Bool):List D->List D->Bool
 |[],[]=>true
 |a::xs,b::bs=>g a b&&uC g xs bs
 |_,_=>false
def zC:Nat->D->D->Bool
 |0,_,_=>false
 |_+1,.s a,.s b=>Ob a b
 |_+1,.z,.z=>true
 |_+1,.sl [] 0,.z=>true
 |k+1,.agg a,.agg b=>uC (zC k) a b
 |k+1,.aL a,.aL b=>uC (zC k) a b
 |k+1,.sl a n,.sl b m=>Nat.beq n m&&uC (zC k) a b
 |k+1,.pt a,.pt b=>uC (zC k) a b
 |_+1,_,_=>false
theorem Ck{g:D->D->Bool}:∀ {xs bs:List D},uC g xs bs=true->xs.length=bs.length/\∀ (k:Nat) a,xs[k]? =some a->∃ b,bs[k]? =some b/\g a b=true
 |[],[],_=>⟨rfl,fun k a h=>by simp at h⟩
 |a::xs,b::bs,h=>by
  simp only[uC,bf] at h;obtain⟨h1,h2⟩:=Ck h.2;refine⟨by simp[h1],fun k x hx=>?_⟩;cases k with
  |zero=>simp at hx;subst hx;exact⟨b,rfl,h.1⟩
  |succ k=>exact h2 k x (by simpa using hx)
 |[],_::_,h=>by simp[uC] at h
 |_::_,[],h=>by simp[uC] at h
theorem Dm{F:Nat->Prop}{β:aC}{w:World}:∀ (k:Nat) {a b:D} {v:Value},zC k a b=true->R F β w b v->R F β w a v
 |0,a,b,v,h,_=>by simp[zC] at h
 |k+1,a,b,v,h,hv=>by
  unfold zC at h;split at h
  .cases h
  .rename_i e;rw[adT h];exact hv
  .exact hv
  .obtain⟨x,rfl⟩:=hv.tX;exact .fZ x 0
  .rename_i a b e;cases e;obtain⟨h1,h2⟩:=Ck h;cases hv with
   |agg _ vs hl hh=>
    refine .agg _ vs oG fun j d u hd hu=>?_;obtain⟨C,hb,hg⟩:=h2 j d hd;exact Dm k hg (hh j C u hb hu)
  .rename_i a b e;cases e;obtain⟨h1,h2⟩:=Ck h;cases hv with
   |aL _ vs hl hh=>
    refine .aL _ vs oG fun j d u hd hu=>?_;obtain⟨C,hb,hg⟩:=h2 j d hd;exact Dm k hg (hh j C u hb hu)
  .rename_i a n b m e;cases e;rw[bf] at h;have uV:n=m:=Nat.eq_of_beq_eq_true h.1;obtain⟨h1,h2⟩:=Ck h.2;subst uV;cases hv with
   |fZ a' cap=>
    have:a=[]:=List.length_eq_zero_iff.1 (by simpa using h1);subst this;exact .fZ _ _
   |sl _ _ C o cap us J M U g4 g5 X g7=>
    refine .sl _ _ C o cap us J M U g4 g5 (fun j hj=>X j oG) fun j d hd=>?_;obtain⟨d',hb,hg⟩:=h2 j d hd;exact Dm k hg (g7 j d' hb)
  .rename_i a b e;cases e;obtain⟨h1,h2⟩:=Ck h;cases hv with
   |pt _ C o us J M U X g7=>
    refine .pt _ C o us J M U (fun j hj=>X j oG) fun j d hd=>?_;obtain⟨d',hb,hg⟩:=h2 j d hd;exact Dm k hg (g7 j d' hb)
  .cases h
end Go.Abs
namespace Go.Proofs.Tryz.K
theorem qv{l:List al}{a b:Int}(hl:l.length<=1000):aA prog 35 [bc l,I a,I b] (.aL (pH l a b)):=by
 have wR:=wR (a:=a) (b:=b) hl;refine aaI mixed aiY kr (.cons (gP l) (.cons (.s _) (.cons (.s _) .nil))) (.aL (Zv l a b)) ?_;rw[aiZ];have sS:=zX (l:=l);have yB:=Ca (l:=l);have A5:=sk (l:=l);obtain⟨J,C⟩:∃ J,J=(if(di l).2=0 then(if jW l.length a&&jW l.length b then 0 else 1) else(di l).2):=⟨_,rfl⟩
 rw[<- C] at wR;by_cases he:J=0
 .have h0:(di l).2=0:=by
   by_cases h:(di l).2=0
   .exact h
   .rw[if_neg h] at C;omega
  have jF:(jW l.length a&&jW l.length b)=true:=by
   rw[if_pos h0] at C;cases h:(jW l.length a&&jW l.length b) with
   |true=>rfl
   |false=>rw[h] at C;simp at C;omega
  have M:=A5 h0;rw[sS h0] at wR;unfold pH;rw[if_pos h0,if_pos jF];rw[he] at wR;simp only[jW,bf,decide_eq_true_eq] at jF;obtain⟨⟨a0,a1⟩,b0,b1⟩:=jF;obtain⟨p,rfl⟩:=kL a0;obtain⟨q,rfl⟩:=kL b0;refine AO ?_;refine ax ?_;refine aa ⟨_,.refl _,AO ?_⟩;refine ax ?_;refine cl wR ?_;refine cr ?_;refine aa ⟨_,.refl _,Lf (aj ?_)⟩;refine ab ?_;refine aa (aO rfl (fun h=>oH) fun h=>cJ ⟨_,.refl _,Lf (AO ?_)⟩);have Nt:=Nt (l:=l) (sh:=bA l) (ca:=(aY l).map ao) (a:=(p:Int)) (b:=(q:Int));refine aZ ?_;refine cl Nt ?_
  have wS:Hf prog 114 [] [.pt [I p,I q],.pt (cS l (bA l) ((aY l).map ao))] ((pU (c6 l) (aY l) p q).map CQ):=aiR (by simp[bA]) oP M.A7 M.GZ oP oP fun x hx=>by
   obtain⟨f,hf,rfl⟩:=List.mem_map.1 hx;have:=tk f.blocks;have:=(tH (Go.Argus.checked (M.rH f hf))).j4;simp;omega
  obtain⟨X,Ep⟩:∃ X:Mem,X=up (up (up (up (up (fun _=>none) 0 (some (Row.cells [D.z] 43))) 1 (some (Row.cells [B false] 4))) 2 (some (Row.cells [I 0] 27))) 3 (some (Row.cells [D.z,D.z,D.z] 82))) 3 (some (Row.cells (cS l (bA l) ((aY l).map ao)) 82)):=⟨_,rfl⟩
  refine aa ⟨⟨ay [(6,.rp 0 0),(7,.rp 1 0),(8,.rp 2 0),(9,.pt (cS l (bA l) ((aY l).map ao))),(27,.fn (.func 114) [] [.pt [I p,I q],.pt (cS l (bA l) ((aY l).map ao))])],dh 3 (cS l (bA l) ((aY l).map ao)) (prog.cellsOf 82) X,4⟩,?_,?_⟩
  .subst Ep;exact lz (i:=3) (cs:=cS l (bA l) ((aY l).map ao)) (e:=82) rfl eH
  have r0:dh 3 (cS l (bA l) ((aY l).map ao)) (prog.cellsOf 82) X 0=some (.cells [.z] 43):=by rw[Ep];rfl
  have r1:dh 3 (cS l (bA l) ((aY l).map ao)) (prog.cellsOf 82) X 1=some (.cells [B false] 4):=by rw[Ep];rfl
  have r2:dh 3 (cS l (bA l) ((aY l).map ao)) (prog.cellsOf 82) X 2=some (.cells [I 0] 27):=by rw[Ep];rfl
  generalize dh 3 (cS l (bA l) ((aY l).map ao)) (prog.cellsOf 82) X=m5 at*
  clear Ep sS yB A5 C;rw[kK,kK];refine⟨trivial,114,[],_,_,fun k m nx=>m 0=some (.cells [.z] 43)/\m 1=some (.cells [B false] 4)/\m 2=some (.cells [I 0] 27)/\3<=nx/\∀ j x,j<k->(pU (c6 l) (aY l) p q)[j]? =some x->(c6 l).getD x.1.1 0=(c6 l).getD x.1.2 0,rfl,wS,fun x hx=>?_,⟨r0,r1,r2,oM,fun j x hj=>by omega⟩,?_,?_⟩
  .obtain⟨y,_,rfl⟩:=List.mem_map.1 hx;exact⟨rfl,.cons (.agg (.cons (.s _) (.cons (.s _) .nil))) (.cons (du _) .nil)⟩
  .rintro k m nx x hx ⟨r0,r1,r2,cx,Hp⟩;rw[List.getElem?_map,cP] at hx;obtain⟨x,hx,rfl⟩:=hx;refine aw ?_;refine eA (Fs Ho) aK t121 ?_;refine bM (fk rfl rfl (ah _ _ _) rfl) aK (bU t121 L6 ⟨rfl,a8 2⟩ (by rfl)) ?_;have hB:BI (c6 l) (aY l) (p,q) (pU (c6 l) (aY l) p q) ((RT (a:=p) (b:=q) M.A7 M.GZ oP oP).choose) []:=(RT M.A7 M.GZ oP oP).choose_spec;obtain⟨En,BG⟩:=J8 M.A7 M.GZ oP oP (hB.lead x (by rw[List.append_nil];exact bD hx));clear hB;obtain⟨sa,Em⟩:∃ sa,(bA l)[x.1.1]? =some sa:=⟨_,aU (by simpa[bA] using En)⟩
   obtain⟨sb,Nu⟩:∃ sb,(bA l)[x.1.2]? =some sb:=⟨_,aU (by simpa[bA] using BG)⟩
   have kC:=QR Em Nu;obtain⟨U,ik⟩:∃ U,U=up (up m nx (some (Row.cells [I 0,I 0] 121))) nx (some (Row.cells [I x.1.1,I x.1.2] 121)):=⟨_,rfl⟩
   have ov:∀ i,i≠nx->U i=m i:=fun i hi=>by rw[ik,az _ _ hi,az _ _ hi]
   have r0:dh nx [I x.1.1,I x.1.2] (prog.cellsOf 121) U 0=some (.cells [.z] 43):=gS ((ov 0 oG).trans r0) oG (.cells fun d hd=>by simp at hd;subst hd;exact .z);have r1:dh nx [I x.1.1,I x.1.2] (prog.cellsOf 121) U 1=some (.cells [B false] 4):=gS ((ov 1 oG).trans r1) oG (.cells fun d hd=>by simp at hd;subst hd;exact .s _);have r2:dh nx [I x.1.1,I x.1.2] (prog.cellsOf 121) U 2=some (.cells [I 0] 27):=gS ((ov 2 oG).trans r2) oG (.cells fun d hd=>by simp at hd;subst hd;exact .s _);refine aa ⟨⟨ay [(6,.rp 0 0),(7,.rp 1 0),(8,.rp 2 0),(9,.pt (cS l (bA l) ((aY l).map ao))),(11,.pt [I x.1.1,I x.1.2]),(29,aP (ao x.2))],dh nx [I x.1.1,I x.1.2] (prog.cellsOf 121) U,nx+1⟩,?_,?_⟩
   .clear r0 r1 r2 ov;subst ik;exact lz (i:=nx) (cs:=[I x.1.1,I x.1.2]) (e:=121) (ah _ _ _) ⟨gi oG,gi oG,gi oG,rfl,lR,rfl,trivial⟩
   generalize dh nx [I x.1.1,I x.1.2] (prog.cellsOf 121) U=m at*
   refine xF ?_;refine SS ?_;refine aa (show AW _ _ _ _ _ _ from pA (ep aa7 ?_));refine bt ?_;refine aZ ?_;refine ct cG (aO rfl (fun h=>aj ?_) fun h=>cT ?_)
   .have yV:Gr (c6 l) (aY l) p q=some x:=by
     have aE:((c6 l).getD x.1.1 0==(c6 l).getD x.1.2 0)=false:=by
      rw[kC];revert h;cases (sa.toList==sb.toList)<;>simp
     refine RS hx (by simpa using aE) fun j y hj hy=>?_;have:=Hp j y hj hy;rw[this];exact bne_self_eq_false _
    rw[yV];refine SS ?_;refine bM (eg (d:=.sl _ _) (cs':=[_]) rfl rfl r0 rfl rfl) aK (bU t43 s6 ⟨rfl,bC rfl⟩ rfl) ?_;refine bM (eg (d:=.s (.bool _)) (cs':=[_]) rfl rfl r1 rfl rfl) aK (bU t4 c4 ⟨rfl,bC rfl⟩ rfl) ?_;refine bM (eg (d:=.s (.int _ _)) (cs':=[_]) rfl rfl r2 rfl rfl) aK (bU t27 BJ ⟨rfl,bC rfl⟩ rfl) ?_;refine aa (bJ (eu (acB (eu (bE ?_)))));exact KC (tl (v:=aP (ao x.2)) rfl rfl H2 s6 rfl t43) (tl rfl rfl a4 c4 rfl t4) (tl rfl rfl H3 BJ rfl t27) rfl
   .refine⟨r0,r1,r2,oM,fun j y hj hy=>?_⟩;by_cases sT:j<k
    .exact Hp j y sT hy
    .have:j=k:=by omega
     subst this;rw[hx] at hy;cases hy
     have he:((c6 l).getD x.1.1 0==(c6 l).getD x.1.2 0)=true:=by
      rw[kC];revert h;cases (sa.toList==sb.toList)<;>simp
     simpa using he
  .rintro m nx ⟨r0,r1,r2,cx,Hp⟩;refine⟨_,.refl _,AO ?_⟩
   have yV:Gr (c6 l) (aY l) p q=none:=by
    unfold Gr;refine List.find?_eq_none.2 fun y hy=>?_;obtain⟨j,hj⟩:=eS hy;have dq:j<((pU (c6 l) (aY l) p q).map CQ).length:=by rw[List.length_map];exact(bK.1 hj).1
    have:=Hp j y dq hj;rw[this];simp
   rw[yV];refine bM (eg (d:=.z) (cs':=[_]) rfl rfl r0 rfl rfl) aK (bU t43 s6 ⟨rfl,bC rfl⟩ rfl) ?_;refine bM (eg (d:=.s (.bool _)) (cs':=[_]) rfl rfl r1 rfl rfl) aK (bU t4 c4 ⟨rfl,bC rfl⟩ rfl) ?_;refine bM (eg (d:=.s (.int _ _)) (cs':=[_]) rfl rfl r2 rfl rfl) aK (bU t27 BJ ⟨rfl,bC rfl⟩ rfl) ?_;refine aa ⟨_,.refl _,afq ?_⟩;exact KC (tl (v:=.z) rfl rfl H2 s6 rfl t43) (tl rfl rfl a4 c4 rfl t4) (tl rfl rfl H3 BJ rfl t27) rfl
 .have hO:∃ o:List D,q6 l=o/\o.length=3/\o.all D.one=true:=by
   refine⟨_,rfl,?_⟩;unfold q6;split<;>exact⟨rfl,rfl⟩
  have nw:pH l a b=[.z,B false,I J]:=by
   unfold pH;rw[C];split
   .rename_i h0;split
    .rename_i h1;rw[if_pos h0,if_pos h1] at C;exact absurd C he
    .rfl
   .rfl
  rw[nw];obtain⟨o,ho,Nx,uP⟩:=hO;rw[ho] at wR;clear sS yB A5 C nw;refine AO ?_;refine ax ?_;refine aa ⟨_,.refl _,AO ?_⟩;refine ax ?_;refine cl wR ?_;refine aZ ?_;refine bM (fk rfl rfl rfl rfl) aK (bU t82 mT ⟨Nx,oS⟩ uP) ?_;refine SS ?_;refine aa ⟨_,.refl _,Lf (aj ?_)⟩;refine ab ?_;refine aa (aO rfl (fun h=>aj ?_) fun h=>absurd (by simpa using h) he);refine SS ?_;refine bM (eg (d:=.z) (cs':=[_]) rfl rfl rfl rfl rfl) ak (bU V.h V.h (by first|(simp;done)|exact⟨rfl,bC rfl⟩|(simp;omega)) rfl) ?_;refine bM (eg (d:=.s (.bool _)) (cs':=[_]) rfl rfl rfl rfl rfl) ak (bU V.h V.h (by first|(simp;done)|exact⟨rfl,bC rfl⟩|(simp;omega)) rfl) ?_;refine SS ?_;exact aa (bJ (bE (KC (tl (v:=.z) rfl rfl H2 s6 rfl t43) (tl rfl rfl a4 c4 rfl t4) (tl rfl rfl H3 BJ rfl t27) rfl)))
end Go.Proofs.Tryz.K
end
namespace Go.Abs
section
variable{P:Program}{m:Mem}{rds:List Nat}
theorem adv{i off:Nat}{cs es es':List D}{e:TypeId}(hm:m i=some (.cells cs e))(hi:i∈rds)(M:cs.drop off=es)(hlen:es'.length=es.length)(hs:∀ (k:Nat) (d d':D),es[k]? =some d->es'[k]? =some d'->Sn P rds m d d'):Sn P rds m (.rp i off) (.pt es'):=fun F β w v hl hv=>by
 subst M;obtain⟨p,hp,hr,U⟩:=hl i hi _ hm;cases hv with
 |qf _ _ _ h1 _=>rw[h1] at hp;cases hp;cases hr
 |rp _ _ b o len room sz h1=>
  rw[h1] at hp;cases hp
  have af:b<w.heap.size:=by
   cases hr with
   |cells _ _ _ _ _ _ c hb _ _ _ _=>exact(Array.getElem?_eq_some_iff.1 hb).1
  obtain⟨J,Vg,bB,_⟩:=hr.rd;obtain⟨us,X,u2⟩:=J.drop off;refine .pt _ b (o+off) us (U b rfl) (fun k q hq=>by cases hq) af (by rw[hlen];exact X) fun k d hk=>?_;have C:k<(cs.drop off).length:=by rw[<- hlen];exact(bK.1 hk).1
  exact hs k (cs.drop off)[k] d (aU C) hk _ _ _ _ hl (u2 k _ (aU C))
theorem aei{f:Fn}{fs cs cs':List D}(hf:∀ a∈fs,Tr a)(hlen:cs'.length=cs.length)(hs:∀ (k:Nat) (d d':D),cs[k]? =some d->cs'[k]? =some d'->Sn P rds m d d'):Sn P rds m (.fn f fs cs) (.fn f fs cs'):=fun F β w v hl hv=>by
 cases hv with
 |fn _ _ _ us vs M J h1 h2=>
  refine .fn f fs cs' us vs M (by rw[hlen];exact J) (fun k d v hd hv=>(hf d (bD hd)).AB (h1 k d v hd hv)) fun k d v hd hv=>?_;have C:k<cs.length:=by rw[<- hlen];exact(bK.1 hd).1
  exact hs k cs[k] d (aU C) hd _ _ _ _ hl (h2 k _ v (aU C) hv)
end
section
variable{P:Program}{m:Mem}{nx:Nat}
def less(rds:List Nat)(m:Mem):Mem:=fun i=>if i∈rds then none else m i
theorem YR{f:FuncId}{rds:List Nat}{args U:List D}{r:D}(fx:jn P rds m args U)(hc:aA P f U r):
 fD P f args m nx (fun d m' ai=>d=r/\m'=less rds m/\ai=nx):=by
 refine⟨hc.1,fun F β w vs hm hβ hR=>?_⟩
 let F':Nat->Prop:=fun b=>F b\/∃ i p,i∉rds/\β i=some p/\p.bF=some b
 let β':aC:=fun i=>if i∈rds then(β i).map fun _=>.dead else β i
 have M:∀ b,¬ F b->β.free b->¬ F' b:=fun b h1 h2 h=>by
  rcases h with h|⟨i,p,_,hi,hb⟩
  .exact h1 h
  .exact h2 i p hi hb
 have MN:FB F' w:=⟨fun b hb=>by
  rcases hb with hb|⟨i,p,_,hi,hb⟩
  .exact hm.fb.lt b hb
  .exact hm.lt i p b hi hb,fun t ht=>⟨.inl (hm.fb.l8 t ht).1,(hm.fb.l8 t ht).2⟩⟩
 have gen:∀ {d:D} {v:Value},R F β w d v->R F' β w d v:=fun h=>h.gen (a8 _) (fun b _ h1 h2=>⟨ki.refl w b,h2,M b h1 h2⟩) fun _ _ _ h=>.inl h
 obtain⟨h1,h2⟩:=CU (P:=P) (F:=F') (β:=β) (w:=w) (fun i hi r hr=>by
  obtain⟨p,hp,ap⟩:=hm.row i r hr;refine⟨p,hp,ap.gen (a8 _) (fun b _ h1 h2=>⟨ki.refl w b,h2,M b h1 h2⟩) (fun _ _ _ h=>.inl h) (fun _ _=>rfl),fun b hb h=>?_⟩;rcases h with h|⟨j,q,hj,hq,yO⟩
  .exact hm.nf i p b hp hb h
  .exact hj (hm.inj i j p q b hp hq hb yO▸hi)) fx
 refine(hc.2.2 F' w vs MN ⟨by rw[hR.1,h1],fun k d v hd hv=>?_⟩).mono ?_
 .have af:k<args.length:=by rw[h1];exact(bK.1 hd).1
  exact h2 k args[k] d (by simp[af]) hd v (gen (hR.2 k args[k] v (by simp[af]) hv))
 rintro e w' ⟨v,he,hv,hk⟩
 have C:∀ {i p b},β' i=some p->p.bF=some b->i∉rds/\β i=some p:=fun {i p b} hp hb=>by
  by_cases hi:i∈rds
  .have:β' i=(β i).map fun _=>.dead:=if_pos hi;rw[this] at hp;obtain⟨q,_,rfl⟩:=cP.1 hp;cases hb
  .exact⟨hi,(if_neg hi:β' i=β i)▸hp⟩
 have hs:Step β w β' w':=by
  refine⟨hk.1,fun b hb hf=>⟨hk.2.1 b hb,fun i p hp J=>?_⟩,fun i p hp=>?_,hk.2.2⟩
  .exact hf i p (C hp J).2 J
  .by_cases hi:i∈rds
   .right;have:β' i=(β i).map fun _=>.dead:=if_pos hi;rw[this,hp];rfl
   .left;exact(if_neg hi:β' i=β i).trans hp
 refine⟨v,r,less rds m,nx,β',he,⟨rfl,rfl,rfl⟩,?_,fun i hi=>?_,?_,hs,a8 _,fun i _ hi=>?_⟩
 .refine⟨fun i r hi=>?_,fun i j p q b hp hq e X=>?_,fun i p b hp e=>?_,fun i p b hp e=>?_,(hm.kept hk).fb⟩
  .unfold less at hi;split at hi
   .cases hi
   .rename_i hn;obtain⟨p,hp,ap⟩:=hm.row i r hi;exact⟨p,(if_neg hn:β' i=β i).trans hp,ap.step hs fun b hb=>hk.2.1 b (hm.lt i p b hp hb)⟩
  .exact hm.inj i j p q b (C hp e).2 (C hq X).2 e X
  .exact Nat.lt_of_lt_of_le (hm.lt i p b (C hp e).2 e) hk.1
  .exact hm.nf i p b (C hp e).2 e
 .have h0:=hβ i hi;show(if i∈rds then(β i).map fun _=>Pl.dead else β i)=none;rw[h0];split<;>rfl
 .refine hv.gen (a8 _) (fun b _ h1 _=>⟨ki.refl w' b,fun i p hp J=>?_,fun h=>h1 (.inl h)⟩) fun i p _ h=>by cases h
  exact h1 (.inr ⟨i,p,(C hp J).1,(C hp J).2,J⟩)
 .show(if i∈rds then(β i).map fun _=>Pl.dead else β i)=none;rw[hi];split<;>rfl
theorem ko.ado{f:FuncId}{args es:List D}{n:Nat}{t:TypeId}(h:ko P f args es n t)(ht:Tr (.sl (es.take (n*P.cellsOf t)) n)):aA P f args (.sl (es.take (n*P.cellsOf t)) n):=by
 refine⟨h.1,h.2.1,fun F w vs C hR=>(h.2.2 F w vs C hR).mono ?_⟩;rintro e w' ⟨v,p,h1,h2,U,h4,h5,J⟩;refine⟨v,h1,?_,J⟩
 have b0:∀ {i q},up gA 0 (some p) i=some q->i=0/\q=p:=fun {i q} hi=>by
  by_cases e:i=0
  .subst e;rw[ah] at hi;cases hi;exact⟨rfl,rfl⟩
  .rw[az _ _ e] at hi;cases hi
 have hm:aJ P F (up (fun _=>none) 0 (some (.cells es t))) (up gA 0 (some p)) w':=by
  refine⟨fun i r hi=>?_,fun i j q q' b hq X _ _=>(b0 hq).1.trans (b0 X).1.symm,fun i q b hq e=>?_,fun i q b hq e=>?_,C.next (fun b hb=>Nat.lt_of_lt_of_le (C.lt b hb) J.1) (fun _ h=>h) fun _ _ hb=>J.2.1 _ (C.lt _ hb)⟩
  .by_cases e:i=0
   .subst e;rw[ah] at hi;cases hi;refine⟨p,ah _ _ _,h4.gen (a8 _) (fun b _ M _=>⟨ki.refl w' b,fun i q hq hb=>?_,fun C=>M (.inl C)⟩) (fun i q _ hq=>by cases hq) fun _ _=>rfl⟩;exact M (.inr ((b0 hq).2▸hb))
   .rw[az _ _ e] at hi;cases hi
  .rw[(b0 hq).2] at e;exact(U b e).2
  .rw[(b0 hq).2] at e;intro hb;have:=C.lt b hb;have:=(U b e).1;omega
 have:=Qk hm (ah _ _ _) rfl h5;have e:cE 0 es (P.cellsOf t) (.rs 0 0 n)=.sl (es.take (n*P.cellsOf t)) n:=by simp[cE]
 rw[e] at this;exact ht.AB this
theorem YS{f:FuncId}{args:List D}{r r':D}(hc:aA P f args r)(h:Wk r r'):aA P f args r':=
 ⟨hc.1,hc.2.1,fun F w vs C J=>(hc.2.2 F w vs C J).mono fun _ w' ⟨v,he,hv,hk⟩=>⟨v,he,h F gA w' v hv,hk⟩⟩
end
end Go.Abs
section
open Go Go.Abs Go.Proofs Go.Argus
namespace Go.Proofs.Tryz.K
set_option maxHeartbeats 1000000
theorem L8{l:List ByteArray}{s:ByteArray}:aA prog 122 [bI l,S s] (I (mH (fun x=>s.toList==x.toList) l)):=by
 refine mo TI.he (.cons (fS _) (.cons (.s _) .nil)) fun C=>?_;have hlen:=(C (bI l) oS).sl.1;unfold maxLen at hlen;refine bj TI (.cons (fS _) (.cons (.s _) .nil)) (Tr.s _) ?_;rw[afr];refine ws ?_;refine SS ?_;refine aa (aB (aw ?_));refine ax ?_
 refine aa (bY (fun t=>aI prog t ⟨ay [],fun _=>none,0⟩/\∀ (j:Nat) y,l[j]? =some y->(s.toList==y.toList)=false) (cy (α:=Nat) (fun k=>⟨ay [(0,bI l),(1,S s),(7,I l.length),(8,I k)],fun _=>none,0⟩)
  (fun k=>k<=l.length/\∀ j y,j<k->l[j]? =some y->(s.toList==y.toList)=false) (fun k=>l.length - k) 0 (av eH) ⟨oG,fun j y hj=>by omega⟩ ?_) ?_)
 .rintro k ⟨hk,hinv⟩;refine SS ?_;refine aa ⟨_,rfl,fun h=>?_,fun h=>?_⟩
  .have af:k<l.length:=by simpa using h
   have hx:l[k]? =some l[k]:=by simp[af]
   generalize l[k]=x at hx;refine ws ?_;refine ab ?_;refine er ?_;refine cr ?_;refine aa (aO rfl (fun hp=>?_) fun hp=>?_)
   .refine ws ?_;refine ab ?_;refine aa (bJ (cu (bE (aF rfl ?_))));rw[tu hx hp hinv];rfl
   .refine cT ?_;refine ab ?_;refine aa (bg (k+1) (av eH) ⟨oG,fun j y hj hy=>?_⟩ oG);by_cases e:j=k
    .subst e;rw[hx] at hy;cases hy;exact hp
    .exact hinv j y oG hy
  .have M:¬ k<l.length:=by simpa using h
   exact⟨.forget _ _ _ _ fun _=>.inr rfl,fun j y hy=>hinv j y (by have:=(bK.1 hy).1;omega) hy⟩
 .rintro s ⟨hg,J⟩;refine⟨_,hg,aj ?_⟩;refine SS ?_;refine aa (aF rfl ?_);rw[w9 J];rfl
theorem H4{l:List ByteArray}{s:ByteArray}:aA prog 88 [bI l,S s] (B (l.any fun x=>s.toList==x.toList)):=by
 have L8:=L8 (l:=l) (s:=s);refine bj ai0 (.cons (fS _) (.cons (.s _) .nil)) (Tr.s _) ?_;rw[ai1];refine ws ?_;refine SS ?_;refine er ?_;refine ab ?_;refine cl L8 ?_;refine ab ?_;refine aa (aF rfl ?_);rw[<- zW];rfl
theorem k87{f:al}{s:ByteArray}:aA prog 87 [.agg (aM f),.pt [S s]] (B (f.name.toList==s.toList)):=by
 refine bj ai2 (.cons (.agg (kQ f)) (.cons (.pt (.cons (.s _) .nil)) .nil)) (Tr.s _) ?_;rw[ai3];refine aw ?_;refine ab ?_;refine aa (bG (dB [(0,aM f,48)] eH (l:=[(1,.pt [S s]),(2,.pt (aM f))]) eH) (aj ?_));refine bu ?_;exact aa (aF rfl rfl)
theorem H5{l:List al}{g:FuncId}{fs cs:List D}{p:al->Bool}(hl:l.length<=1000000)(ht:Tr (.fn (.func g) fs cs))(hg:∀ x∈l,aA prog g (fs++[.agg (aM x)]++cs) (B (p x))):aA prog 86 [bc l,.fn (.func g) fs cs] (B (l.any p)):=by
 have yA:=yA hl ht hg;refine bj ai4 (.cons (gP _) (.cons ht .nil)) (Tr.s _) ?_;rw[ai5];refine ws ?_;refine SS ?_;refine er ?_;refine ab ?_;refine cl yA ?_;refine ab ?_;refine aa (aF rfl ?_);rw[<- zW];rfl
def jk(l:List al)(keep:List ByteArray):Int:=if(di l).2≠0 then(di l).2 else if keep.length>60 then 2 else if keep.all (fun s=>l.any fun f=>f.name.toList==s.toList) then 0 else 5
def nr(l:List al)(keep:List ByteArray):List D:=if jk l keep=0 then fN l (bA l) ((aY l).map ao) (ao (fT l)) else [.z,.z,.z,.z]
theorem aa8(l:List al)(keep:List ByteArray):∀ a∈nr l keep,Tr a:=by
 unfold nr;split
 .exact EK _ _ _ _
 .exact .cons .z (.cons .z (.cons .z (.cons .z .nil)))
theorem rJ{l:List al}{keep:List ByteArray}(hl:l.length<=1000):aA prog 55 [bc l,bI keep] (.aL [.agg (nr l keep),I (jk l keep)]):=by
 have gO:=gO hl;refine bj ai6 (.cons (gP l) (.cons (fS _) .nil)) (.aL (.cons (.agg (aa8 l keep)) (.cons (.s _) .nil))) ?_;rw[ai7];unfold nr;refine ws ?_;refine ab ?_;refine er ?_;by_cases he:(di l).2=0
 .have X:=sk he;rw[zX he,he] at gO;have M:jk l keep=if keep.length>60 then 2 else if keep.all (fun s=>l.any fun f=>f.name.toList==s.toList) then 0 else 5:=by unfold jk;rw[if_neg (fun h=>h he)]
  rw[M];clear M;refine SS ?_;refine cl gO ?_;refine cr ?_;refine aa (aB (aj ?_));refine ab ?_;refine aa (cR rfl (fun h=>oH) fun h=>cI (aB (aj ?_)));refine ax ?_;refine aa (cR rfl (fun h=>?_) fun h=>?_)
  .have h:keep.length>60:=by
    have:(60:Int)<keep.length:=by simpa using h
    omega
   rw[if_pos h];refine aB (aj ?_);refine ax ?_;exact aa (xD (bJ (bE (mW (gy rfl rfl BD wO rfl t86 (a8 4)) rfl rfl))))
  .have wM:¬ keep.length>60:=by
    have:¬ (60:Int)<keep.length:=by simpa using h
    omega
   rw[if_neg wM];obtain⟨q,hq⟩:∃ q:ByteArray->Bool,q=fun s=>l.any fun f=>f.name.toList==s.toList:=⟨_,rfl⟩
   rw[<- hq];refine cI (aB (aw ?_));refine ax ?_;obtain⟨ml,J⟩:∃ ml,ml=[(0,Row.cells [D.z,D.z,D.z,D.z] 86),(1,Row.cells (cS l (bA l) ((aY l).map ao)) 82)]:=⟨_,rfl⟩
   refine aa (bY (fun s=>(∃ nx,1<nx/\aI prog s ⟨ay [(4,.rp 0 0),(6,.rp 1 0)],a7 ml,nx⟩)/\keep.all q=true) (cy (α:=Nat×Nat)
    (fun s=>⟨ay [(0,bc l),(4,.rp 0 0),(6,.rp 1 0),(23,bI keep),(24,I keep.length),(25,I s.1)],a7 ml,s.2⟩)
    (fun s=>1<s.2/\s.1<=keep.length/\(keep.take s.1).all q=true) (fun s=>keep.length - s.1) (0,2)
    (bQ eH (by subst J;exact eH)) ⟨oM,Nat.zero_le _,rfl⟩ ?_) ?_)
   .rintro⟨n,nx⟩ ⟨U,hn,C⟩;dsimp only at U hn C ⊢;refine SS ?_;refine aa ⟨_,rfl,fun h=>?_,fun h=>?_⟩
    .have fM:n<keep.length:=by simpa using h
     clear h;obtain⟨x,hx⟩:∃ x,keep[n]? =some x:=⟨_,aU fM⟩
     refine aw ?_;refine ax ?_;refine bM (eg (d:=.s (.string _)) (cs':=[_]) rfl rfl (ah _ _ _) rfl rfl) aK (bU t9 c9 ⟨rfl,bC rfl⟩ rfl) ?_
     have h0:∀ {u v},dh nx [S x] (prog.cellsOf 9) (up (up (a7 ml) nx u) nx v) 0=a7 ml 0:=fun {u v}=>by
      rw[J];exact gS ((ag oG (ag oG rfl))) oG (.cells fun d hd=>by simp at hd;subst hd;exact .z)
     have h1:∀ {u v},dh nx [S x] (prog.cellsOf 9) (up (up (a7 ml) nx u) nx v) 1=a7 ml 1:=fun {u v}=>by
      rw[J];exact gS ((ag oG (ag oG rfl))) oG (.cells fun d hd=>by simp[cS] at hd;rcases hd with rfl|rfl|rfl<;>exact .sl _ _)
     refine aa ⟨⟨ay [(0,bc l),(4,.rp 0 0),(6,.rp 1 0),(9,.pt [S x]),(23,bI keep),(24,I keep.length),(25,I n)],a7 ml,nx+1⟩,?_,?_⟩
     .refine(lz (i:=nx) (cs:=[S x]) (e:=9) (ah _ _ _) (l:=[(0,bc l),(4,.rp 0 0),(6,.rp 1 0),(9,.pt [S x]),(23,bI keep),(24,I keep.length),(25,I n)]) ⟨rfl,gi oG,gi oG,lR,rfl,rfl,rfl,trivial⟩).trans (bQ eH ?_);subst J;exact⟨h0,h1,trivial⟩
     have H5:=H5 (l:=l) (g:=87) (fs:=[]) (cs:=[.pt [S x]]) (p:=fun f=>f.name.toList==x.toList) oG (.fn oS (.cons (.pt (.cons (.s _) .nil)) .nil)) fun f _=>k87;have hqx:q x=l.any fun f=>f.name.toList==x.toList:=by rw[hq]
     rw[<- hqx] at H5;refine ws ?_;refine ab ?_;refine cl H5 ?_;refine SS ?_;refine aa (aO rfl (fun h=>aj ?_) fun h=>cT ?_)
     .have hqf:q x=false:=by simpa using h
      have hka:¬ keep.all q=true:=fun e=>by
       have:=bS.1 e x (bD hx);rw[hqf] at this;cases this
      rw[if_neg hka];subst J;refine ax ?_;exact aa (bJ (cu (bE (mW (gy rfl rfl BD wO rfl t86 (a8 4)) rfl rfl))))
     .have hqt:q x=true:=by simpa using h
      show aq _ _ _ _ _ _ _ _ _;refine ab ?_;exact aa (bg (n+1,nx+1) (av eH) ⟨oM,oM,te hx C hqt⟩ oM)
    .have bl:¬ n<keep.length:=by simpa using h
     rw[df oG] at C;exact⟨⟨nx,U,av eH⟩,C⟩
   .rintro s ⟨⟨nx,U,dR⟩,C⟩;rw[if_pos C];subst J;refine⟨_,dR,aj ?_⟩
    have zr:=zr (l:=l) (sh:=bA l) (ca:=aY l) (by simp[bA]) oS X.A7 X.len fun x hx=>by
     obtain⟨f,hf,rfl⟩:=List.mem_map.1 hx;have:=tk f.blocks;have:=(tH (Go.Argus.checked (X.rH f hf))).j4;simp;omega
    refine SS ?_;refine cl zr ?_;refine ab ?_;exact aa (bJ (mW (gy rfl rfl BD wO rfl t86 (a8 4)) rfl rfl))
 .have M:jk l keep=(di l).2:=by unfold jk;rw[if_pos he]
  rw[M,if_neg he]
  have hO:∃ o:List D,q6 l=o/\o.length=3/\o.all D.one=true:=by
   refine⟨_,rfl,?_⟩;unfold q6;split<;>exact⟨rfl,rfl⟩
  obtain⟨o,ho,Nx,uP⟩:=hO;rw[ho] at gO;clear M;refine SS ?_;refine cl gO ?_;refine aZ ?_;refine bM (fk rfl rfl rfl rfl) aK (bU t82 mT ⟨Nx,oS⟩ uP) ?_;refine SS ?_;refine aa (aB (aj ?_));refine ab ?_;refine aa (cR rfl (fun h=>aB (aj ?_)) fun h=>absurd (by simpa using h) he);refine aZ ?_;exact aa (xD (bJ (bE (mW (gy rfl rfl BD wO rfl t86 (a8 4)) rfl rfl))))
theorem k90{l:List Bool}{i:Nat}{b:Bool}(hi:l[i]? =some b):aA prog 90 [I i,.pt [.sl (l.map B) l.length]] (B b):=by
 have ht:Tr (.sl (l.map B) l.length):=.sl (.map fun _=>.s _);refine bj ai8 (.cons (.s _) (.cons (.pt (.cons ht .nil)) .nil)) (Tr.s _) ?_;rw[ai9];refine ws ?_;refine SS ?_;refine er ?_;refine bu ?_;exact aa (aF rfl rfl)
end Go.Proofs.Tryz.K
end
namespace Go.Argus
def bz(clq:List Nat)(t:Nat):List Nat:=(range clq.length).filter fun i=>clq.getD i 0==t
def sO(kp:Nat->Bool)(x:List Nat):Nat:=(x.find? kp).getD (x.headD 0)
def jU(clq:List Nat)(kp:Nat->Bool)(i:Nat):Bool:=kp i||(!(bz clq (clq.getD i 0)).any kp&&(bz clq (clq.getD i 0)).headD 0==i)
def ug(clq:List Nat)(kp:Nat->Bool)(i:Nat):Nat:=sO kp (bz clq (clq.getD i 0))
section
variable{clq:List Nat}{kp:Nat->Bool}{t:Nat}
theorem kT{i:Nat}:i∈bz clq t↔i<clq.length/\clq.getD i 0=t:=by unfold bz;simp
theorem abM(h:bz clq t≠[]):(bz clq t).headD 0∈bz clq t:=by
 cases hx:bz clq t with
 |nil=>exact absurd hx h
 |cons a l=>simp
theorem Qh{i:Nat}(hi:clq.getD i 0=t)(h:(bz clq t).any kp=true):jU clq kp i=kp i:=by
 unfold jU;rw[hi,h];simp
theorem Px{i:Nat}(hi:i∈bz clq t)(h:(bz clq t).any kp=false):jU clq kp i=((bz clq t).headD 0==i):=by
 unfold jU;rw[(kT.1 hi).2,h]
 have:kp i=false:=by
  rw[Bool.eq_false_iff]
  exact fun e=>by
   have:=List.any_eq_true.2 ⟨i,hi,e⟩;rw[h] at this;cases this
 rw[this];simp
theorem ZB(C:bz clq t≠[]):(bz clq t).find? (jU clq kp)=some (sO kp (bz clq t)):=by
 cases ha:(bz clq t).any kp with
 |true=>
  have e:(bz clq t).find? (jU clq kp)=(bz clq t).find? kp:=by
   have:∀ l:List Nat,(∀ i∈l,jU clq kp i=kp i)->l.find? (jU clq kp)=l.find? kp:=fun l h=>by
    induction l with
    |nil=>rfl
    |cons a l ih=>
     rw[List.find?_cons,List.find?_cons,h a oS,ih fun i hi=>h i (List.mem_cons_of_mem _ hi)]
   exact this _ fun i hi=>Qh (kT.1 hi).2 ha
  rw[e];obtain⟨i,hi,hk⟩:=List.any_eq_true.1 ha;cases hf:(bz clq t).find? kp with
  |none=>exact absurd hk (by have:=List.find?_eq_none.1 hf i hi;simpa using this)
  |some y=>unfold sO;rw[hf];rfl
 |false=>
  have hn:(bz clq t).find? kp=none:=List.find?_eq_none.2 fun i hi hk=>by
   have:=List.any_eq_true.2 ⟨i,hi,hk⟩;rw[ha] at this;cases this
  have hl:∀ i∈bz clq t,jU clq kp i=((bz clq t).headD 0==i):=fun i hi=>Px hi ha;unfold sO;rw[hn];cases hx:bz clq t with
  |nil=>exact absurd hx C
  |cons a l=>
   rw[hx] at hl;have:=hl a oS;rw[List.find?_cons,this];simp
def gH(clq:List Nat)(kp:Nat->Bool)(t j:Nat)(i:Nat):Bool:=if clq.getD i 0<t then jU clq kp i else((bz clq t).take j).contains i&&kp i
theorem Ol{l:List Nat}{j y k:Nat}(hy:l[j]? =some y):(l.take (j+1)).contains k=((l.take j).contains k||k==y):=by
 rw[List.take_add_one,hy,Option.toList_some,List.contains_eq_mem,List.contains_eq_mem,Bool.eq_iff_iff];simp
theorem B0{i:Nat}:gH clq kp t 0 i=(decide (clq.getD i 0<t)&&jU clq kp i):=by
 unfold gH;by_cases h:clq.getD i 0<t
 .rw[if_pos h,decide_eq_true h];simp
 .rw[if_neg h,decide_eq_false h];simp
theorem Pj{j y k:Nat}(hy:(bz clq t)[j]? =some y):gH clq kp t (j+1) k=if k=y then kp y else gH clq kp t j k:=by
 have hm:=kT.1 (bD hy);unfold gH;rw[Ol hy];by_cases hk:k=y
 .subst hk;rw[if_neg oG,if_pos rfl];simp
 .have hb:(k==y)=false:=by simpa using hk
  rw[if_neg hk,hb,Bool.or_false]
theorem Zz{k:Nat}(hk:k<clq.length)(h:(bz clq t).any kp=true):gH clq kp t (bz clq t).length k=gH clq kp (t+1) 0 k:=by
 rw[B0];unfold gH;rw[List.take_length];by_cases h1:clq.getD k 0<t
 .rw[if_pos h1,decide_eq_true oG];simp
 .rw[if_neg h1];by_cases h2:clq.getD k 0=t
  .rw[decide_eq_true oG,Qh h2 h,List.contains_eq_mem,decide_eq_true (kT.2 ⟨hk,h2⟩)]
  .rw[decide_eq_false oG,List.contains_eq_mem,decide_eq_false fun e=>h2 (kT.1 e).2];simp
theorem Ya{k:Nat}(hk:k<clq.length)(h:(bz clq t).any kp=false):(if k=(bz clq t).headD 0/\bz clq t≠[] then true else gH clq kp t (bz clq t).length k)=gH clq kp (t+1) 0 k:=by
 rw[B0];unfold gH;rw[List.take_length];by_cases h2:clq.getD k 0=t
 .have hm:k∈bz clq t:=kT.2 ⟨hk,h2⟩;have C:bz clq t≠[]:=fun e=>by rw[e] at hm;cases hm
  have J:kp k=false:=by
   rw[Bool.eq_false_iff]
   exact fun e=>by
    have:=List.any_eq_true.2 ⟨k,hm,e⟩;rw[h] at this;cases this
  rw[decide_eq_true oG,Px hm h,if_neg (show ¬ clq.getD k 0<t by omega),J];by_cases he:k=(bz clq t).headD 0
  .rw[if_pos ⟨he,C⟩, <- he];simp
  .rw[if_neg fun e=>he e.1];have:((bz clq t).headD 0==k)=false:=by simpa using fun e:_=_=>he e.symm
   rw[this];simp
 .have hn:¬ (k=(bz clq t).headD 0/\bz clq t≠[]):=fun⟨e1,e2⟩=>by
   have:=abM e2;rw[<- e1] at this;exact h2 (kT.1 this).2
  rw[if_neg hn];by_cases h1:clq.getD k 0<t
  .rw[if_pos h1,decide_eq_true oG];simp
  .rw[if_neg h1,decide_eq_false oG,List.contains_eq_mem,decide_eq_false fun e=>h2 (kT.1 e).2];simp
def jV(clq:List Nat)(kp:Nat->Bool)(C:Nat->ByteArray)(t j:Nat)(i:Nat):ByteArray:=if clq.getD i 0<t then C (ug clq kp i) else if((bz clq t).take j).contains i then C (sO kp (bz clq t)) else⟨#[]⟩
theorem Yb{C:Nat->ByteArray}{j y k:Nat}(hy:(bz clq t)[j]? =some y):jV clq kp C t (j+1) k=if k=y then C (sO kp (bz clq t)) else jV clq kp C t j k:=by
 have hm:=kT.1 (bD hy);unfold jV;rw[Ol hy];by_cases hk:k=y
 .subst hk;rw[if_neg oG,if_pos rfl];simp
 .have hb:(k==y)=false:=by simpa using hk
  rw[if_neg hk,hb,Bool.or_false]
theorem ZC{C:Nat->ByteArray}{k:Nat}(hk:k<clq.length):jV clq kp C t (bz clq t).length k=jV clq kp C (t+1) 0 k:=by
 unfold jV;rw[List.take_length];by_cases h1:clq.getD k 0<t
 .rw[if_pos h1,if_pos oG]
 .rw[if_neg h1];by_cases h2:clq.getD k 0=t
  .rw[if_pos (show clq.getD k 0<t+1 by omega),List.contains_eq_mem,decide_eq_true (kT.2 ⟨hk,h2⟩)];unfold ug;rw[h2];rfl
  .rw[if_neg (show ¬ clq.getD k 0<t+1 by omega),List.contains_eq_mem,decide_eq_false fun e=>h2 (kT.1 e).2];simp
theorem I5{α:Type}{n i:Nat}{f:Nat->α}{v:α}:((range n).map f).set i v=(range n).map fun k=>if k=i then v else f k:=by
 refine List.ext_getElem? fun k=>?_;rw[List.getElem?_set];by_cases hk:k<n
 .by_cases e:i=k
  .subst e;simp[hk]
  .have C:¬ k=i:=fun h=>e h.symm;simp[hk,e,C]
 .by_cases e:i=k
  .subst e;simp[hk]
  .simp[hk,e]
end
end Go.Argus
section
open Go Go.Abs Go.Proofs Go.Argus
namespace Go.Proofs.Tryz.K
theorem Er{κ:Type}[DecidableEq κ]{l:List al}{sh:List ByteArray}{ca:List (List Int)}{ks:List κ}{keep:List ByteArray}(hl:l.length<=1000)(qk:ks.length=l.length)(Nv:keep.length<=60):
 aA prog 56 [.agg (fN l sh ca (ao (br ks))),bI keep] (.aL [.sl ((range l.length).map fun i=>B (jU (br ks) (ta l keep) i)) l.length,.sl ((range l.length).map fun i=>S (iv l (ug (br ks) (ta l keep) i))) l.length]):=by
 have BE:=BE (l:=l) (sh:=sh) (ca:=ca) (ks:=ks) oG;have iY:=iY (l:=l) (sh:=sh) (ca:=ca);refine bj ai' (.cons (.agg (EK _ _ _ _)) (.cons (fS _) .nil)) (.aL (.cons (.sl (.map fun _=>.s _)) (.cons (.sl (.map fun _=>.s _)) .nil))) ?_;rw[aja];refine aw ?_;refine ax ?_;refine aa (bG (dB [(0,fN l sh ca (ao (br ks)),86)] eH (l:=[(1,bI keep),(2,.pt (fN l sh ca (ao (br ks))))]) eH) (aj ?_));refine ab ?_;refine cl iY ?_;refine eA (Ce rfl rfl V.h V.h) ak ⟨oG,rfl,oG,by rw[b4];omega,V.h⟩ ?_;refine SS ?_;refine bM (eg (d:=.rs _ _ _) (cs':=[_]) rfl rfl rfl rfl rfl) ak (bU V.h V.h (by first|(simp;done)|exact⟨rfl,bC rfl⟩|(simp;omega)) rfl) ?_;refine er ?_;refine ab ?_;refine cl iY ?_;refine eA (Ce rfl rfl V.h V.h) ak ⟨oG,rfl,oG,by rw[b9];omega,V.h⟩ ?_;refine SS ?_;refine aa (aB (aw ?_));refine SS ?_;refine cl BE ?_;refine ab ?_;obtain⟨clq,M⟩:∃ clq,clq=br ks:=⟨_,rfl⟩
 obtain⟨K,hK⟩:∃ K,K=(bq ks).length:=⟨_,rfl⟩
 obtain⟨kp,UA⟩:∃ kp,kp=ta l keep:=⟨_,rfl⟩
 obtain⟨n,hn⟩:∃ n,n=l.length:=⟨_,rfl⟩
 have K9:clq.length=n:=by rw[M,hn];simpa using qk
 have hK1:K<=1000:=by have:=vm ks;omega
 have aE:∀ t,t<K->bz clq t≠[]:=fun t ht e=>by
  obtain⟨i,hi⟩:=Zx (ks:=ks) (show t<(bq ks).length by omega);have:i∈bz clq t:=kT.2 ⟨by rw[M];exact(bK.1 hi).1,by rw[M];rw[dx,hi];rfl⟩;rw[e] at this;cases this
 have UB:∀ i,i<n->clq.getD i 0<K:=fun i hi=>by rw[M,hK];exact J4 (eU (by rw[<- K9,M] at hi;exact hi))
 rw[<- M, <- hK, <- UA, <- hn]
 have UC:∀ (d:D) (n:Nat),dC n [d]=(range n).map fun _=>d:=fun d n=>by
  induction n with
  |zero=>rfl
  |succ n ih=>rw[List.range_succ,List.map_append, <- ih];simp[dC,List.replicate_succ']
 refine aa (bY (fun s=>aI prog s ⟨ay [(6,.rp 2 0),(7,.rs 3 0 n)],mK n (gH clq kp K 0) (jV clq kp (iv l) K 0),4⟩) (cy (α:=Nat)
  (fun t=>⟨ay [(1,bI keep),(2,.pt (fN l sh ca (ao clq))),(6,.rp 2 0),(7,.rs 3 0 n),(25,cg (iD clq K)),(26,I (iD clq K).length),(27,I t)],mK n (gH clq kp t 0) (jV clq kp (iv l) t 0),4⟩)
  (fun t=>t<=K) (fun t=>K - t) 0
  (bQ ⟨rfl,rfl,rfl,by rw[hn];rfl,rfl,rfl,rfl,trivial⟩ ⟨?_,by rw[hn];rfl,?_,trivial⟩) (Nat.zero_le _) ?_) ?_)
 .show some (Row.cells (dC n [B false]) 4)=_;rw[UC];have:((range n).map fun _=>B false)=(range n).map fun i=>B (gH clq kp 0 0 i):=List.map_congr_left fun i _=>by rw[B0,decide_eq_false (Nat.not_lt_zero _)];rfl
  rw[this]
 .show some (Row.cells (dC n [S "".toUTF8]) 9)=_;rw[UC];have:((range n).map fun _=>S "".toUTF8)=(range n).map fun i=>S (jV clq kp (iv l) 0 0 i):=List.map_congr_left fun i _=>by unfold jV;rw[if_neg (Nat.not_lt_zero _),List.take_zero];rfl
  rw[this]
 .intro t ht;have hOl:(iD clq K).length=K:=aa9 _ _;refine SS ?_;refine aa ⟨_,rfl,fun h=>?_,fun h=>?_⟩
  .have VG:t<K:=by
    have:(t:Int)<(iD clq K).length:=by simpa using h
    omega
   clear h;have hx:(iD clq K)[t]? =some (ao (bz clq t)):=aa' VG;have Hq:=aE t VG
   have yZ:(bz clq t).length<=1000:=by
    have:(bz clq t).length<=(range clq.length).length:=List.length_filter_le _ _;simp at this;omega
   have amQ:(ao (bz clq t)).length<=1000:=by simpa using yZ
   refine ws ?_;refine ax ?_;refine er ?_;refine SS ?_;refine aa (aB (aw ?_));refine ax ?_
   refine aa (bY (fun s=>aI prog s ⟨ay [(1,bI keep),(2,.pt (fN l sh ca (ao clq))),(6,.rp 2 0),(7,.rs 3 0 n),(9,aP (ao (bz clq t))),(10,B ((bz clq t).any kp)),(25,cg (iD clq K)),(26,I (iD clq K).length),(27,I t)],mK n (gH clq kp t (bz clq t).length) (jV clq kp (iv l) t 0),4⟩) (cy (α:=Nat)
    (fun j=>⟨ay [(1,bI keep),(2,.pt (fN l sh ca (ao clq))),(6,.rp 2 0),(7,.rs 3 0 n),(9,aP (ao (bz clq t))),(10,B (((bz clq t).take j).any kp)),(25,cg (iD clq K)),(26,I (iD clq K).length),(27,I t),(31,aP (ao (bz clq t))),(32,I (ao (bz clq t)).length),(33,I j)],mK n (gH clq kp t j) (jV clq kp (iv l) t 0),4⟩)
    (fun j=>j<=(bz clq t).length) (fun j=>(bz clq t).length - j) 0
    (av eH) (Nat.zero_le _) ?_) ?_)
   .intro j hj;refine SS ?_;refine aa ⟨_,rfl,fun h=>?_,fun h=>?_⟩
    .have dq:j<(bz clq t).length:=by simpa using h
     clear h;obtain⟨y,hy⟩:∃ y,(bz clq t)[j]? =some y:=⟨_,aU dq⟩
     have X:y<n:=by have:=(kT.1 (bD hy)).1;omega
     have VH:(ao (bz clq t))[j]? =some ((y:Nat):Int):=by rw[List.getElem?_map,hy];rfl
     obtain⟨f,hf⟩:∃ f,l[y]? =some f:=⟨_,aU oG⟩
     have yY:kp y=keep.any fun x=>f.name.toList==x.toList:=by
      rw[UA];unfold ta;rw[dx,List.getElem?_map,hf];rfl
     have H4:=H4 (l:=keep) (s:=f.name);rw[<- yY] at H4;refine ws ?_;refine ax ?_;refine aa (ep Zy ?_);unfold mK;refine dG ?_;refine ab ?_;refine cl H4 ?_;refine au (mr rfl rfl rfl Es c4) aK ⟨DH,oG⟩ ?_;refine bM (eg (d:=B (kp y)) rfl rfl rfl rfl I5) aK (bU t4 c4 ⟨rfl,by simp;omega⟩ rfl) ?_;refine ct cG (fC ?_)
     have C:((range n).map fun k=>if k=y then B (kp y) else B (gH clq kp t j k))=(range n).map fun k=>B (gH clq kp t (j+1) k):=List.map_congr_left fun k _=>by
      rw[Pj hy];split<;>rfl
     rw[C];have kd:=X' (fun k=>B (gH clq kp t (j+1) k)) X;rw[Pj (k:=y) hy,if_pos rfl] at kd;obtain⟨cs,kd⟩:=kd
     have Hr:((bz clq t).take (j+1)).any kp=(((bz clq t).take j).any kp||kp y):=by
      rw[List.take_add_one,hy];simp
     cases hs:((bz clq t).take j).any kp with
     |true=>
      rw[hs] at Hr;refine ab ?_;refine jf rfl rfl fun _ _=>?_;refine jf rfl rfl fun _ _=>?_;refine jf rfl rfl fun _ _=>?_;refine jf rfl rfl fun _ _=>?_;refine ab ?_;refine aa ?_;refine ab ?_;exact aa (bg (j+1) (Fg ⟨rfl,rfl,rfl,rfl,rfl,by rw[Hr];rfl,rfl,rfl,rfl,rfl,rfl,rfl,trivial⟩ rfl rfl rfl) oG oG)
     |false=>
      rw[hs] at Hr;refine aZ ?_;refine bd rfl rfl (mr rfl rfl rfl Es c4) (fun hc=>⟨(by repeat' (first|exact trivial|exact hc|exact rfl|refine And.intro ?_ ?_)),⟨DH,oG⟩⟩) ?_;refine bd rfl rfl (j7 rfl rfl kd a4) (fun hc=>⟨(by repeat' (first|exact trivial|exact hc|exact rfl|refine And.intro ?_ ?_)),(j8 t4 c4 kd)⟩) ?_;refine ab ?_;refine aa ?_;refine ab ?_;exact aa (bg (j+1) (Fg ⟨rfl,rfl,rfl,rfl,rfl,by rw[Hr];rfl,rfl,rfl,rfl,rfl,rfl,rfl,trivial⟩ rfl rfl rfl) oG oG)
    .have U:j=(bz clq t).length:=by
      have:¬ (j:Int)<(ao (bz clq t)).length:=by simpa using h
      simp at this;omega
     subst U;rw[List.take_length];exact av eH
   .intro s hg;refine⟨_,hg,aB (aj ?_)⟩;refine ab ?_;obtain⟨J,H7⟩:∃ J,(bz clq t)[0]? =some J:=⟨_,aU (List.length_pos_iff.2 Hq)⟩
    have ajb:(bz clq t).headD 0=J:=by
     cases VJ:bz clq t with
     |nil=>exact absurd VJ Hq
     |cons a l2=>rw[VJ] at H7;simpa using H7
    have amR:J<n:=by have:=(kT.1 (bD H7)).1;omega
    have VH:(ao (bz clq t))[0]? =some ((J:Nat):Int):=by rw[List.getElem?_map,H7];rfl
    refine aa (iL (fun s=>aI prog s ⟨ay [(1,bI keep),(2,.pt (fN l sh ca (ao clq))),(6,.rp 2 0),(7,.rs 3 0 n),(9,aP (ao (bz clq t))),(25,cg (iD clq K)),(26,I (iD clq K).length),(27,I t)],mK n (gH clq kp (t+1) 0) (jV clq kp (iv l) t 0),4⟩) ?_ ?_)
    .cases hs:(bz clq t).any kp with
     |true=>
      refine aO rfl (fun h=>oH) fun h=>cJ ?_;rw[QT (f':=gH clq kp (t+1) 0) (fun k hk=>Zz oG hs) fun _ _=>rfl];exact av eH
     |false=>
      refine aO rfl (fun h=>?_) fun h=>oH;unfold mK;refine acj ZA ?_;refine aZ ?_;refine au (mr rfl rfl rfl Es c4) aK ⟨DH,oG⟩ ?_;refine bM (eg (d:=B true) rfl rfl rfl rfl I5) aK (bU t4 c4 ⟨rfl,by simp;omega⟩ rfl) ?_
      have C:((range n).map fun k=>if k=J then B true else B (gH clq kp t (bz clq t).length k))=(range n).map fun k=>B (gH clq kp (t+1) 0 k):=List.map_congr_left fun k hk=>by
       rw[<- Ya (by have:=List.mem_range.1 hk;omega) hs,ajb];by_cases e:k=J
       .rw[if_pos e,if_pos ⟨e,Hq⟩]
       .rw[if_neg e,if_neg fun h=>e h.1]
      rw[C];exact ct cG (Fg eH rfl rfl rfl)
    .intro s hg;obtain⟨fl,C⟩:∃ fl,fl=gH clq kp (t+1) 0:=⟨_,rfl⟩
     have TJ:(bz clq t).find? fl=some (sO kp (bz clq t)):=by
      rw[<- ZB Hq]
      have:∀ l:List Nat,(∀ i∈l,fl i=jU clq kp i)->l.find? fl=l.find? (jU clq kp):=fun l h=>by
       induction l with
       |nil=>rfl
       |cons a l ih=>rw[List.find?_cons,List.find?_cons,h a oS,ih fun i hi=>h i (List.mem_cons_of_mem _ hi)]
      exact this _ fun i hi=>by rw[C,B0,(kT.1 hi).2,decide_eq_true (Nat.lt_succ_self t),Bool.true_and]
     obtain⟨p,hp⟩:∃ p:Int->Bool,p=fun i=>fl i.toNat:=⟨_,rfl⟩
     have adG:(ao (bz clq t)).find? p=some ((sO kp (bz clq t):Nat):Int):=by
      have e:(p ∘ fun(n:Nat)=>(n:Int))=fl:=by funext i;rw[hp];rfl
      rw[List.find?_map,e,TJ];rfl
     obtain⟨ix,Ny,ajc⟩:=Zw adG;have UD:∀ d∈(range n).map (fun i=>B (fl i)),Tr d:=.map fun _=>.s _
     have zj:=zj (l:=ao (bz clq t)) (g:=90) (fs:=[]) (cs:=[.pt [.sl ((range n).map fun i=>B (fl i)) n]]) (p:=p) (.fn oS (.cons (.pt (.cons (.sl UD) .nil)) .nil)) fun i hi=>by
      obtain⟨y,hy,rfl⟩:=List.mem_map.1 hi;have X:y<n:=by have:=(kT.1 hy).1;omega
      have:=k90 (l:=(range n).map fl) (i:=y) (b:=fl y) (by simp[X]);rw[List.map_map,List.length_map,List.length_range] at this;have e:p ((y:Nat):Int)=fl y:=by rw[hp];rfl
      rw[e];exact this
     rw[ajc] at zj
     have Ns:sO kp (bz clq t)<n:=by
      have:=List.mem_of_find?_eq_some TJ;have:=(kT.1 this).1;omega
     obtain⟨rp,Br⟩:∃ rp,rp=sO kp (bz clq t):=⟨_,rfl⟩
     rw[<- Br] at Ny Ns;rw[<- C] at hg;refine⟨_,hg,aj ?_⟩
     have fx:jn prog [1,2] (mK n fl (jV clq kp (iv l) t 0)) [aP (ao (bz clq t)),.fn (.func 90) [] [.rp 2 0]] [aP (ao (bz clq t)),.fn (.func 90) [] [.pt [.sl ((range n).map fun i=>B (fl i)) n]]]:=
      ⟨cH (du _),aei oS rfl fun k d d' hd fa=>(by
       match k with
       |0=>
        cases hd;cases fa
        exact adv (i:=2) (off:=0) (cs:=[.rs 1 0 n]) (e:=92) rfl oS rfl rfl fun k d d' hd fa=>(by
         match k with
         |0=>
          cases hd;cases fa;exact AF (i:=1) (cs:=(range n).map fun i=>B (fl i)) (e:=4) rfl oS (by rw[c4,List.drop_zero,df oS]) UD
         |k+1=>cases hd)
       |k+1=>cases hd),trivial⟩
     refine ax ?_;refine Tg zj rfl fx rfl aK ?_;refine ax ?_;refine aa (aw ?_);refine ax ?_
     refine aa (cy (α:=Nat)
      (fun j=>⟨ay [(1,bI keep),(2,.pt (fN l sh ca (ao clq))),(6,.rp 2 0),(7,.rs 3 0 n),(13,I rp),(25,cg (iD clq K)),(26,I (iD clq K).length),(27,I t),(70,aP (ao (bz clq t))),(71,I (ao (bz clq t)).length),(72,I j)],mK n fl (jV clq kp (iv l) t j),4⟩)
      (fun j=>j<=(bz clq t).length) (fun j=>(bz clq t).length - j) 0
      (av eH) (Nat.zero_le _) ?_)
     intro j hj;refine SS ?_;refine aa ⟨_,rfl,fun h=>?_,fun h=>?_⟩
     .have dq:j<(bz clq t).length:=by simpa using h
      clear h;obtain⟨y,hy⟩:∃ y,(bz clq t)[j]? =some y:=⟨_,aU dq⟩
      have X:y<n:=by have:=(kT.1 (bD hy)).1;omega
      have VH:(ao (bz clq t))[j]? =some ((y:Nat):Int):=by rw[List.getElem?_map,hy];rfl
      obtain⟨f,hf⟩:∃ f,l[rp]? =some f:=⟨_,aU oG⟩
      have uV:iv l rp=f.name:=by
       unfold iv;rw[dx,List.getElem?_map,hf];rfl
      refine ws ?_;refine ax ?_;refine aa (fC ?_);unfold mK;refine bt ?_;refine au (mr rfl rfl rfl rE c9) aK ⟨ln,oG⟩ ?_;refine bM (eg (d:=S f.name) rfl rfl rfl rfl I5) aK (bU t9 c9 ⟨rfl,by simp;omega⟩ rfl) ?_
      have fM:((range n).map fun k=>if k=y then S f.name else S (jV clq kp (iv l) t j k))=(range n).map fun k=>S (jV clq kp (iv l) t (j+1) k):=List.map_congr_left fun k _=>by
       rw[Yb hy, <- Br,uV];split<;>rfl
      rw[fM];refine aa ?_;refine ab ?_;exact aa (bg (j+1) (Fg eH rfl rfl rfl) oG oG)
     .have U:j=(bz clq t).length:=by
       have:¬ (j:Int)<(ao (bz clq t)).length:=by simpa using h
       simp at this;omega
      subst U;show aq _ _ _ _ _ _ _ _ _;refine ab ?_;rw[QT (f':=gH clq kp (t+1) 0) (g':=jV clq kp (iv l) (t+1) 0) (fun _ _=>by rw[C]) fun k hk=>ZC oG];exact aa (bg (t+1) (av eH) oG oG)
  .have U:t=K:=by
    have:¬ (t:Int)<(iD clq K).length:=by simpa using h
    omega
   subst U;exact av eH
 .intro s hg;have e1:((range n).map fun i=>B (gH clq kp K 0 i))=(range n).map fun i=>B (jU clq kp i):=List.map_congr_left fun i hi=>by rw[B0,decide_eq_true (UB i (List.mem_range.1 hi))];rfl
  have e2:((range n).map fun i=>S (jV clq kp (iv l) K 0 i))=(range n).map fun i=>S (iv l (ug clq kp i)):=List.map_congr_left fun i hi=>by unfold jV;rw[if_pos (UB i (List.mem_range.1 hi))]
  unfold mK at hg;rw[e1,e2] at hg;refine⟨_,hg,aw ?_⟩;refine aZ ?_
  refine aa ⟨_,(lz (i:=1) (e:=4) rfl (l:=[(4,.sl ((range n).map fun i=>B (jU clq kp i)) n),(5,.rs 3 0 n)]) ⟨iJ (by rw[c4];simp),xe oC,trivial⟩).trans
   (lz (i:=3) (cs:=(range n).map fun i=>S (iv l (ug clq kp i))) (e:=9) (gS rfl oC (.cells fun d hd=>by obtain⟨x,_,rfl⟩:=List.mem_map.1 hd;exact .s _)) (l:=[(4,.sl ((range n).map fun i=>B (jU clq kp i)) n),(5,.sl ((range n).map fun i=>S (iv l (ug clq kp i))) n)]) ⟨rfl,iJ (by rw[c9];simp),trivial⟩),bJ (gk rfl rfl rfl)⟩
end Go.Proofs.Tryz.K
namespace Go.Argus
def mw(l:List al)(keep:List ByteArray):List ByteArray:=(range l.length).map fun i=>iv l (ug (fT l) (ta l keep) i)
def od(l:List al)(keep:List ByteArray):List Bool:=(range l.length).map fun i=>jU (fT l) (ta l keep) i
def Ba(k v:ByteArray):List (ByteArray×ByteArray)->List (ByteArray×ByteArray)
 |[]=>[(k,v)]
 |e::es=>if e.1=k then(k,v)::es else e::Ba k v es
def DI(es:List (ByteArray×ByteArray))(k:ByteArray):ByteArray:=match es.find? fun e=>decide (e.1=k) with
 |some e=>e.2
 |none=>"".toUTF8
def hZ(es:List (ByteArray×ByteArray)):List (Value×D):=es.map fun e=>(.string e.1,S e.2)
def nV(l:List al)(C:Nat->ByteArray)(t:Nat):List (ByteArray×ByteArray):=(range t).foldl (fun es i=>Ba (iv l i) (C i) es) []
theorem aba(l:List al)(C:Nat->ByteArray)(t:Nat):nV l C (t+1)=Ba (iv l t) (C t) (nV l C t):=by
 unfold nV;rw[List.range_succ,List.foldl_append];rfl
def nh(l:List al)(lf:Nat->Bool)(to:ByteArray->ByteArray)(t:Nat):List al:=(range t).filterMap fun i=>if lf i then(l[i]?).map fun f=>fm f f.name to else none
def CR(l:List al)(keep:List ByteArray):List al:=nh l (jU (fT l) (ta l keep)) (DI (nV l (fun i=>iv l (ug (fT l) (ta l keep) i)) l.length)) l.length
theorem OI{l:List al}{lf:Nat->Bool}{to:ByteArray->ByteArray}{t:Nat}{f:al}(h:l[t]? =some f):nh l lf to (t+1)=nh l lf to t++(if lf t then [fm f f.name to] else []):=by
 unfold nh;rw[List.range_succ,List.filterMap_append];congr 1;simp only[List.filterMap_cons,List.filterMap_nil,h,Option.map_some];cases lf t<;>rfl
theorem RV(a b:ByteArray):kM (.string a) (.string b)=decide (a=b):=by
 by_cases h:a=b
 .subst h;rw[decide_eq_true rfl];show(a.data.toList==a.data.toList)=true;simp
 .rw[decide_eq_false h];exact beq_eq_false_iff_ne.2 fun e=>h (vB e)
theorem ZD(k:Value)(d:D)(e:Value×D)(es:List (Value×D)):fV k d (e::es)=if kM e.1 k then(k,d)::es else e::fV k d es:=by
 unfold fV;obtain⟨a,b⟩:=e;simp only[cN];cases kM a k with
 |true=>simp
 |false=>
  simp only[Bool.false_eq_true,if_false];cases cN k es with
  |none=>rfl
  |some x=>rfl
theorem TK(k v:ByteArray):∀ es:List (ByteArray×ByteArray),fV (.string k) (S v) (hZ es)=hZ (Ba k v es)
 |[]=>rfl
 |e::es=>by
  have e1:hZ (e::es)=(Value.string e.1,S e.2)::hZ es:=rfl;have e2:Ba k v (e::es)=if e.1=k then(k,v)::es else e::Ba k v es:=rfl
  rw[e1,ZD,RV,TK k v es,e2];by_cases h:e.1=k
  .rw[decide_eq_true h,if_pos rfl,if_pos h];rfl
  .rw[decide_eq_false h,if_neg h];rfl
theorem SA(k:ByteArray):∀ es:List (ByteArray×ByteArray),(cN (.string k) (hZ es)).map (·.2)=(es.find? fun e=>decide (e.1=k)).map fun e=>S e.2
 |[]=>rfl
 |e::es=>by
  have e1:hZ (e::es)=(Value.string e.1,S e.2)::hZ es:=rfl;have ih:=SA k es;rw[e1,List.find?_cons];simp only[cN];rw[RV];by_cases h:e.1=k
  .rw[decide_eq_true h];rfl
  .rw[decide_eq_false h];simp only[Bool.false_eq_true,if_false,Option.map_map];rw[<- ih];rfl
def Aq(c:List ByteArray):Bool:=c.all (fun x=>decide (x.size<=130))&&(decide (c.length<=12)||(decide (60<c.length)&&decide (c.length<=62)))
theorem VN:∀ a b c d e:Bool,(if(if(if(if a=true then true else b)=true then true else c)=true then true else d)=true then true else e)=(a||(b||(c||(d||e)))):=by decide
def DK(f:al):Bool:=decide (12<(f.blocks.length:Int))||(decide (20<(f.aT.length:Int))||(decide (10<(f.cm.length:Int))||(decide (8<(f.signals.length:Int))||decide (130<(f.name.size:Int)))))
def DL(b:bx):Bool:=decide (8<(b.ins.length:Int))||(decide (8<(b.fin.aR.length:Int))||(decide (8<(b.fin.args.length:Int))||(decide (130<(b.fin.name.size:Int))||decide (8<(b.fin.ins.args.length:Int)))))
def Bb(y:cW):Bool:=decide (14<(y.args.length:Int))
def DM(w:iR):Bool:=decide (20<(w.name.size:Int))
def Bc(s:ByteArray):Bool:=decide (20<(s.size:Int))
def yD(b:bx):Bool:= !DL b&&(b.ins.all (fun y=> !Bb y)&&b.fin.aR.all (fun w=> !DM w))
def wm(f:al):Bool:= !DK f&&(f.signals.all (fun s=> !Bc s)&&f.blocks.all yD)
def uz(l:List al):Bool:=l.all wm&&(decide ((l.length:Int)<=10)||(decide (60<(l.length:Int))&&decide ((l.length:Int)<=63)))
theorem acC{l:List al}(h:uz l=true):l.length<=63:=by
 unfold uz at h;simp only[bf,Bool.or_eq_true,decide_eq_true_eq] at h;omega
theorem Cu{α:Type}{p:α->Bool}{l:List α}{x:α}(hx:x∈l)(h:p x=false):l.all p=false:=by
 rw[Bool.eq_false_iff];intro ht;rw[bS.1 ht x hx] at h;cases h
theorem acD{a b:ByteArray}(h:(!(a.toList==b.toList))=false):a=b:=by
 have h:a.toList=b.toList:=by simpa using h
 rw[qF,qF] at h;exact vB h
def SB:Argus.End:=⟨3, -1,0,0,0,⟨#[]⟩,xH,[],[], -1⟩
def KE(c:ByteArray):Argus.End:=⟨6, -1,0,1,0,c,xH,[],[], -1⟩
def iO(C c:ByteArray):al:=⟨C,false,0,0,[],[],[],[⟨[],KE c⟩,⟨[],SB⟩]⟩
def Dl(C:ByteArray):al:=⟨C,false,0,0,[],[],[],[⟨[],SB⟩]⟩
abbrev sA:ByteArray:=⟨#[97]⟩
abbrev sB:ByteArray:=⟨#[98]⟩
abbrev sC:ByteArray:=⟨#[99]⟩
abbrev sD:ByteArray:=⟨#[100]⟩
abbrev sE:ByteArray:=⟨#[101]⟩
def dK:List al:=[iO sA sB,iO sB sA,iO sC sD,Dl sD,iO sE sC]
theorem pC:di dK=(0,0):=kr
theorem Ab:aY dK=[[1],[0],[3],[],[2]]:=kr
theorem ZG(C c:ByteArray):vP (iO C c)=iO kP kP:=rfl
theorem abg{κ:Type}[DecidableEq κ]{s t:κ}(h:s≠t):br [s,s,s,t,s]=[0,0,0,1,0]:=by
 have h':t≠s:=fun e=>h e.symm
 have e:bq [s,s,s,t,s]=[s,t]:=by
  simp[bq,lC,h,h']
 unfold br;rw[e];simp[List.idxOf_cons,beq_eq_false_iff_ne.2 h,beq_eq_false_iff_ne.2 h']
theorem Ac:c6 dK=[0,0,0,1,0]:=by
 have h0:=sk (l:=dK) (by rw[pC]);have hp:∀ C c,ng (iO C c)=lP (iO kP kP):=fun C c=>congrArg lP (ZG C c)
 have J:lP (iO kP kP)≠ng (Dl sD):=fun e=>by
  have:=OJ (f:=iO sA sB) (g:=Dl sD) (h0.rH _ (by simp[dK])) (h0.rH _ (by simp[dK])) ((hp _ _).trans e);revert this;decide
 unfold c6
 have:bA dK=[lP (iO kP kP),lP (iO kP kP),lP (iO kP kP),ng (Dl sD),lP (iO kP kP)]:=by
  unfold bA dK;simp only[List.map_cons,List.map_nil,hp]
 rw[this];exact abg J
theorem II:fT dK=[0,0,1,2,3]:=by
 unfold fT;rw[Ac,Ab]
 kernel_rfl
theorem abh:qK dK=cg [[0,1],[2],[3],[4]]:=by
 unfold qK ux;rw[pC,II]
 kernel_rfl
theorem abi:zw dK [[0],[1],[2],[3],[4]]=true:=by
 unfold zw;rw[pC,Ac,Ab]
 kernel_rfl
theorem abj:zw dK [[0,1,2],[3],[4]]=false:=by
 unfold zw;rw[pC,Ac,Ab]
 kernel_rfl
theorem abk:pH dK 0 4=[aP [0,0],B true,I 0]:=by
 unfold pH;rw[pC,Ac,Ab]
 kernel_rfl
theorem abl:pH dK 0 1=[.z,B false,I 0]:=by
 unfold pH;rw[pC,Ac,Ab]
 kernel_rfl
theorem abm:pH dK 3 0=[aP [],B true,I 0]:=by
 unfold pH;rw[pC,Ac,Ab]
 kernel_rfl
def ui:List al:=[iO sA sA,iO sC sD,Dl sD,iO sE sC]
theorem Ye:CR dK [sE]=ui:=by
 unfold CR;rw[II]
 kernel_rfl
theorem Yf:mw dK [sB]=[sB,sB,sC,sD,sE]:=by
 unfold mw;rw[II]
 kernel_rfl
theorem QU{α:Type}{f:α->List D}{sz:Nat}(hs:∀ x,(f x).length=sz):∀ {l:List α} {k j:Nat} {x C:α} {v:D},l[k]? =some x->j<sz->f C=(f x).set j v->(l.flatMap f).set (k*sz+j) v=(l.set k C).flatMap f
 |[],k,j,x,C,v,h,_,_=>by simp at h
 |y::l,0,j,x,C,v,h,hj,hx=>by
  simp only[List.getElem?_cons_zero,aG] at h;subst h;rw[List.flatMap_cons,List.set_cons_zero,List.flatMap_cons,hx,Nat.zero_mul,Nat.zero_add,List.set_append_left _ _ (by rw[hs];exact hj)]
 |y::l,k+1,j,x,C,v,h,hj,hx=>by
  rw[List.flatMap_cons,List.set_cons_succ,List.flatMap_cons, <- QU hs (l:=l) (k:=k) (by simpa using h) hj hx,List.set_append_right _ _ (by rw[hs,Nat.add_mul];omega),hs];congr 2;rw[Nat.add_mul];omega
def iz(bs:List bx)(to:ByteArray->ByteArray)(k:Nat):List bx:=(bs.take k).map (cK to)++bs.drop k
theorem I6{bs:List bx}{to:ByteArray->ByteArray}{k:Nat}{b:bx}(h:bs[k]? =some b):(iz bs to k)[k]? =some b:=by
 have hk:=(bK.1 h).1;unfold iz;rw[List.getElem?_append_right oP];simp only[List.length_map,List.length_take,Nat.min_eq_left (Nat.le_of_lt hk),Nat.sub_self,List.getElem?_drop];exact h
theorem ZH(bs:List bx)(to:ByteArray->ByteArray)(k:Nat):(iz bs to k).length=bs.length:=by
 unfold iz;simp;omega
theorem Pm{bs:List bx}{to:ByteArray->ByteArray}{k:Nat}{b:bx}(h:bs[k]? =some b):iz bs to (k+1)=(iz bs to k).set k (cK to b):=by
 have hk:=(bK.1 h).1;unfold iz
 have hd:bs.drop k=b::bs.drop (k+1):=by
  rw[List.drop_eq_getElem_cons hk];congr 1;exact Option.some.inj ((aU hk).symm.trans h)
 rw[List.take_add_one,h,hd,List.set_append_right _ _ oP];simp[Nat.min_eq_left (Nat.le_of_lt hk)]
theorem ZI(bs:List bx)(to:ByteArray->ByteArray):iz bs to bs.length=bs.map (cK to):=by unfold iz;simp
theorem Yg(bs:List bx)(to:ByteArray->ByteArray):iz bs to 0=bs:=by unfold iz;simp
theorem ZJ{α:Type}{l:List α}{k:Nat}{x:α}(h:l[k]? =some x):l.set k x=l:=by
 obtain⟨hk,rfl⟩:=bK.1 h;exact List.set_getElem_self hk
theorem abn{bs:List bx}{to:ByteArray->ByteArray}{k:Nat}{b:bx}(h:bs[k]? =some b)(hc:eC b=false):iz bs to (k+1)=iz bs to k:=by
 rw[Pm h];have e:cK to b=b:=by unfold cK;rw[if_neg (by rw[hc];simp)]
 rw[e];exact ZJ (I6 h)
theorem lM.TL{l:List al}{s:ByteArray}(h:eE (gj l) s=true):∃ g,l[fA l s]? =some g/\g.name=s:=by
 have h1:=abp h;unfold fA;rw[if_pos h];rw[List.getElem?_map] at h1;obtain⟨g,hg,e⟩:=cP.1 h1;exact⟨g,hg,e⟩
theorem abq{l:List al}{s:ByteArray}(hn:(gj l).Nodup)(h:eE (gj l) s=true):named l s=(fA l s:Nat):=by
 obtain⟨g,hg,rfl⟩:=lM.TL h;refine tu hg oS fun j y hj hy=>?_;rw[Bool.eq_false_iff];intro e
 have e:y.name=g.name:=by
  have:y.name.toList=g.name.toList:=by simpa using e
  rw[qF,qF] at this;exact vB this
 have h1:(gj l)[j]? =some g.name:=by simp[hy,e]
 have h2:(gj l)[fA l g.name]? =some g.name:=by simp[hg]
 have:=(List.getElem?_inj (bK.1 h1).1 hn).1 (h1.trans h2.symm);omega
abbrev nB:ByteArray:=⟨#[]⟩
def yE(l:List al)(to:List ByteArray)(i:Nat)(f:al):al:=fm f (to.getD i nB) fun s=>to.getD (fA l s) nB
def sP(l:List al)(to:List ByteArray)(k:Nat):List al:=((l.take k).zipIdx).map fun x=>yE l to x.2 x.1
def ia(l:List al)(to:List ByteArray):List al:=sP l to l.length
theorem ZK{l:List al}{to:List ByteArray}{k:Nat}{f:al}(h:l[k]? =some f):sP l to (k+1)=sP l to k++[yE l to k f]:=by
 unfold sP;have hk:=(bK.1 h).1;rw[List.take_add_one,h,List.zipIdx_append,List.map_append];simp[Nat.min_eq_left (Nat.le_of_lt hk)]
theorem QV{l:List al}{to:List ByteArray}{k:Nat}(h:k<=l.length):(sP l to k).length=k:=by
 unfold sP;simp;omega
theorem abr{l:List al}{to:List ByteArray}{i:Nat}{f:al}(h:l[i]? =some f):(ia l to)[i]? =some (yE l to i f):=by
 unfold ia sP;rw[List.take_length,List.getElem?_map,List.getElem?_zipIdx,h];simp
theorem zY(l:List al)(to:List ByteArray):(ia l to).length=l.length:=QV (a8 _)
theorem acH{l:List al}{to:List ByteArray}(h:(di l).2=0)(gh:to.length=l.length)(hm:(di (ia l to)).2=0):ux (ia l to)=ux l:=by
 have hL:=sk h;have hM:=sk hm;have hlen:=zY l to;have C:∀ {i:Nat} {f:al},l[i]? =some f->(ia l to)[i]? =some (yE l to i f):=fun hf=>abr hf
 have M:gj (ia l to)=to:=by
  refine List.ext_getElem? fun i=>?_;rw[List.getElem?_map];cases hf:l[i]? with
  |none=>
   have h1:l.length<=i:=List.getElem?_eq_none_iff.1 hf;rw[List.getElem?_eq_none oG,List.getElem?_eq_none oG];rfl
  |some f=>
   have h1:=(bK.1 hf).1;rw[C hf,aU (show i<to.length by omega)];show some (to.getD i nB)=_;rw[dx,aU (show i<to.length by omega)];rfl
 have X:∀ {q:Nat},q<l.length->fA (ia l to) (to.getD q nB)=q:=fun {q} hq=>by
  have e:to[q]? =some (to.getD q nB):=by
   rw[dx,aU (show q<to.length by omega)];rfl
  have kB:eE (gj (ia l to)) (to.getD q nB)=true:=by
   rw[JA,M];exact bD e
  obtain⟨g,hg,J⟩:=lM.TL kB;have h1:(gj (ia l to))[fA (ia l to) (to.getD q nB)]? =some (to.getD q nB):=by rw[List.getElem?_map,hg, <- J];rfl
  have h2:(gj (ia l to))[q]? =some (to.getD q nB):=by rw[M];exact e
  exact(List.getElem?_inj (bK.1 h1).1 hM.nodup).1 (h1.trans h2.symm)
 have jM:aY (ia l to)=aY l:=by
  refine List.ext_getElem? fun i=>?_;unfold aY;rw[List.getElem?_map,List.getElem?_map];cases hf:l[i]? with
  |none=>
   have h1:l.length<=i:=List.getElem?_eq_none_iff.1 hf;rw[List.getElem?_eq_none oG];rfl
  |some f=>
   rw[C hf];simp only[Option.map_some,aG];show(bV (f.blocks.map (cK _))).map _=_;rw[Ot,List.map_map];refine List.map_congr_left fun s hs=>?_;exact X (KF (hL.known (bD hf) hs))
 have mf:bA (ia l to)=bA l:=by
  refine List.ext_getElem? fun i=>?_;unfold bA;rw[List.getElem?_map,List.getElem?_map];cases hf:l[i]? with
  |none=>
   have h1:l.length<=i:=List.getElem?_eq_none_iff.1 hf;rw[List.getElem?_eq_none oG]
  |some f=>
   rw[C hf];exact congrArg some (Yk f _ _)
 have U:fT (ia l to)=fT l:=by
  unfold fT c6;rw[jM,mf]
 unfold ux;rw[U]
end Go.Argus
namespace Go.Proofs.Tryz.K
theorem RU{l:List al}{keep:List ByteArray}(h:jk l keep=0):(di l).2=0/\keep.length<=60:=by
 unfold jk at h;split at h
 .rename_i h1;exact absurd h h1
 .rename_i h1;split at h
  .cases h
  .rename_i h2;exact⟨Decidable.not_not.1 h1,oG⟩
theorem UE{l:List al}{keep:List ByteArray}(hl:l.length<=1000)(h:jk l keep=0):aA prog 56 [.agg (nr l keep),bI keep] (.aL [.sl ((od l keep).map B) l.length,.sl ((mw l keep).map S) l.length]):=by
 obtain⟨h0,M⟩:=RU h;have J:(c6 l).length=(aY l).length:=by simp[c6,bA]
 obtain⟨ks,hk,hs⟩:=PR J;have C:fT l=br ks:=hs;have:=Er (l:=l) (sh:=bA l) (ca:=(aY l).map ao) (ks:=ks) (keep:=keep) hl (by simp at hk;omega) M;unfold nr od mw;rw[if_pos h,List.map_map,List.map_map,C];exact this
theorem Nz{l:List al}{keep:List ByteArray}(hl:l.length<=1000):aA prog 24 [bc l,bI keep] (.aL [if jk l keep=0 then bI (mw l keep) else .z,I (jk l keep)]):=by
 have rJ:=rJ (keep:=keep) hl
 have bh:Tr (if jk l keep=0 then bI (mw l keep) else .z):=by
  split
  .exact fS _
  .exact .z
 refine bj ajd (.cons (gP l) (.cons (fS _) .nil)) (.aL (.cons bh (.cons (.s _) .nil))) ?_;rw[aje]
 have U:(nr l keep).length=4/\(nr l keep).all D.one=true:=by
  unfold nr;split<;>exact⟨rfl,rfl⟩
 have M:=UE (keep:=keep) hl;obtain⟨J,Et⟩:∃ J,J=nr l keep:=⟨_,rfl⟩
 obtain⟨C,X⟩:∃ C,C=mw l keep:=⟨_,rfl⟩
 have fM:C.length=l.length:=by rw[X];simp[mw]
 rw[<- Et] at rJ U M;rw[<- X] at M ⊢;generalize jk l keep=err at*
 refine ws ?_;refine ab ?_;refine er ?_
 obtain⟨x1,x2,x3,x4,rfl⟩:∃ a b c d,J=[a,b,c,d]:=by
  match J,U.1 with
  |[a,b,c,d],_=>exact⟨a,b,c,d,rfl⟩
 refine ab ?_;refine cl rJ ?_;refine aZ ?_;refine bM (fk rfl rfl rfl rfl) aK (bU t86 wO ⟨rfl,oS⟩ U.2) ?_;refine SS ?_;refine aa (aB (aj ?_));refine ab ?_;refine aa (cR rfl (fun h=>aB (aj ?_)) fun h=>cI (aj ?_))
 .have he:err≠0:=by simpa using h
  rw[if_neg he];refine ax ?_;exact aa (xD (bJ (bE (gk rfl rfl rfl))))
 .have he:err=0:=by simpa using h
  have Er:=M he;rw[if_pos he];refine ab ?_;refine cl Er ?_;refine bu ?_;refine er ?_;refine ax ?_;have e:bI C=.sl (C.map S) l.length:=by rw[show bI C=.sl (C.map S) C.length from rfl,fM]
  rw[he,e];exact aa (bJ (gk rfl rfl rfl))
theorem afs:lN prog (lh prog 105)=S "".toUTF8:=kr
theorem aft(k:ByteArray)(es:List (ByteArray×ByteArray)):fv prog 105 false (cN (.string k) (hZ es))=S (DI es k):=by
 have h:=SA k es;unfold DI;cases hf:es.find? fun e=>decide (e.1=k) with
 |none=>
  rw[hf] at h;cases hl:cN (.string k) (hZ es) with
  |none=>simp[fv,afs]
  |some x=>rw[hl] at h;cases h
 |some e=>
  rw[hf] at h;cases hl:cN (.string k) (hZ es) with
  |none=>rw[hl] at h;cases h
  |some x=>
   rw[hl] at h;simp only[Option.map_some,aG] at h;simp[fv,h]
theorem Lg(es:List (ByteArray×ByteArray)):(hZ es).all (fun e=>cC prog 9 e.1)=true:=by
 refine bS.2 fun e he=>?_;obtain⟨x,_,rfl⟩:=List.mem_map.1 he;exact vO _
theorem Yc{X:Nat->Prop}(es:List (ByteArray×ByteArray)):kY X (.map (hZ es)):=fun i cs sz _=>by
 simp[Row.sub,hZ,sub,pc,cE]
theorem k58{s:ByteArray}{es:List (ByteArray×ByteArray)}:aA prog 58 [S s,.pt [.im (hZ es)]] (S (DI es s)):=by
 have C:Tr (.im (hZ es)):=.im fun x hx=>by obtain⟨y,_,rfl⟩:=List.mem_map.1 hx;exact .s _
 refine bj ajf (.cons (.s _) (.cons (.pt (.cons C .nil)) .nil)) (Tr.s _) ?_;rw[ajg];refine ws ?_;refine SS ?_;refine er ?_;have J:=aft s es;have M:=Lg es;refine ab ?_;refine au (zM rfl rfl Lh J) aK ⟨Li,vO s,Lg _⟩ ?_;refine SS ?_;exact aa (aF rfl rfl)
theorem IH:∀ l:List al,(l.flatMap aM).length=l.length*8
 |[]=>rfl
 |x::l=>by rw[List.flatMap_cons,List.length_append,IH l,List.length_cons];show 8+_=_;omega
theorem Pk{X:Nat->Prop}(f:al):∀ d∈aM f,fG X d:=fun d hd=>by
 simp only[aM,List.mem_cons,List.not_mem_nil,or_false] at hd;rcases hd with rfl|rfl|rfl|rfl|rfl|rfl|rfl|rfl<;>first|exact .s _|exact .sl _ _
theorem NA{l:List al}{keep:List ByteArray}(hl:l.length<=1000):aA prog 22 [bc l,bI keep] (.aL [if jk l keep=0 then bc (CR l keep) else .z,I (jk l keep)]):=by
 have rJ:=rJ (keep:=keep) hl
 have bh:Tr (if jk l keep=0 then bc (CR l keep) else .z):=by
  split
  .exact gP _
  .exact .z
 refine bj ajh (.cons (gP l) (.cons (fS _) .nil)) (.aL (.cons bh (.cons (.s _) .nil))) ?_;rw[aji];refine ws ?_;refine ab ?_;refine er ?_;by_cases he:jk l keep=0
 .have BK:=UE (keep:=keep) hl he;obtain⟨h0,_⟩:=RU he;have hL:=sk h0;rw[if_pos he,he];rw[he] at rJ;have Et:nr l keep=fN l (bA l) ((aY l).map ao) (ao (fT l)):=if_pos he;rw[Et] at rJ BK;have Er:=BK;obtain⟨zn,LN⟩:∃ zn,zn=fN l (bA l) ((aY l).map ao) (ao (fT l)):=⟨_,rfl⟩
  refine ab ?_;refine cl rJ ?_;refine cr ?_;refine aa (aB (aj ?_));refine ab ?_;refine aa (cR rfl (fun h=>oH) fun h=>cI (aw ?_));refine ab ?_;refine cl Er ?_;refine bu ?_;refine aa (bG (dB [(0,fN l (bA l) ((aY l).map ao) (ao (fT l)),86)] eH (l:=[(6,.pt (fN l (bA l) ((aY l).map ao) (ao (fT l)))),(8,.sl ((od l keep).map B) l.length),(9,.sl ((mw l keep).map S) l.length)]) eH) (aj ?_));refine ab ?_;refine bM (eg (d:=.mp _) (cs':=[_]) rfl rfl rfl rfl rfl) ak (bU V.h V.h (by first|(simp;done)|exact⟨rfl,bC rfl⟩|(simp;omega)) rfl) ?_;refine aa (aB (aw ?_));refine bu ?_;obtain⟨C,uV⟩:∃ C:Nat->ByteArray,C=fun i=>iv l (ug (fT l) (ta l keep) i):=⟨_,rfl⟩
  obtain⟨cD,hcD⟩:∃ cD,cD=[(6,D.pt (fN l (bA l) ((aY l).map ao) (ao (fT l)))),(8,D.sl ((od l keep).map B) l.length),(9,D.sl ((mw l keep).map S) l.length)]:=⟨_,rfl⟩
  refine aa (bY (fun s=>∃ nx,3<=nx/\aI prog s ⟨ay [(6,D.pt (fN l (bA l) ((aY l).map ao) (ao (fT l)))),(8,D.sl ((od l keep).map B) l.length),(10,.rp 2 0)],a7 [(1,.map (hZ (nV l C l.length))),(2,.cells [.mp 1] 105)],nx⟩) (cy (α:=Nat×Nat)
   (fun s=>⟨ay [(6,D.pt (fN l (bA l) ((aY l).map ao) (ao (fT l)))),(8,D.sl ((od l keep).map B) l.length),(9,D.sl ((mw l keep).map S) l.length),(10,.rp 2 0),(34,bc l),(35,I l.length),(36,I s.1)],a7 [(1,.map (hZ (nV l C s.1))),(2,.cells [.mp 1] 105)],s.2⟩)
   (fun s=>s.1<=l.length/\3<=s.2) (fun s=>l.length - s.1) (0,3)
   (bQ eH eH) ⟨Nat.zero_le _,oM⟩ ?_) ?_)
  .rintro⟨t,nx⟩ ⟨ht,cx⟩;dsimp only at ht cx ⊢;refine SS ?_;refine aa ⟨_,rfl,fun h=>?_,fun h=>?_⟩
   .have uW:t<l.length:=by simpa using h
    clear h;obtain⟨f,hf⟩:∃ f,l[t]? =some f:=⟨_,aU uW⟩
    have hnt:(mw l keep)[t]? =some (C t):=by rw[uV];unfold mw;simp[uW]
    have hft:iv l t=f.name:=by unfold iv;rw[dx,List.getElem?_map,hf];rfl
    refine aw ?_;refine bu ?_;refine bM (fk (cs':=aM f) rfl rfl (ah _ _ _) rfl) aK (bU t48 mg oS rfl) ?_;obtain⟨ml,U⟩:∃ ml,ml=[(1,Row.map (hZ (nV l C t))),(2,Row.cells [D.mp 1] 105)]:=⟨_,rfl⟩
    rw[<- U]
    have h1:∀ {u v},dh nx (aM f) (prog.cellsOf 48) (up (up (a7 ml) nx u) nx v) 1=a7 ml 1:=fun {u v}=>by
     rw[U];exact gS (ag oG (ag oG rfl)) oG (Yc _)
    have h2:∀ {u v},dh nx (aM f) (prog.cellsOf 48) (up (up (a7 ml) nx u) nx v) 2=a7 ml 2:=fun {u v}=>by
     rw[U];exact gS (ag oG (ag oG rfl)) oG (fun i cs sz _=>rfl)
    refine aa ⟨⟨ay [(6,D.pt (fN l (bA l) ((aY l).map ao) (ao (fT l)))),(8,D.sl ((od l keep).map B) l.length),(9,D.sl ((mw l keep).map S) l.length),(10,.rp 2 0),(11,I t),(12,.pt (aM f)),(34,bc l),(35,I l.length),(36,I t)],a7 ml,nx+1⟩,?_,?_⟩
    .refine(lz (i:=nx) (cs:=aM f) (e:=48) (ah _ _ _) (l:=[(6,D.pt (fN l (bA l) ((aY l).map ao) (ao (fT l)))),(8,D.sl ((od l keep).map B) l.length),(9,D.sl ((mw l keep).map S) l.length),(10,.rp 2 0),(11,I t),(12,.pt (aM f)),(34,bc l),(35,I l.length),(36,I t)]) ⟨rfl,rfl,rfl,gi oG,rfl,lR,rfl,rfl,rfl,trivial⟩).trans (bQ eH ?_);subst U;exact⟨h1,h2,trivial⟩
    clear h1 h2;subst U;refine z7 abb ?_;refine bu ?_;refine au (Gf (n:=l.length) (i:=t) rfl rfl rE c9 hnt) aK ⟨ln,oG,oG,by simp[mw];omega⟩ ?_;refine SS ?_;refine bM (xC (key:=.string f.name) (v:=S (C t)) rfl rfl rfl rfl Lh) aK ⟨Li,vO _,Lg _⟩ ?_;refine ct cG ?_;refine ab ?_;refine aa (bg (t+1,nx+1) (bQ eH ⟨?_,rfl,trivial⟩) ⟨oM,oM⟩ oM);rw[aba,hft, <- TK];rfl
   .have bl:t=l.length:=by
     have:¬ (t:Int)<l.length:=by simpa using h
     omega
    subst bl;exact⟨nx,cx,av eH⟩
  .rintro s ⟨nx,cx,hg⟩;refine⟨_,(hg.trans (aI.Cm _ _ _ 1 (hZ (nV l C l.length)) rfl)).trans (eT (i:=2) (cs:=[.im (hZ (nV l C l.length))]) (e:=105) rfl (l:=[(6,D.pt (fN l (bA l) ((aY l).map ao) (ao (fT l)))),(8,D.sl ((od l keep).map B) l.length),(10,.pt [.im (hZ (nV l C l.length))])]) eH),aj ?_⟩;refine SS ?_;refine aa (aB (aw ?_));refine bu ?_;obtain⟨to,gh⟩:∃ to,to=DI (nV l C l.length):=⟨_,rfl⟩
   obtain⟨lf,VL⟩:∃ lf,lf=jU (fT l) (ta l keep):=⟨_,rfl⟩
   have hmL:CR l keep=nh l lf to l.length:=by rw[VL,gh,uV];rfl
   rw[hmL]
   have uF:∀ t,(nh l lf to t).length<=t:=fun t=>by
    unfold nh;exact Nat.le_trans (List.length_filterMap_le _ _) oS
   refine aa (bY (fun s=>∃ x m ai H9,ai<=H9/\aI prog s ⟨ay [(13,x)],m,H9⟩/\Grow m 0 ai x (nh l lf to l.length).length ((nh l lf to l.length).flatMap aM) 48) (cy (α:=Nat×D×Mem×Nat)
    (fun s=>⟨ay [(6,D.pt (fN l (bA l) ((aY l).map ao) (ao (fT l)))),(8,D.sl ((od l keep).map B) l.length),(10,.pt [.im (hZ (nV l C l.length))]),(13,s.2.1),(51,bc l),(52,I l.length),(53,I s.1)],s.2.2.1,s.2.2.2⟩)
    (fun s=>s.1<=l.length/\Grow s.2.2.1 0 s.2.2.2 s.2.1 (nh l lf to s.1).length ((nh l lf to s.1).flatMap aM) 48) (fun s=>l.length - s.1) (0,.z,_,nx)
    (av eH) ⟨Nat.zero_le _,.inl ⟨rfl,rfl,rfl⟩⟩ ?_) ?_)
   .rintro⟨t,x,m,nx⟩ ⟨ht,J⟩;dsimp only at ht J ⊢;refine SS ?_;refine aa ⟨_,rfl,fun h=>?_,fun h=>?_⟩
    .have uW:t<l.length:=by simpa using h
     clear h;obtain⟨f,hf⟩:∃ f,l[t]? =some f:=⟨_,aU uW⟩
     have ql:=bD hf;have af:(od l keep)[t]? =some (lf t):=by rw[VL];unfold od;simp[uW]
     refine aw ?_;refine bu ?_;refine bM (fk (cs':=aM f) rfl rfl (ah _ _ _) rfl) aK (bU t48 mg oS rfl) ?_;have dd:∀ g:List al,kY (fun k=>k=nx) (.cells (g.flatMap aM) 48):=fun g=>zK Pk g;refine aa ⟨⟨ay [(6,D.pt (fN l (bA l) ((aY l).map ao) (ao (fT l)))),(8,D.sl ((od l keep).map B) l.length),(10,.pt [.im (hZ (nV l C l.length))]),(13,x),(14,I t),(15,.pt (aM f)),(51,bc l),(52,I l.length),(53,I t)],dh nx (aM f) (prog.cellsOf 48) (up (up m nx (some (.cells gW 48))) nx (some (.cells (aM f) 48))),nx+1⟩,?_,?_⟩
     .exact lz (i:=nx) (cs:=aM f) (e:=48) (ah _ _ _) ⟨rfl,rfl,rfl,J.Tv (a8 _) nx _ _ rfl,rfl,lR,rfl,rfl,rfl,trivial⟩
     have VM:Grow (dh nx (aM f) (prog.cellsOf 48) (up (up m nx (some (.cells gW 48))) nx (some (.cells (aM f) 48)))) 0 (nx+1) x (nh l lf to t).length ((nh l lf to t).flatMap aM) 48:=
      (J.mono (fun j _ hj=>(az _ _ oG).trans (az _ _ oG)) (a8 _)).nR (a8 _) (Nat.le_succ _) (dd _)
     generalize dh nx (aM f) (prog.cellsOf 48) (up (up m nx (some (.cells gW 48))) nx (some (.cells (aM f) 48)))=m2 at*
     refine ws ?_;refine ab ?_;refine au (Gf (n:=l.length) (i:=t) rfl rfl Es c4 af) aK ⟨DH,oG,oG,by simp[od];omega⟩ ?_;refine SS ?_;refine aa (aO rfl (fun h=>fC ?_) fun h=>cT ?_)
     .have ajj:lf t=true:=by simpa using h
      have hb:=tH (Go.Argus.checked (hL.rH f ql));have ajk:Tr (.fn (.func 58) [] [.pt [.im (hZ (nV l C l.length))]]):=.fn oS (.cons (.pt (.cons (.im fun x hx=>by obtain⟨y,_,rfl⟩:=List.mem_map.1 hx;exact .s _) .nil)) .nil)
      have zq:aA prog 57 [.agg (aM f),S f.name,.fn (.func 58) [] [.pt [.im (hZ (nV l C l.length))]]] (.agg (aM (fm f f.name to))):=zq (to:=to) ajk (fun X i cs sz _=>rfl) (fun b _ _=>by rw[gh];exact k58) (by have:=hb.aT;omega) (by have:=hb.cm;omega) (by have:=hb.sigs;omega) (by have:=hb.j4;omega) fun b BA=>by
       have h1:=hb.bF b BA;have h2:=h1.len;have h3:=h1.fin.len;have h4:=h1.fin.aR;have h5:=h1.fin.ins.len;exact⟨oG,fun x hx=>by have:=(h1.ins x hx).len;omega,oG,oG,oG⟩
      have D6:=OI (to:=to) (lf:=lf) hf;rw[ajj,if_pos rfl] at D6;have hTt:=uF t;generalize fm f f.name to=tf at*
      generalize nh l lf to t=T at*
      rcases VM with⟨M,g2,rfl⟩|⟨r,M,g2,rfl,g3⟩
      .refine au (cV (v:=.z) rfl) ak trivial ?_;refine aZ ?_;refine cl zq ?_;refine SS ?_;refine eA (Ak rfl rfl V.h V.h (j5 (ah _ _ _) rfl)) ak ⟨V.h,(by first|omega|exact bC rfl|(simp;done)|(simp;omega)),oC,(by unfold maxLen;first|omega|(simp;omega)),(by rw[H'];first|omega|(simp;omega))⟩ ?_;refine SS ?_;refine aa ?_;refine ab ?_;refine aa (bg (t+1,.rs (nx+1+1) 0 1,_,nx+1+1+1) (av eH) ⟨oM,?_⟩ oM);dsimp only;have NB:T=[]:=List.length_eq_zero_iff.1 M;rw[D6,NB];refine .inr ⟨nx+1+1,oG,oG,rfl,(ah _ _ _).trans ?_⟩;simp;rfl
      .have gn:∀ {a},up m2 (nx+1) a r=some (.cells (T.flatMap aM) 48):=ag oG g3;refine bu ?_;refine cl zq ?_;refine SS ?_;refine iC (iw rfl gn rfl Eu mg (j5 (ah _ _ _) rfl) rfl) aK ⟨DJ,rfl,bC rfl,oC,by rw[IH];omega,by unfold maxLen;omega,by rw[H'];omega,by simp;omega⟩ ?_;refine SS ?_;refine aa ?_;refine ab ?_;refine aa (bg (t+1,.rs (nx+1+1) 0 (T.length+1),_,nx+1+1+1) (av eH) ⟨oM,?_⟩ oM);dsimp only;rw[D6];refine .inr ⟨nx+1+1,oG,oG,oS,(ah _ _ _).trans ?_⟩;rw[List.flatMap_append];simp;rfl
     .have ajl:lf t=false:=by simpa using h
      show aq _ _ _ _ _ _ _ _ _;refine ab ?_;refine aa (bg (t+1,x,m2,nx+1) (av eH) ⟨oM,?_⟩ oM);dsimp only;rw[OI hf,ajl];simpa using VM
    .have bl:t=l.length:=by
      have:¬ (t:Int)<l.length:=by simpa using h
      omega
     subst bl;exact⟨x,m,nx,nx,a8 _,av eH,J⟩
   .rintro s ⟨x,m,ai,H9,zg,hg,J⟩;generalize nh l lf to l.length=T at*
    have nN:∃ m2 gM,aI prog s ⟨ay [(13,bc T)],m2,gM⟩:=by
     rcases J with⟨M,g2,rfl⟩|⟨r,M,g2,rfl,g3⟩
     .have NB:T=[]:=List.length_eq_zero_iff.1 M;subst NB;refine⟨m,H9,hg.trans (.nv _ _ _ _ _ (fun t=>?_) fun i=>.inl rfl)⟩;by_cases h:t=13
      .subst h;exact A4
      .have e:ay [(13,D.z)] t=ay [(13,bc [])] t:=by simp[ay,h]
       rw[e];exact fun _ _ _ _ h=>h
     .exact⟨_,_,hg.trans (lz (i:=r) (e:=48) g3 (l:=[(13,bc T)]) ⟨iJ (by rw[mg,IH]),trivial⟩)⟩
    obtain⟨m2,gM,dR⟩:=nN;refine⟨_,dR,aj ?_⟩;refine ax ?_;exact aa (bJ (gk rfl rfl rfl))
 .rw[if_neg he]
  have zz:(nr l keep).length=4/\(nr l keep).all D.one=true:=by
   unfold nr;split<;>exact⟨rfl,rfl⟩
  obtain⟨kD,Et⟩:∃ kD,kD=nr l keep:=⟨_,rfl⟩
  rw[<- Et] at rJ zz;generalize jk l keep=err at*
  obtain⟨x1,x2,x3,x4,rfl⟩:∃ a b c d,kD=[a,b,c,d]:=by
   match kD,zz.1 with
   |[a,b,c,d],_=>exact⟨a,b,c,d,rfl⟩
  refine ab ?_;refine cl rJ ?_;refine aZ ?_;refine bM (fk rfl rfl rfl rfl) aK (bU t86 wO ⟨rfl,oS⟩ zz.2) ?_;refine SS ?_;refine aa (aB (aj ?_));refine ab ?_;refine aa (cR rfl (fun h=>aB (aj ?_)) fun h=>absurd (by simpa using h) he);refine ax ?_;exact aa (xD (bJ (bE (gk rfl rfl rfl))))
theorem Ia{c:List ByteArray}:aA prog 21 [bI c] (B (Aq c)):=by
 refine mo UF.he (.cons (fS _) .nil) fun M=>?_;have hlen:=(M (bI c) oS).sl.1;unfold maxLen at hlen;refine bj UF (.cons (fS _) .nil) (Tr.s _) ?_;rw[ajr];refine ws ?_;refine SS ?_;refine aa (aB (aw ?_));refine SS ?_
 refine aa (bY (fun s=>(∃ nx,aI prog s ⟨ay [(0,bI c)],fun _=>none,nx⟩)/\c.all (fun x=>decide (x.size<=130))=true) (kq (α:=Nat) (fun k=>⟨ay [(0,bI c),(3,I k)],fun _=>none,0⟩)
  (fun k=>k<=c.length/\(c.take k).all (fun x=>decide (x.size<=130))=true) (fun k=>c.length - k) 0 (av eH) ⟨oG,rfl⟩ ?_) ?_)
 .rintro k ⟨hk,C⟩;refine aZ ?_;refine aa ⟨_,rfl,fun h=>?_,fun h=>?_⟩
  .have af:k<c.length:=by simpa using h
   obtain⟨x,hx⟩:∃ x,c[k]? =some x:=⟨_,aU af⟩
   refine ws ?_;refine cr ?_;refine aa (aO rfl (fun hp=>aj ?_) fun hp=>cT ?_)
   .have hb:Aq c=false:=by
     unfold Aq
     have:c.all (fun x=>decide (x.size<=130))=false:=by
      rw[Bool.eq_false_iff];intro ht;have:=bS.1 ht x (bD hx);simp at this hp;omega
     rw[this];rfl
    rw[hb];refine SS ?_;exact aa (bJ (cu (bE (aF rfl rfl))))
   .have hb:decide (x.size<=130)=true:=by
     simp at hp ⊢;omega
    show aq _ _ _ _ _ _ _ _ _;refine ax ?_;exact aa (bg (k+1) (av eH) ⟨oG,te hx C hb⟩ oG)
  .have U:¬ k<c.length:=by simpa using h
   rw[df oG] at C;exact⟨⟨0,av eH⟩,C⟩
 .rintro s ⟨⟨nx,hg⟩,C⟩
  have hb:Aq c=(decide (c.length<=12)||(decide (60<c.length)&&decide (c.length<=62))):=by
   unfold Aq;rw[C,Bool.true_and]
  rw[hb];refine⟨_,hg,aj ?_⟩;by_cases J:c.length<=12
  .have yz:decide ((c.length:Int)<=12)=true:=decide_eq_true oG;rw[decide_eq_true J,Bool.true_or]
   (first|refine au (cV (v:=.sl _ _) rfl) aK trivial ?_|refine au (cV (v:=.rs _ _ _) rfl) aK trivial ?_|refine au (cV (v:=.z) rfl) aK trivial ?_)
   (first|refine au (Da rfl) aK ln ?_|refine au (vw rfl rfl) aK ln ?_|refine au (KD rfl) aK ln ?_)
   (first|refine au (Gm rfl rfl yz) aK rfl ?_|refine au (C0 rfl rfl) aK rfl ?_)
   refine au (cV (v:=.s (.bool _)) rfl) aK trivial ?_
   (first|refine bd rfl rfl (cV (v:=.sl _ _) rfl) (fun hc=>⟨(by repeat' (first|exact trivial|exact hc|exact rfl|refine And.intro ?_ ?_)),trivial⟩) ?_|refine bd rfl rfl (cV (v:=.rs _ _ _) rfl) (fun hc=>⟨(by repeat' (first|exact trivial|exact hc|exact rfl|refine And.intro ?_ ?_)),trivial⟩) ?_|refine bd rfl rfl (cV (v:=.z) rfl) (fun hc=>⟨(by repeat' (first|exact trivial|exact hc|exact rfl|refine And.intro ?_ ?_)),trivial⟩) ?_)
   (first|refine bd rfl rfl (Da rfl) (fun hc=>⟨(by repeat' (first|exact trivial|exact hc|exact rfl|refine And.intro ?_ ?_)),ln⟩) ?_|refine bd rfl rfl (vw rfl rfl) (fun hc=>⟨(by repeat' (first|exact trivial|exact hc|exact rfl|refine And.intro ?_ ?_)),ln⟩) ?_|refine bd rfl rfl (KD rfl) (fun hc=>⟨(by repeat' (first|exact trivial|exact hc|exact rfl|refine And.intro ?_ ?_)),ln⟩) ?_)
   (first|refine bd rfl rfl (Ky rfl rfl uo) (fun hc=>⟨(by repeat' (first|exact trivial|exact hc|exact rfl|refine And.intro ?_ ?_)),rfl⟩) ?_|refine bd rfl rfl (GM rfl rfl) (fun hc=>⟨(by repeat' (first|exact trivial|exact hc|exact rfl|refine And.intro ?_ ?_)),rfl⟩) ?_)
   (first|refine bd rfl rfl (cV (v:=.s (.bool _)) rfl) (fun hc=>⟨(by repeat' (first|exact trivial|exact hc|exact rfl|refine And.intro ?_ ?_)),trivial⟩) ?_)
   (first|refine bd rfl rfl (cV (v:=.sl _ _) rfl) (fun hc=>⟨(by repeat' (first|exact trivial|exact hc|exact rfl|refine And.intro ?_ ?_)),trivial⟩) ?_|refine bd rfl rfl (cV (v:=.rs _ _ _) rfl) (fun hc=>⟨(by repeat' (first|exact trivial|exact hc|exact rfl|refine And.intro ?_ ?_)),trivial⟩) ?_|refine bd rfl rfl (cV (v:=.z) rfl) (fun hc=>⟨(by repeat' (first|exact trivial|exact hc|exact rfl|refine And.intro ?_ ?_)),trivial⟩) ?_)
   (first|refine bd rfl rfl (Da rfl) (fun hc=>⟨(by repeat' (first|exact trivial|exact hc|exact rfl|refine And.intro ?_ ?_)),ln⟩) ?_|refine bd rfl rfl (vw rfl rfl) (fun hc=>⟨(by repeat' (first|exact trivial|exact hc|exact rfl|refine And.intro ?_ ?_)),ln⟩) ?_|refine bd rfl rfl (KD rfl) (fun hc=>⟨(by repeat' (first|exact trivial|exact hc|exact rfl|refine And.intro ?_ ?_)),ln⟩) ?_)
   (first|refine bd rfl rfl (Gm rfl rfl yz) (fun hc=>⟨(by repeat' (first|exact trivial|exact hc|exact rfl|refine And.intro ?_ ?_)),rfl⟩) ?_|refine bd rfl rfl (C0 rfl rfl) (fun hc=>⟨(by repeat' (first|exact trivial|exact hc|exact rfl|refine And.intro ?_ ?_)),rfl⟩) ?_)
   (first|refine B8 rfl rfl rfl rfl (by first|exact fun _=>trivial|exact fun _=>rfl|exact fun hc=>hc) (by first|exact fun _=>trivial|exact fun _=>rfl|exact fun hc=>hc) ?_|refine B9 rfl rfl rfl rfl (by first|exact fun _=>trivial|exact fun _=>rfl|exact fun hc=>hc) (by first|exact fun _=>trivial|exact fun _=>rfl|exact fun hc=>hc) ?_|refine Cf rfl rfl rfl rfl rfl (by first|exact fun _=>trivial|exact fun _=>rfl|exact fun hc=>hc) (fun hc h=>by first|exact trivial|exact rfl|exact hc|(show Eq _ _;rw[hc,h];rfl)|(show Eq _ _;rw[h,hc];rfl)|(show Eq _ _;simp[hc,h];done)|(show Eq _ _;simp_all;done)) (fun hc h=>by first|exact trivial|exact rfl|exact hc|(show Eq _ _;rw[hc,h];rfl)|(show Eq _ _;rw[h,hc];rfl)|(show Eq _ _;simp[hc,h];done)|(show Eq _ _;simp_all;done)) ?_)
   (first|refine Ju rfl rfl (by first|exact trivial|exact rfl) ?_|refine Jv rfl rfl (by first|exact trivial|exact rfl) ?_|refine JY rfl rfl rfl (fun h=>by first|exact trivial|exact rfl|exact h|(show Eq _ _;rw[h];rfl)|(show Eq _ _;simp[h];done)|(show Eq _ _;simp_all;done)) (fun h=>by first|exact trivial|exact rfl|exact h|(show Eq _ _;rw[h];rfl)|(show Eq _ _;simp[h];done)|(show Eq _ _;simp_all;done)) ?_)
   refine au (jx (v:=.s (.bool _)) rfl) aK trivial ?_;exact aa (aF rfl rfl)
  .have yz:decide ((c.length:Int)<=12)=false:=decide_eq_false oG;have e2:decide ((60:Int)<c.length)=decide (60<c.length):=decide_eq_decide.2 oG;have e3:decide ((c.length:Int)<=62)=decide (c.length<=62):=decide_eq_decide.2 oG;rw[decide_eq_false J,Bool.false_or, <- e2, <- e3];refine ab ?_;refine au (Gm rfl rfl yz) ak rfl ?_;refine bt ?_;refine ab ?_;refine aa (aF rfl ?_);show B _=B _;congr 1;cases decide ((60:Int)<c.length)<;>rfl
theorem Ic{l:List al}:aA prog 13 [bc l] (B (uz l)):=by
 refine mo UG.he (.cons (gP l) .nil) fun eO=>?_;have hlen:=(eO (bc l) oS).sl.1;unfold maxLen at hlen;refine bj UG (.cons (gP l) .nil) (Tr.s _) ?_;rw[ajs];refine ws ?_;refine SS ?_;refine aa (aB (aw ?_));refine SS ?_
 refine aa (bY (fun s=>(∃ nx,aI prog s ⟨ay [(0,bc l)],fun _=>none,nx⟩)/\l.all wm=true) (kq (α:=Nat×Nat) (fun s=>⟨ay [(0,bc l),(3,I s.1)],fun _=>none,s.2⟩)
  (fun s=>s.1<=l.length/\(l.take s.1).all wm=true) (fun s=>l.length - s.1) (0,0) (av eH) ⟨Nat.zero_le _,rfl⟩ ?_) ?_)
 .rintro⟨t,nx⟩ ⟨ht,J⟩;dsimp only at ht J ⊢;refine aZ ?_;refine aa ⟨_,rfl,fun h=>?_,fun h=>?_⟩
  .have uW:t<l.length:=by simpa using h
   clear h;obtain⟨f,hf⟩:∃ f,l[t]? =some f:=⟨_,aU uW⟩
   have U:wm f=false->uz l=false:=fun hb=>by
    unfold uz;rw[Cu (bD hf) hb];rfl
   refine aw ?_;refine bu ?_;refine bM (fk (cs':=aM f) rfl rfl (ah _ _ _) rfl) aK (bU t48 mg oS rfl) ?_;refine aa (bG (eT (i:=nx) (l:=[(0,bc l),(3,I t),(4,.pt (aM f))]) (ah _ _ _) ⟨rfl,rfl,lR,trivial⟩) (aB (aj ?_)));refine bt ?_;refine bt ?_;refine iu ?_;refine bd rfl rfl (Ko rfl) (fun hc=>⟨ak,V.h⟩) ?_;refine ab ?_;have hd:DK f=_:=(VN (decide (12<(f.blocks.length:Int))) (decide (20<(f.aT.length:Int))) (decide (10<(f.cm.length:Int))) (decide (8<(f.signals.length:Int))) (decide (130<(f.name.size:Int)))).symm;refine aa (cR rfl (fun h=>?_) fun h=>cI (aB (aw ?_)))
   .have hb:DK f=true:=hd.trans h;refine aB (aj ?_);refine SS ?_;refine aa (ed (cu (bE (aF (d:=B false) rfl ?_))));rw[U (by unfold wm;rw[hb];rfl)]
   have hH:DK f=false:=hd.trans h;clear hd h
   have amv:f.blocks.length<=100000/\f.signals.length<=100000:=by
    unfold DK at hH;simp only[Bool.or_eq_false_iff,decide_eq_false_iff_not] at hH;omega
   refine SS ?_
   refine aa (bY (fun s=>aI prog s ⟨ay [(0,bc l),(3,I t),(4,.pt (aM f))],fun _=>none,nx+1⟩/\f.signals.all (fun s=> !Bc s)=true) (kq (α:=Nat) (fun k=>⟨ay [(0,bc l),(3,I t),(4,.pt (aM f)),(5,I k)],fun _=>none,nx+1⟩)
    (fun k=>k<=f.signals.length/\(f.signals.take k).all (fun s=> !Bc s)=true) (fun k=>f.signals.length - k) 0 (av eH) ⟨Nat.zero_le _,rfl⟩ ?_) ?_)
   .rintro k ⟨hk,hinv⟩;refine bu ?_;refine aa ⟨_,rfl,fun h=>?_,fun h=>?_⟩
    .have af:k<f.signals.length:=by simpa using h
     obtain⟨x,hx⟩:∃ x,f.signals[k]? =some x:=⟨_,aU af⟩
     refine ws ?_;refine iu ?_;refine aa (aO rfl (fun hp=>aj ?_) fun hp=>cT ?_)
     .have hp:Bc x=true:=hp;refine SS ?_;refine aa (bJ (cu (bE (cu (bE (aF (d:=B false) rfl ?_))))));rw[U (by unfold wm;rw[Cu (p:=fun s=> !Bc s) (bD hx) (by rw[hp];rfl)];simp)]
     .have hp:Bc x=false:=hp;show aq _ _ _ _ _ _ _ _ _;refine ax ?_;exact aa (bg (k+1) (av eH) ⟨oG,te hx hinv (by rw[hp];rfl)⟩ oG)
    .have M:¬ k<f.signals.length:=by simpa using h
     rw[df oG] at hinv;exact⟨av eH,hinv⟩
   rintro s ⟨hg,ajt⟩;refine⟨_,hg,aw ?_⟩;refine SS ?_
   refine aa (kq (α:=Nat×Nat) (fun s=>⟨ay [(0,bc l),(3,I t),(4,.pt (aM f)),(6,I s.1)],fun _=>none,s.2⟩)
    (fun s=>s.1<=f.blocks.length/\(f.blocks.take s.1).all yD=true) (fun s=>f.blocks.length - s.1) (0,nx+1) (av eH) ⟨Nat.zero_le _,rfl⟩ ?_)
   rintro⟨k,ny⟩ ⟨hk,hinv⟩;dsimp only at hk hinv ⊢;refine bu ?_;refine aa ⟨_,rfl,fun h=>?_,fun h=>?_⟩
   .have af:k<f.blocks.length:=by simpa using h
    clear h;obtain⟨x,hx⟩:∃ x,f.blocks[k]? =some x:=⟨_,aU af⟩
    have X:yD x=false->uz l=false:=fun hb=>U (by unfold wm;rw[Cu (bD hx) hb];simp);refine aw ?_;refine iu ?_;refine aa (bG (eT (i:=ny) (l:=[(0,bc l),(3,I t),(4,.pt (aM f)),(6,I k),(7,.pt (bH x))]) (ah _ _ _) ⟨rfl,rfl,rfl,rfl,lR,trivial⟩) (aB (aj ?_)));refine bt ?_;refine bt ?_;refine aZ ?_;refine bd rfl rfl (Ko rfl) (fun hc=>⟨ak,V.h⟩) ?_;refine dG ?_;refine ab ?_;have hd:DL x=_:=(VN (decide (8<(x.ins.length:Int))) (decide (8<(x.fin.aR.length:Int))) (decide (8<(x.fin.args.length:Int))) (decide (130<(x.fin.name.size:Int))) (decide (8<(x.fin.ins.args.length:Int)))).symm;refine aa (cR rfl (fun h=>?_) fun h=>cI (aB (aw ?_)))
    .have hb:DL x=true:=hd.trans h;refine aB (aj ?_);refine SS ?_;refine aa (ed (cu (cu (bE (aF (d:=B false) rfl ?_)))));rw[X (by unfold yD;rw[hb];rfl)]
    have hK:DL x=false:=hd.trans h;clear hd h
    have eR:x.ins.length<=100000/\x.fin.aR.length<=100000:=by
     unfold DL at hK;simp only[Bool.or_eq_false_iff,decide_eq_false_iff_not] at hK;omega
    refine SS ?_
    refine aa (bY (fun s=>aI prog s ⟨ay [(0,bc l),(3,I t),(4,.pt (aM f)),(6,I k),(7,.pt (bH x))],fun _=>none,ny+1⟩/\x.ins.all (fun y=> !Bb y)=true) (kq (α:=Nat) (fun j=>⟨ay [(0,bc l),(3,I t),(4,.pt (aM f)),(6,I k),(7,.pt (bH x)),(8,I j)],fun _=>none,ny+1⟩)
     (fun j=>j<=x.ins.length/\(x.ins.take j).all (fun y=> !Bb y)=true) (fun j=>x.ins.length - j) 0 (av eH) ⟨Nat.zero_le _,rfl⟩ ?_) ?_)
    .rintro j ⟨hj,C⟩;refine bu ?_;refine aa ⟨_,rfl,fun h=>?_,fun h=>?_⟩
     .have dq:j<x.ins.length:=by simpa using h
      obtain⟨y,hy⟩:∃ y,x.ins[j]? =some y:=⟨_,aU dq⟩
      refine ws ?_;refine dG ?_;refine aa (aO rfl (fun hp=>aj ?_) fun hp=>cT ?_)
      .have hp:Bb y=true:=hp;refine SS ?_;refine aa (bJ (cu (bE (cu (cu (bE (aF (d:=B false) rfl ?_)))))));rw[X (by unfold yD;rw[Cu (p:=fun y=> !Bb y) (bD hy) (by rw[hp];rfl)];simp)]
      .have hp:Bb y=false:=hp;show aq _ _ _ _ _ _ _ _ _;refine ax ?_;exact aa (bg (j+1) (av eH) ⟨oG,te hy C (by rw[hp];rfl)⟩ oG)
     .have M:¬ j<x.ins.length:=by simpa using h
      rw[df oG] at C;exact⟨av eH,C⟩
    rintro s ⟨hg,Hs⟩;refine⟨_,hg,aw ?_⟩;refine SS ?_
    refine aa (kq (α:=Nat) (fun j=>⟨ay [(0,bc l),(3,I t),(4,.pt (aM f)),(6,I k),(7,.pt (bH x)),(9,I j)],fun _=>none,ny+1⟩)
     (fun j=>j<=x.fin.aR.length/\(x.fin.aR.take j).all (fun y=> !DM y)=true) (fun j=>x.fin.aR.length - j) 0 (av eH) ⟨Nat.zero_le _,rfl⟩ ?_)
    rintro j ⟨hj,C⟩;refine cr ?_;refine aa ⟨_,rfl,fun h=>?_,fun h=>?_⟩
    .have dq:j<x.fin.aR.length:=by simpa using h
     obtain⟨y,hy⟩:∃ y,x.fin.aR[j]? =some y:=⟨_,aU dq⟩
     refine ws ?_;refine bt ?_;refine aa (aO rfl (fun hp=>aj ?_) fun hp=>cT ?_)
     .have hp:DM y=true:=hp;refine SS ?_;refine aa (bJ (cu (cu (cu (bE (aF (d:=B false) rfl ?_))))));rw[X (by unfold yD;rw[Cu (p:=fun w=> !DM w) (bD hy) (by rw[hp];rfl)];simp)]
     .have hp:DM y=false:=hp;show aq _ _ _ _ _ _ _ _ _;refine ax ?_;exact aa (bg (j+1) (av eH) ⟨oG,te hy C (by rw[hp];rfl)⟩ oG)
    .have M:¬ j<x.fin.aR.length:=by simpa using h
     rw[df oG] at C;show aq _ _ _ _ _ _ _ _ _;refine ax ?_;refine aa (bg (k+1,ny+1) (av eH) ⟨oM,te hx hinv ?_⟩ oM);unfold yD;rw[hK,Hs,C];rfl
   .have M:¬ k<f.blocks.length:=by simpa using h
    rw[df oG] at hinv;show aq _ _ _ _ _ _ _ _ _;refine ax ?_;refine aa (bg (t+1,ny) (av eH) ⟨oM,te hf J ?_⟩ oM);unfold wm;rw[hH,ajt,hinv];rfl
  .have M:¬ t<l.length:=by simpa using h
   rw[df oG] at J;exact⟨⟨nx,av eH⟩,J⟩
 .rintro s ⟨⟨nx,hg⟩,J⟩
  have hb:uz l=(decide ((l.length:Int)<=10)||(decide (60<(l.length:Int))&&decide ((l.length:Int)<=63))):=by
   unfold uz;rw[J,Bool.true_and]
  rw[hb];refine⟨_,hg,aj ?_⟩;refine bt ?_;refine bu ?_;refine aa (aF rfl ?_);show B _=B _;congr 1;cases decide ((l.length:Int)<=10)<;>cases decide ((60:Int)<l.length)<;>rfl
theorem NC{a b:List Int}:aA prog 72 [aP a,aP b] (B (decide (a=b))):=by
 have J:∀ x∈[aP a,aP b],Tr x:=.cons (du _) (.cons (du _) .nil);refine mo UH.he J fun M=>?_;have hlen:=(M (aP a) oS).sl.1;unfold maxLen at hlen;refine bj UH J (Tr.s _) ?_;rw[aju];refine ws ?_;refine SS ?_;refine aa (aB (aj ?_));refine bu ?_;refine aa (cR rfl (fun h=>?_) fun h=>cI (aB (aw ?_)))
 .refine aB (aj ?_);refine SS ?_;refine aa (ed (aF (d:=B false) rfl ?_));have C:a≠b:=fun e=>by subst e;simp at h
  rw[decide_eq_false C]
 have ma:a.length=b.length:=by
  have:¬ ((a.length:Int)≠(b.length:Int)):=by simpa using h
  omega
 clear h;refine SS ?_
 refine aa (bY (fun s=>aI prog s ⟨ay [],fun _=>none,0⟩/\a=b) (kq (α:=Nat) (fun k=>⟨ay [(0,aP a),(1,aP b),(5,I k)],fun _=>none,0⟩)
  (fun k=>k<=a.length/\∀ j,j<k->a[j]? =b[j]?) (fun k=>a.length - k) 0 (av eH) ⟨oG,fun j hj=>by omega⟩ ?_) ?_)
 .rintro k ⟨hk,hinv⟩;refine aZ ?_;refine aa ⟨_,rfl,fun h=>?_,fun h=>?_⟩
  .have af:k<a.length:=by simpa using h
   have hx:a[k]? =some a[k]:=aU af;have hy:b[k]? =some b[k]:=aU oG;generalize a[k]=x at hx;generalize b[k]=y at hy;refine ep abd ?_;refine bt ?_;refine ct cG (aO rfl (fun hp=>?_) fun hp=>?_)
   .refine ws ?_;refine SS ?_;refine aa (bJ (cu (bE (aF (d:=B false) rfl ?_))))
    have C:a≠b:=fun e=>by
     subst e;rw[hx] at hy;cases hy;simp at hp
    rw[decide_eq_false C]
   .refine cT ?_;refine ax ?_;refine aa (bg (k+1) (av eH) ⟨oG,fun j hj=>?_⟩ oG);by_cases e:j=k
    .subst e;rw[hx,hy];congr 1;simpa using hp
    .exact hinv j oG
  .have X:¬ k<a.length:=by simpa using h
   refine⟨fO (l:=[]) trivial,List.ext_getElem? fun j=>?_⟩;by_cases hj:j<k
   .exact hinv j hj
   .rw[List.getElem?_eq_none oG,List.getElem?_eq_none oG]
 .rintro s ⟨hg,U⟩;refine⟨_,hg,aj ?_⟩;refine SS ?_;refine aa (aF (d:=B true) rfl ?_);rw[decide_eq_true U]
theorem BL{a b:List Int}:aA prog 39 [aP a,aP b] (B (decide (a=b))):=by
 have C:∀ x∈[aP a,aP b],Tr x:=.cons (du _) (.cons (du _) .nil);have NC:=NC (a:=a) (b:=b);refine bj ajv C (Tr.s _) ?_;rw[ajw];refine ws ?_;refine SS ?_;refine er ?_;refine ab ?_;refine cl NC ?_;refine SS ?_;exact aa (aF rfl rfl)
theorem Ev{a b:List (List Int)}:aA prog 20 [cg a,cg b] (B (decide (a=b))):=by
 have J:∀ x∈[cg a,cg b],Tr x:=.cons (tz _) (.cons (tz _) .nil);refine mo UI.he J fun M=>?_;have hlen:=(M (cg a) oS).sl.1;unfold maxLen at hlen;refine bj UI J (Tr.s _) ?_;rw[ajx];refine ws ?_;refine SS ?_;refine aa (aB (aj ?_));refine bu ?_;refine aa (cR rfl (fun h=>?_) fun h=>cI (aB (aw ?_)))
 .refine aB (aj ?_);refine SS ?_;refine aa (ed (aF (d:=B false) rfl ?_));have C:a≠b:=fun e=>by subst e;simp at h
  rw[decide_eq_false C]
 have ma:a.length=b.length:=by
  have:¬ ((a.length:Int)≠(b.length:Int)):=by simpa using h
  omega
 clear h;refine SS ?_
 refine aa (bY (fun s=>aI prog s ⟨ay [],fun _=>none,0⟩/\a=b) (kq (α:=Nat) (fun k=>⟨ay [(0,cg a),(1,cg b),(5,I k)],fun _=>none,0⟩)
  (fun k=>k<=a.length/\∀ j,j<k->a[j]? =b[j]?) (fun k=>a.length - k) 0 (av eH) ⟨oG,fun j hj=>by omega⟩ ?_) ?_)
 .rintro k ⟨hk,hinv⟩;refine aZ ?_;refine aa ⟨_,rfl,fun h=>?_,fun h=>?_⟩
  .have af:k<a.length:=by simpa using h
   have hx:a[k]? =some a[k]:=aU af;have hy:b[k]? =some b[k]:=aU oG;generalize a[k]=x at hx;generalize b[k]=y at hy;have BL:=BL (a:=x) (b:=y);refine ep abe ?_;refine dG ?_;refine cl BL ?_;refine SS ?_;refine ct cG (aO rfl (fun hp=>?_) fun hp=>?_)
   .refine ws ?_;refine SS ?_;refine aa (bJ (cu (bE (aF (d:=B false) rfl ?_))))
    have C:a≠b:=fun e=>by
     subst e;rw[hx] at hy;cases hy;simp at hp
    rw[decide_eq_false C]
   .refine cT ?_;refine ax ?_;refine aa (bg (k+1) (av eH) ⟨oG,fun j hj=>?_⟩ oG);by_cases e:j=k
    .subst e;rw[hx,hy];congr 1;simpa using hp
    .exact hinv j oG
  .have X:¬ k<a.length:=by simpa using h
   refine⟨fO (l:=[]) trivial,List.ext_getElem? fun j=>?_⟩;by_cases hj:j<k
   .exact hinv j hj
   .rw[List.getElem?_eq_none oG,List.getElem?_eq_none oG]
 .rintro s ⟨hg,U⟩;refine⟨_,hg,aj ?_⟩;refine SS ?_;refine aa (aF (d:=B true) rfl ?_);rw[decide_eq_true U]
theorem UJ{l:List (List Int)}:aA prog 20 [cg l,cg l] (B true):=by
 have:=Ev (a:=l) (b:=l)
 rwa[decide_eq_true rfl] at this
theorem ND{a b:List ByteArray}:aA prog 27 [bI a,bI b] (B (decide (a=b))):=by
 have J:∀ x∈[bI a,bI b],Tr x:=.cons (fS _) (.cons (fS _) .nil);refine mo UK.he J fun M=>?_;have hlen:=(M (bI a) oS).sl.1;unfold maxLen at hlen;refine bj UK J (Tr.s _) ?_;rw[ajy];refine ws ?_;refine SS ?_;refine aa (aB (aj ?_));refine bu ?_;refine aa (cR rfl (fun h=>?_) fun h=>cI (aB (aw ?_)))
 .refine aB (aj ?_);refine SS ?_;refine aa (ed (aF (d:=B false) rfl ?_));have C:a≠b:=fun e=>by subst e;simp at h
  rw[decide_eq_false C]
 have ma:a.length=b.length:=by
  have:¬ ((a.length:Int)≠(b.length:Int)):=by simpa using h
  omega
 clear h;refine SS ?_
 refine aa (bY (fun s=>aI prog s ⟨ay [],fun _=>none,0⟩/\a=b) (kq (α:=Nat) (fun k=>⟨ay [(0,bI a),(1,bI b),(5,I k)],fun _=>none,0⟩)
  (fun k=>k<=a.length/\∀ j,j<k->a[j]? =b[j]?) (fun k=>a.length - k) 0 (av eH) ⟨oG,fun j hj=>by omega⟩ ?_) ?_)
 .rintro k ⟨hk,hinv⟩;refine aZ ?_;refine aa ⟨_,rfl,fun h=>?_,fun h=>?_⟩
  .have af:k<a.length:=by simpa using h
   have hx:a[k]? =some a[k]:=aU af;have hy:b[k]? =some b[k]:=aU oG;generalize a[k]=x at hx;generalize b[k]=y at hy;refine ep abf ?_;refine bt ?_;refine ct cG (aO rfl (fun hp=>?_) fun hp=>?_)
   .refine ws ?_;refine SS ?_;refine aa (bJ (cu (bE (aF (d:=B false) rfl ?_))))
    have C:a≠b:=fun e=>by
     subst e;rw[hx] at hy;cases hy;have hp:(!(x.toList==x.toList))=true:=hp;simp at hp
    rw[decide_eq_false C]
   .refine cT ?_;refine ax ?_;refine aa (bg (k+1) (av eH) ⟨oG,fun j hj=>?_⟩ oG);by_cases e:j=k
    .subst e;rw[hx,hy];congr 1;exact acD hp
    .exact hinv j oG
  .have X:¬ k<a.length:=by simpa using h
   refine⟨fO (l:=[]) trivial,List.ext_getElem? fun j=>?_⟩;by_cases hj:j<k
   .exact hinv j hj
   .rw[List.getElem?_eq_none oG,List.getElem?_eq_none oG]
 .rintro s ⟨hg,U⟩;refine⟨_,hg,aj ?_⟩;refine SS ?_;refine aa (aF (d:=B true) rfl ?_);rw[decide_eq_true U]
theorem BN{b:bx}:aA prog 85 [.agg (bw b.fin)] (B (eC b)):=by
 refine bj ajJ (.cons (.agg (pB b.fin)) .nil) (Tr.s _) ?_;rw[ajK];refine aw ?_;refine ab ?_;refine aa (bG (dB [(0,bw b.fin,57)] eH (l:=[(1,.pt (bw b.fin))]) eH) (aj ?_));refine bt ?_;refine aa (aF rfl ?_);show B _=B _;congr 1;unfold eC;by_cases h:b.fin.kind=6<;>by_cases C:b.fin.kind=7<;>simp[h,C]
theorem Ie{l:List al}{s:ByteArray}:aA prog 54 [bc l,S s] (I (named l s)):=by
 unfold named;refine mo UL.he (.cons (gP l) (.cons (.s _) .nil)) fun J=>?_;have hlen:=(J (bc l) oS).sl.1;unfold maxLen at hlen;refine bj UL (.cons (gP l) (.cons (.s _) .nil)) (Tr.s _) ?_;rw[ajL];refine ws ?_;refine SS ?_;refine aa (aB (aw ?_));refine SS ?_
 refine aa (bY (fun st=>(∃ nx,aI prog st ⟨ay [],fun _=>none,nx⟩)/\∀ (j:Nat) g,l[j]? =some g->(g.name.toList==s.toList)=false) (kq (α:=Nat) (fun k=>⟨ay [(0,bc l),(1,S s),(5,I k)],fun _=>none,0⟩)
  (fun k=>k<=l.length/\∀ j g,j<k->l[j]? =some g->(g.name.toList==s.toList)=false) (fun k=>l.length - k) 0 (av eH) ⟨oG,fun j g hj=>by omega⟩ ?_) ?_)
 .rintro k ⟨hk,C⟩;refine aZ ?_;refine aa ⟨_,rfl,fun h=>?_,fun h=>?_⟩
  .have af:k<l.length:=by simpa using h
   obtain⟨x,hx⟩:∃ x,l[k]? =some x:=⟨_,aU af⟩
   refine ws ?_;refine iu ?_;refine aa (aO rfl (fun hp=>aj ?_) fun hp=>cT ?_)
   .refine ab ?_;refine aa (bJ (cu (bE (aF rfl ?_))));rw[tu hx hp C];rfl
   .show aq _ _ _ _ _ _ _ _ _;refine ax ?_;refine aa (bg (k+1) (av eH) ⟨oG,fun j g hj hg=>?_⟩ oG);by_cases e:j=k
    .subst e;rw[hx] at hg;cases hg;exact hp
    .exact C j g oG hg
  .have M:¬ k<l.length:=by simpa using h
   exact⟨⟨0,av trivial⟩,fun j g hg=>C j g (by have:=(bK.1 hg).1;omega) hg⟩
 .rintro st ⟨⟨nx,hg⟩,C⟩;refine⟨_,hg,aj ?_⟩;refine SS ?_;refine aa (aF rfl ?_);rw[w9 C];rfl
theorem NG{f:al}(M:f.blocks.length<=1000000):aA prog 53 [.agg (aM f)] (bI (bV f.blocks)):=by
 refine bj ajM (.cons (.agg (kQ f)) .nil) (fS _) ?_;rw[ajN];refine aw ?_;refine ab ?_;refine aa (bG (dB [(0,aM f,48)] eH (l:=[(1,.pt (aM f))]) eH) (aw ?_));refine SS ?_;refine aa ⟨_,.o0 _ _ _ 3 9 rfl,aB (aw ?_)⟩;refine SS ?_
 refine aa (bY (fun s=>∃ r nx,aI prog s ⟨ay [(3,.rs r 0 (bV f.blocks).length)],a7 [(r,.cells ((bV f.blocks).map S) 9)],nx⟩) (kq (α:=Nat×Nat×Nat)
  (fun s=>⟨ay [(1,.pt (aM f)),(3,.rs s.2.1 0 (bV (f.blocks.take s.1)).length),(4,I s.1)],a7 [(s.2.1,.cells ((bV (f.blocks.take s.1)).map S) 9)],s.2.2⟩)
  (fun s=>s.1<=f.blocks.length/\s.2.1<s.2.2) (fun s=>f.blocks.length - s.1) (0,1,2)
  (bQ eH eH) ⟨Nat.zero_le _,oC⟩ ?_) ?_)
 .rintro⟨k,r,nx⟩ ⟨hk,hr⟩;dsimp only at hk hr ⊢;refine bu ?_;refine aa ⟨_,rfl,fun h=>?_,fun h=>?_⟩
  .have af:k<f.blocks.length:=by simpa using h
   clear h;obtain⟨b,hb⟩:∃ b,f.blocks[k]? =some b:=⟨_,aU af⟩
   have C:bV (f.blocks.take (k+1))=bV (f.blocks.take k)++if eC b then [b.fin.name] else []:=by
    rw[List.take_add_one,hb, <- Iq];rfl
   have U:(bV (f.blocks.take k)).length<=1000000:=by
    have:=tk (f.blocks.take k);have:(f.blocks.take k).length<=f.blocks.length:=List.length_take_le' _ _;omega
   generalize bV (f.blocks.take k)=cs at*
   have ap:a7 [(r,Row.cells (cs.map S) 9)] r=some (.cells (cs.map S) 9):=by simp[a7]
   have BN:=BN (b:=b);generalize eC b=ic at*
   refine ws ?_;refine cr ?_;refine cl BN ?_;refine aa (aO rfl (fun hp=>?_) fun hp=>?_)
   .have hp:ic=true:=hp;subst hp;rw[if_pos rfl] at C;refine jP ?_;refine bt ?_;refine ab ?_;refine aa ?_;show aq _ _ _ _ _ _ _ _ _;refine ax ?_;refine aa (bg (k+1,nx+1,nx+1+1) ?_ ⟨oM,?_⟩ oM)
    .dsimp only;rw[C];refine bQ ⟨rfl,?_,rfl,trivial⟩ ⟨(ah _ _ _).trans (by simp;rfl),trivial⟩;rw[List.length_append];rfl
    .dsimp only;omega
   .have hp:ic=false:=hp;subst hp;rw[if_neg oS,List.append_nil] at C;refine cT ?_;show aq _ _ _ _ _ _ _ _ _;refine ax ?_;refine aa (bg (k+1,r,nx) ?_ ⟨oM,?_⟩ oM)
    .dsimp only;rw[C];exact av eH
    .dsimp only;omega
  .have J:¬ k<f.blocks.length:=by simpa using h
   have:k=f.blocks.length:=by omega
   subst this;rw[List.take_length];exact⟨r,nx,av eH⟩
 .rintro s ⟨r,nx,hg⟩;refine⟨_,hg,aw ?_⟩;refine ab ?_;refine aa (bG (eT (i:=r) (cs:=(bV f.blocks).map S) (e:=9) (by simp[a7]) (l:=[(2,bI (bV f.blocks))]) ⟨?_,trivial⟩) (aF rfl rfl));exact(iJ (by rw[c9];simp)).trans oS
theorem NH{f:al}{name:ByteArray}{to:ByteArray->ByteArray}{J:List ByteArray}(Np:J=(bV f.blocks).map to)(c8:f.blocks.length<=1000000):
 aA prog 61 [.agg (aM f),S name,bI J] (.agg (aM (fm f name to))):=by
 refine bj ajO (.cons (.agg (kQ f)) (.cons (.s _) (.cons (fS _) .nil))) (.agg (kQ _)) ?_;rw[ajP];refine aw ?_;refine ab ?_;refine aa ⟨_,.refl _,aw ?_⟩;refine ax ?_;refine aa ⟨_,.refl _,aw ?_⟩;have lv:(f.blocks.flatMap bH).length=f.blocks.length*16:=tg BS _;have hD:(f.blocks.flatMap bH).take (f.blocks.length*16)=f.blocks.flatMap bH:=df oG;refine ax ?_;refine iC (iw rfl rfl rfl V.h V.h (px hD) rfl) ak ⟨V.h,rfl,(by first|omega|exact bC rfl|(simp;done)|(simp;omega)),oC,(by first|rfl|(simp;done)|(simp;omega)),(by unfold maxLen;first|omega|(simp;omega)),(by rw[HT];first|omega|(simp;omega)),(by first|(simp;done)|(simp;omega))⟩ ?_;refine SS ?_;refine bM (eg (d:=.rs _ _ _) (cs':=_) rfl rfl rfl rfl rfl) ak (bU V.h V.h (by first|(simp;done)|exact⟨rfl,bC rfl⟩|(simp;omega)) rfl) ?_;obtain⟨hd,U⟩:∃ hd,hd=headD (fm f name to) (.rs 3 0 f.blocks.length):=⟨_,rfl⟩
 refine aa ⟨_,bQ (l:=[(2,bI J),(3,.rp 0 0),(6,.rp 1 0)]) (ml:=[(0,.cells hd 48),(1,.cells gW 48),(3,.cells ((iz f.blocks to 0).flatMap bH) 59)]) eH ⟨?_,rfl,?_,trivial⟩,aj ?_⟩
 .rw[U,Nat.zero_add f.blocks.length];rfl
 .rw[Yg];rfl
 refine SS ?_;refine aa (aB (aw ?_));refine SS ?_;have kd:hd.drop (0+7)=.rs 3 0 f.blocks.length::[]:=by rw[U];rfl
 refine aa (bY (fun s=>aI prog s ⟨ay [(3,.rp 0 0),(6,.rp 1 0)],a7 [(0,.cells hd 48),(1,.cells gW 48),(3,.cells ((iz f.blocks to f.blocks.length).flatMap bH) 59)],4⟩) (kq (α:=Nat)
  (fun k=>⟨ay [(2,bI J),(3,.rp 0 0),(6,.rp 1 0),(7,I (bV (f.blocks.take k)).length),(8,I k)],a7 [(0,.cells hd 48),(1,.cells gW 48),(3,.cells ((iz f.blocks to k).flatMap bH) 59)],4⟩)
  (fun k=>k<=f.blocks.length) (fun k=>f.blocks.length - k) 0 (bQ eH eH) (Nat.zero_le _) ?_) ?_)
 .rintro k hk;refine ax ?_;refine au (vw rfl rfl) ak V.h ?_;refine SS ?_;refine aa ⟨_,rfl,fun h=>?_,fun h=>?_⟩
  .have af:k<f.blocks.length:=by simpa using h
   clear h;obtain⟨b,hb⟩:∃ b,f.blocks[k]? =some b:=⟨_,aU af⟩
   have C:bV (f.blocks.take (k+1))=bV (f.blocks.take k)++if eC b then [b.fin.name] else []:=by
    rw[List.take_add_one,hb, <- Iq];rfl
   have pq:(bV (f.blocks.take k)).length<=1000000:=by
    have:=tk (f.blocks.take k);have:(f.blocks.take k).length<=f.blocks.length:=List.length_take_le' _ _;omega
   have bp:bV f.blocks=bV (f.blocks.take k)++((if eC b then [b.fin.name] else [])++bV (f.blocks.drop (k+1))):=by
    rw[<- List.append_assoc, <- C];unfold bV;rw[<- List.map_append, <- List.filter_append,List.take_append_drop]
   have X:eC b=true->J[(bV (f.blocks.take k)).length]? =some (to b.fin.name):=fun hc=>by
    rw[Np,List.getElem?_map,bp,hc,List.getElem?_append_right (a8 _),Nat.sub_self];rfl
   have HC:=IQ (f:=bH) BS (I6 (to:=to) hb);have hlen:((iz f.blocks to k).flatMap bH).length=f.blocks.length*16:=by rw[tg BS,ZH]
   have M:(((iz f.blocks to k).flatMap bH).drop (k*16+1)).take 15=bw b.fin:=by
    rw[<- List.drop_drop,HC];show(bw b.fin++_).take 15=_;rw[List.take_left' (Yh _)]
   have Mb:eC b=true->((iz f.blocks to k).flatMap bH).set (k*16+1+5) (S (to b.fin.name))=(iz f.blocks to (k+1)).flatMap bH:=fun hc=>by
    rw[Pm hb];exact QU (j:=6) BS (I6 hb) oC (by unfold cK;rw[if_pos hc];rfl)
   have js:eC b=false->(iz f.blocks to (k+1)).flatMap bH=(iz f.blocks to k).flatMap bH:=fun hc=>by rw[abn hb hc]
   have BN:=BN (b:=b);generalize (iz f.blocks to k).flatMap bH=cs at*
   generalize bV (f.blocks.take k)=clq at*
   generalize Nc:eC b=ic at*
   refine ws ?_;refine bu ?_;refine au (eL (vs:=bw b.fin) rfl rfl VP NI M) aK (eM t57 NI oG) ?_;refine cl BN ?_;refine aa (aO rfl (fun hp=>?_) fun hp=>?_)
   .have hp:ic=true:=hp;subst hp;rw[if_pos rfl] at C;have hg:=X rfl;have hs:=Mb rfl;refine ep abo ?_;refine dG ?_;refine ab ?_;refine bM (eg (d:=.s (.string _)) (cs':=(iz f.blocks to (k+1)).flatMap bH) rfl rfl rfl rfl hs) aK (bU t9 c9 ⟨rfl,oG⟩ rfl) ?_;refine ct cG (jP ?_);refine ax ?_;refine aa ?_;show aq _ _ _ _ _ _ _ _ _;refine ax ?_;refine aa (bg (k+1) (bQ ⟨rfl,rfl,rfl,?_,rfl,trivial⟩ eH) oG oG);rw[C,List.length_append];rfl
   .have hp:ic=false:=hp;subst hp;rw[if_neg oS,List.append_nil] at C;have hn:=js rfl;refine cT ?_;show aq _ _ _ _ _ _ _ _ _;refine ax ?_;refine aa (bg (k+1) (bQ ⟨rfl,rfl,rfl,?_,rfl,trivial⟩ ⟨rfl,rfl,?_,trivial⟩) oG oG)
    .rw[C];rfl
    .rw[hn];rfl
  .have bl:¬ k<f.blocks.length:=by simpa using h
   have:k=f.blocks.length:=by omega
   subst this;exact bQ eH eH
 .rintro s hg;rw[ZI] at hg;have hlen:((f.blocks.map (cK to)).flatMap bH).length=f.blocks.length*16:=by rw[tg BS,List.length_map]
  refine⟨_,hg.trans (oR (i:=3) (cs:=(f.blocks.map (cK to)).flatMap bH) (e:=59) rfl (l:=[(3,.rp 0 0),(6,.rp 1 0)]) eH (ml:=[(0,.cells (aM (fm f name to)) 48),(1,.cells gW 48)]) ⟨?_,rfl,trivial⟩),aj ?_⟩
  .show some (Row.cells (hd.map _) 48)=_;rw[U];refine congrArg (fun x=>some (Row.cells (headD (fm f name to) x) 48)) ?_;refine yh.trans ?_;rw[List.drop_zero,Eh,df oG];show D.sl _ f.blocks.length=.sl _ (f.blocks.map (cK to)).length;rw[List.length_map];rfl
  refine au (eL (vs:=aM _) rfl rfl V.h V.h rfl) ak (eM V.h V.h (by first|(simp;done)|omega|exact bC rfl)) ?_;refine SS ?_;exact aa (qT (gy rfl rfl wJ mg rfl t48 (a8 8)) rfl)
theorem NJ{l:List al}{to:List ByteArray}(J:lM l)(gh:to.length=l.length):aA prog 29 [bc l,bI to] (bc (ia l to)):=by
 refine bj ajQ (.cons (gP l) (.cons (fS to) .nil)) (gP _) ?_;rw[ajR];have amS:=J.len;refine ws ?_;refine SS ?_;refine aa (aw ?_);refine SS ?_;refine aa ⟨_,.o0 _ _ _ 5 48 rfl,aB (aw ?_)⟩;refine SS ?_
 refine aa (bY (fun s=>∃ r nx,aI prog s ⟨ay [(5,.rs r 0 l.length)],a7 [(r,.cells ((ia l to).flatMap aM) 48)],nx⟩) (kq (α:=Nat×Nat×Nat)
  (fun s=>⟨ay [(0,bc l),(1,bI to),(5,.rs s.2.1 0 s.1),(6,I s.1)],a7 [(s.2.1,.cells ((sP l to s.1).flatMap aM) 48)],s.2.2⟩)
  (fun s=>s.1<=l.length/\s.2.1<s.2.2) (fun s=>l.length - s.1) (0,0,1)
  (bQ eH eH) ⟨Nat.zero_le _,oC⟩ ?_) ?_)
 .rintro⟨i,C,nx⟩ ⟨hi,qg⟩;dsimp only at hi qg ⊢;refine aZ ?_;refine aa ⟨_,rfl,fun h=>?_,fun h=>?_⟩
  .have af:i<l.length:=by simpa using h
   clear h;obtain⟨f,hf⟩:∃ f,l[i]? =some f:=⟨_,aU af⟩
   have ql:=bD hf;have hb:=tH (Go.Argus.checked (J.rH f ql));have amT:=hb.j4;have hrs:=ZK (to:=to) hf;have uW:=QV (to:=to) hi;obtain⟨NK,ajS⟩:∃ nm,to[i]? =some nm:=⟨_,aU oG⟩
   have lv:((sP l to i).flatMap aM).length=i*8:=by rw[tg OK,uW]
   generalize sP l to i=rs at*
   have NG:=NG (f:=f) oG;have dz:=tk f.blocks
   have io:∀ s∈bV f.blocks,named l s=(fA l s:Nat)/\∃ v,to[fA l s]? =some v/\v=to.getD (fA l s) nB:=fun s hs=>by
    have hm:=J.known ql hs;have ajT:=KF hm;refine⟨abq J.nodup hm,to[fA l s]'oG,aU oG,?_⟩;rw[dx,aU oG];rfl
   have UM:aA prog 61 [.agg (aM f),S NK,bI ((bV f.blocks).map fun s=>to.getD (fA l s) nB)] (.agg (aM (yE l to i f))):=by
    have:=NH (f:=f) (name:=NK) (to:=fun s=>to.getD (fA l s) nB) rfl oG;unfold yE
    rwa[show to.getD i nB=NK from rU ajS]
   generalize yE l to i f=rf at*
   generalize y8:bV f.blocks=cs at*
   refine ws ?_;refine SS ?_;refine aa (aw ?_);refine aZ ?_;refine cl NG ?_;refine SS ?_;refine aa ⟨_,.o0 _ _ _ 7 9 rfl,aB (aw ?_)⟩;refine SS ?_;have M:a7 [(C,Row.cells (rs.flatMap aM) 48)] C=some (.cells (rs.flatMap aM) 48):=by simp[a7]
   have dd:∀ X:Nat->Prop,kY X (.cells (rs.flatMap aM) 48):=fun X=>zK Pk rs;obtain⟨g,NL⟩:∃ g:ByteArray->ByteArray,g=fun s=>to.getD (fA l s) nB:=⟨_,rfl⟩
   have io:∀ s∈cs,named l s=(fA l s:Nat)/\to[fA l s]? =some (g s):=fun s hs=>by
    obtain⟨h1,v,h2,h3⟩:=io s hs;rw[NL];exact⟨h1,h2.trans (congrArg some h3)⟩
   rw[<- NL] at UM;clear NL
   refine aa (bY (fun s=>∃ ny,C<ny/\aI prog s ⟨ay [(0,bc l),(1,bI to),(5,.rs C 0 i),(6,I i),(7,bI (cs.map g))],a7 [(C,.cells (rs.flatMap aM) 48)],ny⟩) (kq (α:=Nat×Nat×Nat)
    (fun s=>⟨ay [(0,bc l),(1,bI to),(5,.rs C 0 i),(6,I i),(7,.rs s.2.1 0 s.1),(8,bI cs),(9,I s.1)],a7 [(C,.cells (rs.flatMap aM) 48),(s.2.1,.cells (((cs.take s.1).map g).map S) 9)],s.2.2⟩)
    (fun s=>s.1<=cs.length/\C<s.2.1/\s.2.1<s.2.2) (fun s=>cs.length - s.1) (0,nx,nx+1)
    (bQ eH ⟨ag oG M,ah _ _ _,trivial⟩) ⟨Nat.zero_le _,oM,oM⟩ ?_) ?_)
   .rintro⟨j,r,ny⟩ ⟨hj,rG,s4⟩;dsimp only at hj rG s4 ⊢;refine aZ ?_;refine aa ⟨_,rfl,fun h=>?_,fun h=>?_⟩
    .have dq:j<cs.length:=by simpa using h
     clear h;obtain⟨s,hs⟩:∃ s,cs[j]? =some s:=⟨_,aU dq⟩
     obtain⟨hn,hv⟩:=io s (bD hs);have Ie:=Ie (l:=l) (s:=s);rw[hn] at Ie;clear hn;have ajT:fA l s<to.length:=(bK.1 hv).1;generalize fA l s=q at*
     have dA:(cs.take (j+1)).map g=(cs.take j).map g++[g s]:=by rw[List.take_add_one,hs,List.map_append];rfl
     have amU:((cs.take j).map g).length=j:=by simp;omega
     generalize (cs.take j).map g=ns at*
     generalize g s=v at*
     have U:a7 [(C,Row.cells (rs.flatMap aM) 48),(r,.cells (ns.map S) 9)] C=some (.cells (rs.flatMap aM) 48):=by simp[a7]
     have ap:a7 [(C,Row.cells (rs.flatMap aM) 48),(r,.cells (ns.map S) 9)] r=some (.cells (ns.map S) 9):=by simp[a7,show r≠C by omega]
     refine jP ?_;refine iu ?_;refine cl Ie ?_;refine bu ?_;refine aa ?_;show aq _ _ _ _ _ _ _ _ _;refine ax ?_;refine aa (bg (j+1,ny+1,ny+1+1) ?_ ⟨oM,oM,oM⟩ oM);dsimp only;rw[dA];refine bQ eH ⟨ag oG (ag oG (ag oG U)),(ah _ _ _).trans ?_,trivial⟩;simp;rfl
    .have bl:¬ j<cs.length:=by simpa using h
     have:j=cs.length:=by omega
     subst this;rw[List.take_length];have U:a7 [(C,Row.cells (rs.flatMap aM) 48),(r,.cells ((cs.map g).map S) 9)] C=some (.cells (rs.flatMap aM) 48):=by simp[a7]
     have ap:a7 [(C,Row.cells (rs.flatMap aM) 48),(r,.cells ((cs.map g).map S) 9)] r=some (.cells ((cs.map g).map S) 9):=by simp[a7,show r≠C by omega]
     exact⟨ny,oG,oR (i:=r) (cs:=(cs.map g).map S) (e:=9) ap (l:=[(0,bc l),(1,bI to),(5,.rs C 0 i),(6,I i),(7,bI (cs.map g))]) ⟨rfl,rfl,xe oG,rfl,(iJ (by rw[c9];simp)).trans oS,trivial⟩ (ml:=[(C,.cells (rs.flatMap aM) 48)]) ⟨J2 oG U (dd (fun k=>k=r) r _ _ rfl),trivial⟩⟩
   .rintro s ⟨ny,hny,hg⟩;have NH:=UM;have ap:=M;refine⟨_,hg,z7 ZL ?_⟩;refine dG ?_;refine ab ?_;refine cl NH ?_;refine SS ?_;have gn:∀ {a},up (a7 [(C,Row.cells (rs.flatMap aM) 48)]) ny a C=some (.cells (rs.flatMap aM) 48):=ag oG M;refine iC (iw rfl gn rfl Eu mg (j5 (ah _ _ _) rfl) rfl) aK ⟨DJ,rfl,bC rfl,oC,by rw[lv];omega,by unfold maxLen;omega,by rw[H'];omega,by simp;omega⟩ ?_;refine SS ?_;refine ct cG ?_;refine ax ?_;refine aa (bg (i+1,ny+1,ny+1+1) ?_ ⟨oM,oM⟩ oM);dsimp only;rw[hrs];refine bQ eH ⟨(ah _ _ _).trans ?_,trivial⟩;rw[List.flatMap_append];simp;rfl
  .have bl:¬ i<l.length:=by simpa using h
   have:i=l.length:=by omega
   subst this;exact⟨C,nx,av eH⟩
 .rintro s ⟨r,nx,hg⟩;refine⟨_,hg,aw ?_⟩;refine ab ?_;refine aa (bG (eT (i:=r) (cs:=(ia l to).flatMap aM) (e:=48) (by simp[a7]) (l:=[(4,bc (ia l to))]) ⟨?_,trivial⟩) (aF rfl rfl));exact(iJ (by rw[mg,tg OK,zY])).trans (congrArg (D.sl _) (zY l to).symm)
end Go.Proofs.Tryz.K
end
namespace Go.Argus
open Go.Abs
abbrev pb:Sh:=.int .i64
abbrev DU:Sh:=.int .u8
abbrev Dt:Sh:=.pair DU (.pair pb (.pair pb (.pair pb (.pair pb (.pair (.sl pb) .unit)))))
abbrev GH:Sh:=.pair .str (.pair pb .unit)
abbrev G4:Sh:=.pair DU (.pair pb (.pair pb (.pair pb (.pair pb (.pair .str (.pair Dt (.pair (.sl pb) (.pair (.sl GH) (.pair pb .unit)))))))))
abbrev F8:Sh:=.pair (.sl Dt) (.pair G4 .unit)
abbrev vD:Sh:=.pair .str (.pair .bool (.pair pb (.pair DU (.pair (.sl DU) (.pair (.sl DU) (.pair (.sl .str) (.pair (.sl F8) .unit)))))))
def Lp(x:Dt.val):cW:=⟨x.1,x.2.1,x.2.2.1,x.2.2.2.1,x.2.2.2.2.1,x.2.2.2.2.2.1⟩
def SQ(x:GH.val):iR:=⟨x.1,x.2.1⟩
def TZ(x:G4.val):End:=⟨x.1,x.2.1,x.2.2.1,x.2.2.2.1,x.2.2.2.2.1,x.2.2.2.2.2.1,Lp x.2.2.2.2.2.2.1,x.2.2.2.2.2.2.2.1,List.map SQ x.2.2.2.2.2.2.2.2.1,x.2.2.2.2.2.2.2.2.2.1⟩
def R9(x:F8.val):bx:=⟨List.map Lp x.1,TZ x.2.1⟩
def SR(x:vD.val):al:=⟨x.1,x.2.1,x.2.2.1,x.2.2.2.1,x.2.2.2.2.1,x.2.2.2.2.2.1,x.2.2.2.2.2.2.1,List.map R9 x.2.2.2.2.2.2.2.1⟩
theorem GI{k:IntKind}(l:List Int):D.sl (List.flatMap (Sh.enc (.int k)) l) l.length=.sl (l.map fun n=>.s (.int k n)) l.length:=congrArg (D.sl · l.length) (JG (fun n=>D.s (.int k n)) l)
theorem SU(l:List ByteArray):D.sl (List.flatMap (Sh.enc .str) l) l.length=bI l:=congrArg (D.sl · l.length) (JG S l)
theorem G5{s:Sh}{β:Type}{g:β->List D}{h:s.val->β}(he:∀ x,s.enc x=g (h x))(l:List s.val):D.sl (List.flatMap s.enc l) l.length=.sl ((l.map h).flatMap g) (l.map h).length:=by
 rw[Pu he l,List.length_map]
theorem c1'{α β:Type}(f:α->β){a a':α}(h:a=a'):f a=f a':=by rw[h]
theorem wP{α β γ:Type}(f:α->β->γ){a a':α}{b C:β}(h:a=a')(h2:b=C):f a b=f a' C:=by rw[h,h2]
theorem c3'{α β γ δ:Type}(f:α->β->γ->δ){a a':α}{b C:β}{c J:γ}(h:a=a')(h2:b=C)(M:c=J):f a b c=f a' C J:=by rw[h,h2,M]
theorem c4'{α β γ δ ε:Type}(f:α->β->γ->δ->ε){a a':α}{b C:β}{c J:γ}{d d':δ}(h:a=a')(h2:b=C)(M:c=J)(U:d=d'):f a b c d=f a' C J d':=by rw[h,h2,M,U]
theorem R'(x:Dt.val):Dt.enc x=cv (Lp x):=
 c1' (fun q=>[U8 x.1,I x.2.1,I x.2.2.1,I x.2.2.2.1,I x.2.2.2.2.1,q]) (GI (k:=.i64) x.2.2.2.2.2.1)
theorem abK(x:GH.val):GH.enc x=gR (SQ x):=rfl
theorem acZ(x:G4.val):G4.enc x=bw (TZ x):=
 c3' (fun a b c=>[U8 x.1,I x.2.1,I x.2.2.1,I x.2.2.2.1,I x.2.2.2.2.1,S x.2.2.2.2.2.1]++(a++[b,c,I x.2.2.2.2.2.2.2.2.2.1])) (R' x.2.2.2.2.2.2.1) (GI (k:=.i64) x.2.2.2.2.2.2.2.1) (G5 abK x.2.2.2.2.2.2.2.2.1)
theorem Z8(x:F8.val):F8.enc x=bH (R9 x):=by
 have:=wP (fun a b=>a::(b++[])) (G5 R' x.1) (acZ x.2.1);refine Eq.trans this ?_;rw[List.append_nil];rfl
theorem Z9(x:vD.val):vD.enc x=aM (SR x):=
 c4' (fun a b c d=>[S x.1,B x.2.1,I x.2.2.1,U8 x.2.2.2.1,a,b,c,d]) (GI (k:=.u8) x.2.2.2.2.1) (GI (k:=.u8) x.2.2.2.2.2.1) (SU x.2.2.2.2.2.2.1) (G5 Z8 x.2.2.2.2.2.2.2.1)
theorem Z0(l:List vD.val):(Sh.sl vD).arg l=bc (l.map SR):=G5 Z9 l
theorem abG(l:List ByteArray):(Sh.sl .str).arg l=bI l:=SU l
end Go.Argus
namespace Go.Proofs.YtnagfmlifobdiaaGreatDoor
open Go.Abs Go.Argus
set_option maxRecDepth 100000
theorem akk:ownKnob Tryz.prog.godebug=none:=kr
theorem laidOut:laidOutB Tryz.prog=true:=kr
theorem agU: Tryz.prog.underlying 4=some .bool:=kr
noncomputable abbrev vV:List (String×DataW Unit):=Rows.shareTellsRow.laid
def SV:List Int:=[1,10,100,1000,10000,100000,1000000,10000000,100000000,1000000000,10000000000,100000000000,1000000000000,10000000000000,100000000000000,1000000000000000,10000000000000000,100000000000000000,1000000000000000000,10000000000000000000]
theorem Yx:∃ C,(C,DataW.agg (SV.map fun n=>DataW.lit (.int .u64 n)))∈vV/\ Tryz.prog.globalNamed C=some 0:=⟨_,.tail _ (.tail _ (.head _)),by kernel_rfl⟩
theorem Pv(w:World):laidMetH Tryz.prog vV w=laidMet Tryz.prog vV w:=MakeChecks.laidMetH_plain _ _ _ kr
theorem acX{W:World}(h:laidMetH Tryz.prog vV W):FB (fun b=>b=0) W/\Ds (fun b=>b=0) W:=by
 rw[Pv] at h;obtain⟨J,hm,hg⟩:=Yx;obtain⟨ty,ht⟩:=Yy (t:=200) (e:=199) h hm hg kr kr kr kr kr oC;refine⟨⟨fun b hb=>?_,fun t C=>?_⟩,fun b o u hb hu=>?_⟩
 .subst hb;exact(Array.getElem?_eq_some_iff.1 ht).1
 .simp only[uk,List.mem_singleton] at C;subst C;exact⟨rfl,ty,_,ht⟩
 .subst hb;unfold World.cell? at hu;rw[ht] at hu;simp only at hu;have hu:((SV.map (Value.int .u64 ·)).toArray)[o]? =some u:=hu;rw[List.getElem?_toArray,List.getElem?_map] at hu;obtain⟨n,_,rfl⟩:=cP.1 hu;exact⟨n,rfl⟩
def akp:DataW Unit->Value
 | .lit (.int k n)=>.int k n
 |_=>undef
def akq:DataW Unit->Array Value
 | .agg ps=>(ps.map akp).toArray
 |_=> #[]
noncomputable def P'(os:Os):World:=
 let C:=World.holding Tryz.prog os ⟨#[], #[],[]⟩
 let f (d:DataW Unit):Obj->Obj:=fun
     | .cells _ t frozen=>.cells (akq d) t frozen
     |o=>o
 { C with heap:=((C.heap.modify 0 (f Rows.laid_internal_strconv_uint64pow10)).modify 2 (f Rows.laid_math_bits_deBruijn32tab)).modify 3 (f Rows.laid_math_bits_deBruijn64tab) }
theorem WU(os:Os)(args:Array Value):laidMetH Tryz.prog vV ((P' os).forCall (fun _ _=>0) ⟨#[],args,[]⟩).memory:=by
 rw[Pv];exact laidMet_of_run' 8 kr kr
end Go.Proofs.YtnagfmlifobdiaaGreatDoor
section
open Go Go.Abs Go.Proofs Go.Argus
namespace Go.Proofs.Tryz.K
set_option maxRecDepth 100000
theorem acE:jk dK [sE]=0:=by
 unfold jk;rw[pC]
 kernel_rfl
theorem acF:jk dK [sB]=0:=by
 unfold jk;rw[pC]
 kernel_rfl
noncomputable def NE:List (FuncId×Func×Code):=[(42, Tryz.f42,SC),(81, Tryz.f81,SD)]
theorem adI:∀ x∈NE,lj prog x.1 x.2.1 x.2.2:=fun x hx=>by
 simp only[NE,List.mem_cons,List.not_mem_nil,or_false] at hx;rcases hx with rfl|rfl
 .exact ajz
 .exact ajA
noncomputable def cxS:Ctx:=⟨fun f=>(NE.find? fun x=>Nat.beq x.1 f).map (·.2),fun _ _ _=>none,fun _ _=>none⟩
theorem SE:cxS.Ok prog:=⟨mixed,fun f fn c h=>by
 obtain⟨x,hx,he⟩:=cP.1 h;have h0:=List.find?_some hx;have h1:x.1=f:=Nat.eq_of_beq_eq_true h0;have:=adI x (List.mem_of_find?_eq_some hx);rw[h1,he] at this
 exact this,fun _ _ _ _ h=>oH,fun _ _ _ h=>oH⟩
def ajB(x:Argus.End):List D:=[U8 x.kind,I x.a,I x.b,I x.to,I x.gN,S x.name,U8 0,I 0,I 0,I 0,I 0,.z,.z,.z,I x.others]
def VO(f:al):List D:=[S f.name,B false,I 0,U8 0,.z,.z,.z,.sl (f.blocks.flatMap fun b=>.z::ajB b.fin) f.blocks.length]
theorem NF:aA prog 42 [] (bc dK):=by
 have h:ko prog 42 [] (dK.flatMap VO) 5 48:=(EL SE (Sm SE 1000) (args:=[]) oS).2 _ _ _ kr;have ht:Tr (.sl ((dK.flatMap VO).take (5*prog.cellsOf 48)) 5):=pF (n:=12) kr;exact YS (h.ado ht) fun F β w v hv=>Dm 20 kr hv
theorem nR{f:FuncId}{rds:List Nat}{args C:List D}{r:D}{m:Mem}{nx:Nat}(hc:aA prog f C r)(h:gZ (cA prog m 12) args=some (C,rds)):fD prog f args m nx (fun d m' J=>d=r/\m'=less rds m/\J=nx):=
 YR (BU h fun _ hi=>hi) hc
theorem SF{s:ByteArray}{env:Env}{x y:Operand}{m:Mem}{nx:Nat}{t p:TypeId}(hx:(opd env x).core=S s)(hy:(opd env y).core=S s):Ef prog (.binOp .eql t x y p) env m nx ⟨True,B true,[],[],0⟩:=by
 have h:=Kn (P:=prog) (env:=env) (m:=m) (nx:=nx) (t:=t) (p:=p) hx hy
 rwa[show(s.toList==s.toList)=true by simp] at h
theorem BM:aA prog 15 [] (B true):=by
 have hl:dK.length<=1000:=by decide
 have mh:aA prog 16 [bc dK] (.aL [cg [[0,1],[2],[3],[4]],I 0]):=by
  have:=mh (l:=dK) hl;rw[abh,pC] at this;exact this
 have J:aA prog 18 [bc dK,cg [[0],[1],[2],[3],[4]]] (.aL [B true,I 0]):=by
  have:=VC (l:=dK) (c:=[[0],[1],[2],[3],[4]]) hl oC oC;rw[abi,pC] at this;exact this
 have M:aA prog 18 [bc dK,cg [[0,1,2],[3],[4]]] (.aL [B false,I 0]):=by
  have:=VC (l:=dK) (c:=[[0,1,2],[3],[4]]) hl oC oC;rw[abj,pC] at this;exact this
 have U:aA prog 35 [bc dK,I 0,I 4] (.aL [aP [0,0],B true,I 0]):=by
  have:=qv (l:=dK) (a:=0) (b:=4) hl;rw[abk] at this;exact this
 have X:aA prog 35 [bc dK,I 0,I 1] (.aL [.z,B false,I 0]):=by
  have:=qv (l:=dK) (a:=0) (b:=1) hl;rw[abl] at this;exact this
 have ajG:aA prog 35 [bc dK,I 3,I 0] (.aL [aP [],B true,I 0]):=by
  have:=qv (l:=dK) (a:=3) (b:=0) hl;rw[abm] at this;exact this
 have NA:aA prog 22 [bc dK,bI [sE]] (.aL [bc ui,I 0]):=by
  have:=NA (l:=dK) (keep:=[sE]) hl;rw[acE,if_pos rfl,Ye] at this;exact this
 have Nz:aA prog 24 [bc dK,bI [sB]] (.aL [bI [sB,sB,sC,sD,sE],I 0]):=by
  have:=Nz (l:=dK) (keep:=[sB]) hl;rw[acF,if_pos rfl,Yf] at this;exact this
 have NF:=NF;refine bj ajH .nil (Tr.s _) ?_;rw[ajI];refine ws ?_;refine SS ?_;refine er ?_;refine cl NF ?_;refine SS ?_;refine er ?_;refine SS ?_;refine cl mh ?_;refine bu ?_;refine aa (aw ?_);refine iu ?_;refine gm (nR (rds:=[5,0,1,2,3,4]) J kr) rfl aK fun d m' C hp=>?_;obtain⟨rfl,rfl,rfl⟩:=hp;refine bu ?_;refine aa ⟨_,fO (l:=[(1,bc dK),(2,cg [[0,1],[2],[3],[4]]),(3,I 0),(4,B true),(5,I 0)]) eH,aw ?_⟩;refine bu ?_;refine gm (nR (rds:=[9,6,7,8]) M kr) rfl aK fun d m' C hp=>?_;obtain⟨rfl,rfl,rfl⟩:=hp;refine bu ?_;refine aa ⟨_,fO (l:=[(1,bc dK),(2,cg [[0,1],[2],[3],[4]]),(3,I 0),(4,B true),(5,I 0),(6,B false),(7,I 0)]) eH,aj ?_⟩;have qv:=U;refine SS ?_;refine cl qv ?_;refine iu ?_;clear qv;refine er ?_;have qv:=X;refine SS ?_;refine cl qv ?_;refine iu ?_;clear qv;refine er ?_;have qv:=ajG;refine SS ?_;refine cl qv ?_;refine iu ?_;clear qv;refine aa (aw ?_);refine ab ?_;refine gm (nR (rds:=[10]) NA kr) rfl aK fun d m' C hp=>?_;obtain⟨rfl,rfl,rfl⟩:=hp;refine bu ?_;refine aa ⟨_,fO (l:=[(1,bc dK),(2,cg [[0,1],[2],[3],[4]]),(3,I 0),(4,B true),(5,I 0),(6,B false),(7,I 0),(8,aP [0,0]),(9,B true),(10,I 0),(12,B false),(13,I 0),(14,aP []),(15,B true),(16,I 0),(17,bc ui),(18,I 0)]) eH,aw ?_⟩;refine ab ?_;refine gm (nR (rds:=[11]) Nz kr) rfl aK fun d m' C hp=>?_;obtain⟨rfl,rfl,rfl⟩:=hp;refine bu ?_;refine aa ⟨_,fO (l:=[(2,cg [[0,1],[2],[3],[4]]),(3,I 0),(4,B true),(5,I 0),(6,B false),(7,I 0),(8,aP [0,0]),(9,B true),(10,I 0),(12,B false),(13,I 0),(14,aP []),(15,B true),(16,I 0),(17,bc ui),(18,I 0),(19,bI [sB,sB,sC,sD,sE]),(20,I 0)]) eH,aB (aj ?_)⟩;refine bt ?_;refine bt ?_;refine bt ?_;refine ax ?_;refine aa (uc (cI (aw ?_)));have Ev:aA prog 20 [cg [[0,1],[2],[3],[4]],cg [[0,1],[2],[3],[4]]] (B true):=UJ;have BL:aA prog 39 [aP [0,0],aP [0,0]] (B true):=BL (a:=[0,0]) (b:=[0,0])
 have ND:aA prog 27 [bI [sB,sB,sC,sD,sE],bI [sB,sB,sC,sD,sE]] (B true):=by
  have:=ND (a:=[sB,sB,sC,sD,sE]) (b:=[sB,sB,sC,sD,sE])
  rwa[decide_eq_true rfl] at this
 refine cr ?_;refine gm (nR (rds:=[16,12,13,14,15]) Ev kr) rfl aK fun d m' C hp=>?_;obtain⟨rfl,rfl,rfl⟩:=hp;refine bt ?_;refine Kx rfl rfl (tq (cs:=[_,_]) V.h V.h V.h rfl rfl) ak ⟨rfl,oC,V.h,oC⟩ ?_;refine sg (rds:=[17]) BL rfl rfl rfl rfl (BU (n:=12) (r:=[17]) kr fun _ hi=>hi) aK ?_;refine bt ?_;refine dG ?_;refine aa ⟨_,fO (l:=[(17,bc ui),(19,bI [sB,sB,sC,sD,sE]),(21,B true)]) eH,aj ?_⟩;refine dG ?_;refine bd rfl rfl (sd (l:=ui) (i:=0) (z:=iO sA sA) rfl rfl Eu mg (u7) rfl) (fun hc=>⟨(by repeat' (first|exact trivial|exact hc|exact rfl|refine And.intro ?_ ?_)),se (l:=ui) (i:=0) (z:=iO sA sA) DJ (u7) rfl⟩) ?_;refine ab ?_;refine bd rfl rfl (sd (l:=(iO sA sA).blocks) (i:=0) (z:=⟨[],KE sA⟩) rfl rfl Nl Eh (u6) rfl) (fun hc=>⟨(by repeat' (first|exact trivial|exact hc|exact rfl|refine And.intro ?_ ?_)),se (l:=(iO sA sA).blocks) (i:=0) (z:=⟨[],KE sA⟩) L2 (u6) rfl⟩) ?_;refine ax ?_;refine bd (v:=B true) rfl rfl (SF (s:=sA) rfl rfl) (fun hc=>⟨(by repeat' (first|exact trivial|exact hc|exact rfl|refine And.intro ?_ ?_)),trivial⟩) ?_;refine ax ?_;refine bd rfl rfl (sd (l:=ui) (i:=3) (z:=iO sE sC) rfl rfl Eu mg (u7) rfl) (fun hc=>⟨(by repeat' (first|exact trivial|exact hc|exact rfl|refine And.intro ?_ ?_)),se (l:=ui) (i:=3) (z:=iO sE sC) DJ (u7) rfl⟩) ?_;refine ab ?_;refine bd (v:=B true) rfl rfl (SF (s:=sE) rfl rfl) (fun hc=>⟨(by repeat' (first|exact trivial|exact hc|exact rfl|refine And.intro ?_ ?_)),trivial⟩) ?_;refine ax ?_;refine Kx rfl rfl (tq V.h V.h V.h rfl rfl) ak ⟨rfl,oC,V.h,oC⟩ ?_;refine sg (rds:=[18]) ND rfl rfl rfl rfl (BU (n:=12) (r:=[18]) kr fun _ hi=>hi) aK ?_;refine ab ?_;exact aa (aF rfl rfl)
end Go.Proofs.Tryz.K
end
namespace Go.Proofs.Tryz.K
open Go.Abs
theorem sk7:oe=(S1 (G1 oe 0) (S1 (S1 (G1 oe 1) (C1 26 (S1 (G1 oe 2) .ret) K1)) (S1 (G1 oe 3) (S1 (S1 (G1 oe 4) (C1 34 (S1 (G1 oe 5) .ret) K1)) (S1 (G1 oe 6) (S1 (G1 oe 7) (S1 (G1 oe 8) (S1 (S1 (G1 oe 9) (C1 50 (S1 (G1 oe 10) .ret) K1)) (S1 (G1 oe 11) .ret))))))))):=kr
end Go.Proofs.Tryz.K
section
open Go Go.Abs Go.Proofs Go.Argus
namespace Go.Proofs.Tryz.K
theorem k7{l:List al}{to:List ByteArray}:aA prog 7 [bc l,bI to] (B true):=by
 have Ic:=Ic (l:=l);have Ia:=Ia (c:=to);refine bj ok7 (.cons (gP l) (.cons (fS to) .nil)) (Tr.s _) ?_;rw[sk7];have lv:=acC (l:=l);generalize uz l=fw at*
 generalize Aq to=sb at*
 refine ws ?_;refine SS ?_;refine aa (aB (aj ?_));refine SS ?_;refine cl Ic ?_;refine ax ?_;refine gc Ia ?_;refine bt ?_;refine aa (cR rfl (fun h=>aB (aj ?_)) fun h=>cI (aj ?_))
 .refine cl BM ?_;refine SS ?_;exact aa (ed (aF rfl rfl))
 have hb:fw=true/\to.length=l.length:=by
  revert h;cases fw<;>cases sb<;>simp<;>omega
 obtain⟨rfl,gh⟩:=hb;clear h Ic Ia;have lv:=lv rfl;have M:=fun l (hl:l.length<=1000)=>Go.Proofs.Tryz.K.mh (l:=l) hl;have mh:=M l oG;have ajX:=M (ia l to) (by rw[zY];omega);have ajY:=Go.Proofs.Tryz.K.wL (l:=ia l to) (fun h f hf=>RP (by rw[zY];omega) h hf) (by rw[zY];omega);have UN:=fun h=>Go.Proofs.Tryz.K.NJ (l:=l) (to:=to) (sk h) gh;have qg:=acH (l:=l) (to:=to);have U:∀ l:List al,(di l).2=0->qK l=cg (ux l):=fun l h=>if_pos h
 have X:∀ l:List al,qK l=.z\/∃ C,qK l=cg C:=fun l=>by
  unfold qK;split
  .exact .inr ⟨_,rfl⟩
  .exact .inl rfl
 have h1:=U l;have h2:=U (ia l to);have J:=X l;have h4:=X (ia l to);clear U X M;generalize di (ia l to)=em at*
 generalize (di l).2=e at*
 generalize qK (ia l to)=dm at*
 by_cases he:e=0
 .subst he;rw[h1 rfl] at mh;have NJ:=UN rfl;have qg:=qg rfl gh;clear h1 J UN;generalize ux l=C at*
  refine SS ?_;refine cl mh ?_;refine bu ?_;refine aa (aB (aj ?_));refine ab ?_;refine aa (uc (cI (aj ?_)));refine ab ?_;refine cl NJ ?_;refine SS ?_;refine er ?_;have wL:=ajY;refine SS ?_;refine cl wL ?_;refine bu ?_;clear wL;refine er ?_;have mh:=ajX;by_cases hz:em.2=0
  .rw[h2 hz,qg hz] at mh;have Ev:=UJ (l:=C);rw[hz] at mh;refine SS ?_;refine cl mh ?_;refine bu ?_;refine aa (aB (aj ?_));have um:(em.2 !=0)=false:=by simpa using hz
   refine ab ?_;refine aa (uc (cI (aj ?_)));refine cl BM ?_;refine iu ?_;refine gc Ev ?_;refine ab ?_;exact aa (aF rfl rfl)
  .have um:(em.2 !=0)=true:=by simpa using hz
   have nG:(em.2==em.2)=true:=by simp
   rcases h4 with rfl|⟨om,rfl⟩
   .refine SS ?_;refine cl mh ?_;refine bu ?_;refine aa (aB (aj ?_));refine ab ?_;refine aa (xZ (aB (aj ?_)));refine cl BM ?_;refine cr ?_;exact aa (ed (aF rfl rfl))
   .refine SS ?_;refine cl mh ?_;refine bu ?_;refine aa (aB (aj ?_));refine ab ?_;refine aa (xZ (aB (aj ?_)));refine cl BM ?_;refine cr ?_;exact aa (ed (aF rfl rfl))
 .have um:(e !=0)=true:=by simpa using he
  rcases J with J|⟨C,J⟩
  .rw[J] at mh;refine SS ?_;refine cl mh ?_;refine bu ?_;refine aa (aB (aj ?_));refine ab ?_;refine aa (xZ (aB (aj ?_)));refine cl BM ?_;refine SS ?_;exact aa (ed (aF rfl rfl))
  .rw[J] at mh;refine SS ?_;refine cl mh ?_;refine bu ?_;refine aa (aB (aj ?_));refine ab ?_;refine aa (xZ (aB (aj ?_)));refine cl BM ?_;refine SS ?_;exact aa (ed (aF rfl rfl))
end Go.Proofs.Tryz.K
end
