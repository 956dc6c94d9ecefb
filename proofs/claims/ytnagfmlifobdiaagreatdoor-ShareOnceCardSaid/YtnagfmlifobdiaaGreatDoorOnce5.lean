/- Part 5. -/
import Derived.Test.YtnagfmlifobdiaaGreatDoorOnce4
import Derived.Handed
import Derived.LaidLaws
import Derived.Stop.Joined
import Derived.Test.YtnagfmlifobdiaaGreatDoorRows
set_option linter.all false
set_option maxHeartbeats 8000000
set_option maxRecDepth 10000
open List(range)
namespace Go.Abs
section
variable{P:Program}{F:Nat->Prop}{fn:Func}
def Ld(I:(Nat->Prop)->Mem->Nat->Prop):Prop:=∀ (S:Nat->Prop) m nx (C:Nat->Prop) m' al,I S m nx->nx<=al->(∀ i,i<nx->¬ S i->m' i=m i)->(∀ i,C i->S i\/(nx<=i/\i<al))->I C m' al
def Le(I:(Nat->Prop)->Mem->Nat->Prop):Prop:=∀ (S:Nat->Prop) m nx (q:Nat) (σ:D->D),S q->I S m nx->I S (fun j=>if j=q then none else(m j).map (Row.sub σ)) nx
def RW(I:Nat->(Nat->Prop)->Mem->Nat->Prop)(Stop:Mem->Nat->Prop)(k:Nat)(S:Nat->Prop)(m:Mem)(nx:Nat)(d:D)(m':Mem)(C:Nat):Prop:=
 ((d=.s (.bool true)/\I (k+1) S m' C)\/(d=.s (.bool false)/\Stop m' C))/\nx<=C/\∀ i,S i->m' i=m i
def Iw(P:Program)(f:FuncId)(fs cs:List D)(xs:List (List D)):Prop:=
 oY P f=true/\∀ (F:Nat->Prop) (l:Nat) (I:Nat->(Nat->Prop)->Mem->Nat->Prop) (Stop:Mem->Nat->Prop) (m:Mem) (nx:Nat) (β:aE) (w:World) (vs:Array Value),(∀ k,Ld (I k))->(∀ k,Le (I k))->tm Stop->
  aJ P F m β w->(∀ i,nx<=i->β i=none)->Rs F β w (fs++[.fn (.yield l) [] []]++cs) vs->
  (∀ k x S m nx,xs[k]? =some x->(∀ i,S i->i<nx)->I k S m nx->nX P F β w l x m nx (RW I Stop k S m nx))->I 0 (fun _=>False) m nx->
  Calls P f vs w fun e w'=>∃ v d m' C β',e=.returned v/\((∃ S,I xs.length S m' C)\/Stop m' C)/\aJ P F m' β' w'/\(∀ i,C<=i->β' i=none)/\R F β' w' d v/\Step β w β' w'/\nx<=C/\∀ i,i<nx->β i=none->β' i=none
def UH(J:Nat)(xs:List (List D))(I:Nat->(Nat->Prop)->Mem->Nat->Prop)(Stop:Mem->Nat->Prop):ej:=fun l args m nx eg=>
 l=J/\∃ k S,xs[k]? =some args/\(∀ i,S i->i<nx)/\I k S m nx/\∀ d m' C,RW I Stop k S m nx d m' C->eg d m' C
instance{l:Nat}{xs:List (List D)}{I:Nat->(Nat->Prop)->Mem->Nat->Prop}{Stop:Mem->Nat->Prop}:dC (UH l xs I Stop):=⟨fun _ _ _ _ _ _ hk ⟨h1,k,S,h2,C,J,M⟩=>⟨h1,k,S,h2,C,J,fun d m nx h=>hk _ _ _ (M d m nx h)⟩⟩
theorem aec(iC:P.follows .mixedOrders=true){f:FuncId}{c:Code}(hf:lX P f fn c){fs cs:List D}(hn:Nat.ble (fs.length+1+cs.length) fn.ntmps=true){xs:List (List D)}
 (h:∀ (l:Nat) (I:Nat->(Nat->Prop)->Mem->Nat->Prop) (Stop:Mem->Nat->Prop) (m:Mem) (nx:Nat),(∀ k,Ld (I k))->(∀ k,Le (I k))->tm Stop->I 0 (fun _=>False) m nx->
  AW P (UH l xs I Stop) true c (iD P fn.results.toList fun _ st=>(∃ S,I xs.length S st.mem st.nx)\/Stop st.mem st.nx) ⟨iX (fs++[.fn (.yield l) [] []]++cs),m,nx⟩):Iw P f fs cs xs:=
 ⟨hf.he,fun F l I Stop m nx β w vs hI hF M hm X hR hy h0=>
  (AT iC hf.hf hf.hb hf.af (by simpa[Nat.add_assoc,Nat.add_comm,Nat.add_left_comm] using hn) (h l I Stop m nx hI hF M h0) (fun l' args m' U K hK=>by
   obtain⟨rfl,k,S,h1,h2,C,J⟩:=hK
   exact(hy k args S m' U h1 h2 C).mono J) hm X hR).mono fun e w' ⟨v,d,st',β',h1,h2,C,J,h5,h6,h7,h8⟩=>⟨v,d,st'.mem,st'.nx,β',h1,h2,J,h5,C,h6,h7,h8⟩⟩
def AX(P:Program)(Y:ej):Code->(Exit->St->Prop)->St->Prop
 | .seq a b,Q,st=>AX P Y a (fU (fun st'=>∃ C,aH P st' C/\AX P Y b Q C) Q) st
 | .block id b,Q,st=>AX P Y b (fE id Q) st
 | .rangeFunc g ps assign body,Q,st=>(opd st.env g).ask/\∃ f fs cs xs,∃ I:Nat->Mem->Nat->Prop,(opd st.env g).core=.fn (.func f) fs cs/\Iw P f fs cs xs/\(∀ x∈xs,x.length=ps.size/\∀ d∈x,Tr d)/\I 0 st.mem st.nx/\
   (∀ k m nx x,xs[k]? =some x->I k m nx->AW P c8 false assign (DE fun s=>AW P c8 false body (yK st.env (I (k+1)) Q) s) ⟨nT st.env ps.toList x,m,nx⟩)/\
   ∀ m nx,I xs.length m nx->Q .normal ⟨st.env,m,nx⟩
 |c,Q,st=>AW P Y true c Q st
theorem View.afh{il n₀:Nat}{f:Nat->Option Nat}{mc:Mem}{nc:Nat}{m:Mem}{nx:Nat}(h:View il n₀ f mc nc m nx){β:aE}{w:World}(hm:aJ P F m β w)(hn:∀ i,nx<=i->β i=none){l:Nat}{o o':Obj}(hl:m il=some (.raw l o))
 {m':Mem} {M:Nat} {β':aE} {w':World} (fJ:aJ P (hidden F β f) m' β' w') (hs:pS l (β.via f) w β' w') (iL:∀ i,M<=i->β' i=none) (hle:nc<=M) (hg:∀ i,i<nc->(β.via f) i=none->β' i=none) (ho:w'.heap[l]? =some o'):
 ∃ f' J ic C,View il n₀ f' m' M J ic/\J il=some (.raw l o')/\aJ P F J C w'/\(∀ i,ic<=i->C i=none)/\Step β w C w'/\nx<=ic/\(∀ i,i<nx->β i=none->C i=none)/\
  (∀ i j,f' i=some j->f i=some j\/nx<=j)/\∀ j,j<nx->j≠il->(∀ i,f i≠some j)->J j=m j:=by
 obtain⟨zJ,sx,E0,af⟩:=hm.qE hl
 let f':Nat->Option Nat:=fun i=>if i<nc then f i else if i<M then some (nx+(i - nc)) else none
 have r4:∀ i,i<nc->f' i=f i:=fun i hi=>by simp[f',hi]
 have yX:∀ i,nc<=i->i<M->f' i=some (nx+(i - nc)):=fun i h1 h2=>by simp[f',h2,Nat.not_lt.2 h1]
 have Ec:∀ i,M<=i->f' i=none:=fun i h1=>by simp[f',Nat.not_lt.2 h1,Nat.not_lt.2 (Nat.le_trans hle h1)]
 have X:∀ i j,f' i=some j->(f i=some j/\i<nc/\j<nx)\/(nc<=i/\i<M/\j=nx+(i - nc)):=fun i j hf=>by
  rcases Nat.lt_or_ge i nc with h1|h1
  .rw[r4 i h1] at hf;exact .inl ⟨hf,h.mJ hf |>.1,(h.mJ hf).2.1⟩
  .rcases Nat.lt_or_ge i M with h2|h2
   .rw[yX i h1 h2] at hf;cases hf;exact .inr ⟨h1,h2,rfl⟩
   .rw[Ec i h2] at hf;cases hf
 have yY:∀ i i' j,f' i=some j->f' i'=some j->i=i':=fun i i' j h1 h2=>by
  rcases X i j h1 with⟨a1,a2,a3⟩|⟨a1,a2,a3⟩<;>rcases X i' j h2 with⟨b1,b2,b3⟩|⟨b1,b2,b3⟩
  .exact h.inj i i' j a1 b1
  .omega
  .omega
  .omega
 let inv:Nat->Option Nat:=fun j=>(range M).find? fun i=>f' i==some j
 have nr:∀ i j,inv j=some i->f' i=some j:=fun i j hi=>((F4 yY).1 i hi).1;have zm:∀ i j,f' i=some j->inv j=some i:=fun i j hf=>(F4 yY).2 i (by rcases X i j hf with h1|h1<;>omega) hf
 have MM:∀ j,inv j=none->∀ i,f i≠some j:=fun j hj i hf=>by
  have:=zm i j (by rw[r4 i (h.mJ hf).1];exact hf);rw[hj] at this;cases this
 let C:aE:=fun j=>match inv j with|some i=>β' i|none=>β j
 let J:Mem:=fun j=>match inv j with|some i=>(m' i).map (Row.mI f')|none=>if j=il then some (.raw l o') else m j
 have βs:∀ i j,f' i=some j->C j=β' i:=fun i j hf=>by simp[C,zm i j hf]
 have βn:∀ j,inv j=none->C j=β j:=fun j hj=>by simp[C,hj]
 have LG:inv il=none:=by
  cases hi:inv il with
  |none=>rfl
  |some i=>
   rcases X i il (nr i il hi) with⟨a1,a2,a3⟩|⟨a1,a2,a3⟩
   .exact absurd rfl (h.mJ a1).2.2
   .have:=h.lt;omega
 have via:C.via f'=β':=by
  funext i;simp only[aE.via];cases hf:f' i with
  |some j=>exact βs i j hf
  |none=>
   rcases Nat.lt_or_ge i M with h1|h1
   .rcases Nat.lt_or_ge i nc with h2|h2
    .obtain⟨j,h3,_⟩:=h.xD i h2;rw[r4 i h2,h3] at hf;cases hf
    .rw[yX i h2 h1] at hf;cases hf
   .exact(iL i h1).symm
 have look:∀ j p,C j=some p->(∃ i,inv j=some i/\f' i=some j/\β' i=some p)\/(inv j=none/\β j=some p):=fun j p hp=>by
  cases hi:inv j with
  |some i=>exact .inl ⟨i,rfl,nr i j hi,by rw[<- βs i j (nr i j hi)];exact hp⟩
  |none=>exact .inr ⟨rfl,by rw[<- βn j hi];exact hp⟩
 have MN:∀ b,β.free b->b≠l:=fun b hb e=>hb il _ zJ (e▸rfl)
 have de:∀ b,b<w.heap.size->β.free b->w'.heap[b]? =w.heap[b]? /\C.free b:=fun b hb hf=>by
  obtain⟨h1,h2⟩:=hs.de b hb (MN b hf) (aE.pH hf f);refine⟨h1,fun j p hp=>?_⟩;rcases look j p hp with⟨i,_,_,U⟩|⟨_,U⟩
  .exact h2 i p U
  .exact hf j p U
 have keep:∀ j p,β j=some p->C j=some p\/C j=some .dead:=fun j p hp=>by
  cases hi:inv j with
  |none=>exact .inl ((βn j hi).trans hp)
  |some i=>
   have hf:=nr i j hi;rw[βs i j hf];rcases X i j hf with⟨a1,a2,a3⟩|⟨a1,a2,a3⟩
   .exact hs.keep i p (by simp[aE.via,a1,hp])
   .rw[hn j oG] at hp;cases hp
 have own:∀ j p b,inv j=none->β j=some p->p.bF=some b->hidden F β f b/\(b≠l->b<w.heap.size/\w'.heap[b]? =w.heap[b]?):=fun j p b hj hp hb=>by
  obtain⟨h1,h2⟩:=h.wC hm (MM j hj) hp hb;exact⟨h2,fun aC=>⟨hm.lt j p b hp hb,(hs.de b (hm.lt j p b hp hb) aC h1).1⟩⟩
 refine⟨f',J,nx+(M - nc),C,⟨Nat.le_trans h.low hle,by have:=h.lt;omega,fun i hi=>?_,fun i hi=>?_,Ec,yY,fun i r hi=>?_⟩,?_,⟨fun j r hj=>?_,fun i j p q b hp hq e e'=>?_,fun j p b hp e=>?_,fun j p b hp e hF=>?_,?_⟩,fun i hi=>?_,⟨hs.size,de,keep,hs.out⟩,oG,fun i hi hb=>?_,fun i j hf=>?_,fun j hj aC gO=>?_⟩
 .rw[r4 i (Nat.lt_of_lt_of_le hi h.low)];exact h.id i hi
 .rcases Nat.lt_or_ge i nc with h1|h1
  .obtain⟨j,h2,h3,U⟩:=h.xD i h1;exact⟨j,by rw[r4 i h1];exact h2,oG,U⟩
  .exact⟨_,yX i h1 hi,oG,by have:=h.lt;omega⟩
 .obtain⟨p,hp,_⟩:=fJ.row i r hi
  have:∃ j,f' i=some j:=by
   rw[<- via] at hp;obtain⟨j,h1,_⟩:=Option.bind_eq_some_iff.1 hp;exact⟨j,h1⟩
  obtain⟨j,hj⟩:=this;exact⟨j,hj,by simp[J,zm i j hj,hi]⟩
 .simp[J,LG]
 .cases hi:inv j with
  |some i=>
   simp only[J,hi,cU] at hj;obtain⟨r0,xE,rfl⟩:=hj;obtain⟨p,hp,hr⟩:=fJ.row i r0 xE;refine⟨p,(βs i j (nr i j hi)).trans hp,cC.Im (F':=hidden F β f) (by rw[via];exact hr) (fun b hb=>.inl hb) fun b g1 g2=>?_⟩;obtain⟨k,q,hq,zK⟩:=Kw g1;rcases look k q hq with⟨i',_,_,U⟩|⟨h3,U⟩
   .exact absurd zK (g2 i' q (by rw[via];exact U))
   .exact(own k q b h3 U zK).1
  |none=>
   simp only[J,hi] at hj;split at hj
   .rename_i e;subst e;cases hj;exact⟨.raw l,(βn j hi).trans zJ,.raw l o' ho⟩
   .rename_i aC;obtain⟨p,hp,hr⟩:=hm.row j r hj;refine⟨p,(βn j hi).trans hp,hr.gen hs.size (fun b hb g1 g2=>⟨uG (de b hb g2).1,(de b hb g2).2,g1⟩) (fun i p _=>keep i p) fun b hb=>?_⟩;exact((own j p b hi hp hb).2 fun e=>aC (hm.inj j il p _ b hp zJ hb (e▸rfl))).2
 .rcases look i p hp with⟨i',a1,a2,a3⟩|⟨a1,a2⟩<;>rcases look j q hq with⟨j',b1,b2,b3⟩|⟨b1,b2⟩
  .have:=fJ.inj i' j' p q b a3 b3 e e';subst this;rw[a2] at b2;cases b2;rfl
  .exact absurd (own j q b b1 b2 e').1 (fJ.nf i' p b a3 e)
  .exact absurd (own i p b a1 a2 e).1 (fJ.nf j' q b b3 e')
  .exact hm.inj i j p q b a2 b2 e e'
 .rcases look j p hp with⟨i',a1,a2,a3⟩|⟨a1,a2⟩
  .exact fJ.lt i' p b a3 e
  .exact Nat.lt_of_lt_of_le (hm.lt j p b a2 e) hs.size
 .rcases look j p hp with⟨i',a1,a2,a3⟩|⟨a1,a2⟩
  .exact fJ.nf i' p b a3 e (.inl hF)
  .exact hm.nf j p b a2 e hF
 .exact hm.fb.next (fun b hb=>Nat.lt_of_lt_of_le (hm.fb.lt b hb) hs.size) (fun _ h=>h) fun t _ hF=>(de _ (hm.fb.lt _ hF) fun i p hp e=>hm.nf i p _ hp e hF).1
 .cases ct:inv i with
  |none=>exact(βn i ct).trans (hn i oG)
  |some i0=>
   rcases X i0 i (nr i0 i ct) with⟨a1,a2,a3⟩|⟨a1,a2,a3⟩<;>omega
 .cases ct:inv i with
  |none=>exact(βn i ct).trans hb
  |some i0=>
   have hf:=nr i0 i ct;rw[βs i0 i hf];rcases X i0 i hf with⟨a1,a2,a3⟩|⟨a1,a2,a3⟩
   .exact hg i0 a2 (by simp[aE.via,a1,hb])
   .omega
 .rcases X i j hf with⟨a1,_,_⟩|⟨_,_,a3⟩
  .exact .inl a1
  .exact .inr oG
 .have hi:inv j=none:=by
   cases hi:inv j with
   |none=>rfl
   |some i=>
    rcases X i j (nr i j hi) with⟨a1,_,_⟩|⟨_,_,a3⟩
    .exact absurd a1 (gO i)
    .omega
  simp[J,hi,aC]
theorem View.ai9{il n₀:Nat}{f:Nat->Option Nat}{mc:Mem}{nc:Nat}{m m':Mem}{nx J:Nat}(h:View il n₀ f mc nc m nx)(C:nx<=J)(he:∀ i j,f i=some j->m' j=m j):View il n₀ f mc nc m' J:=
 ⟨h.low,Nat.lt_of_lt_of_le h.lt C,h.id,fun i hi=>by
  obtain⟨j,h1,h2,M⟩:=h.xD i hi;exact⟨j,h1,oG,M⟩,h.out,h.inj,fun i r hi=>by
  obtain⟨j,h1,h2⟩:=h.rows i r hi
  exact⟨j,h1,(he i j h1).trans h2⟩⟩
def yz(il l:Nat)(n₀:Nat)(o:Obj)(I:Mem->Nat->Prop)(S:Nat->Prop)(m:Mem)(nx:Nat):Prop:=∃ f mc nc,View il n₀ f mc nc m nx/\m il=some (.raw l o)/\I mc nc/\¬ S il/\∀ i j,f i=some j->¬ S j
theorem yz.closed{il l n₀:Nat}{o:Obj}{I:Mem->Nat->Prop}:Ld (yz il l n₀ o I):=by
 rintro S m nx X m' al ⟨f,mc,nc,h1,h2,U,J,M⟩ C he hs;refine⟨f,mc,nc,h1.ai9 C fun i j hf=>he j (h1.mJ hf).2.1 (M i j hf),(he il h1.lt J).trans h2,U,fun e=>?_,fun i j hf e=>?_⟩
 .rcases hs il e with h|h
  .exact J h
  .have:=h1.lt;omega
 .rcases hs j e with h|h
  .exact M i j hf h
  .have:=(h1.mJ hf).2.1;omega
theorem aco(f:Nat->Option Nat)(σ:D->D)(r:Row):(r.mI f).sub σ=r.mI f:=by cases r<;>rfl
theorem yz.oO{il l n₀:Nat}{o:Obj}{I:Mem->Nat->Prop}:Le (yz il l n₀ o I):=by
 rintro S m nx q σ hq ⟨f,mc,nc,h1,h2,U,C,J⟩;have M:il≠q:=fun e=>C (e▸hq);refine⟨f,mc,nc,⟨h1.low,h1.lt,h1.id,h1.xD,h1.out,h1.inj,fun i r hi=>?_⟩,?_,U,C,J⟩
 .obtain⟨j,a1,a2⟩:=h1.rows i r hi;refine⟨j,a1,?_⟩;have hj:j≠q:=fun e=>J i j a1 (e▸hq);simp only[if_neg hj,a2,Option.map_some,aco]
 .simp only[if_neg M,h2,Option.map_some];rfl
theorem acp(iC:P.follows .mixedOrders=true):∀ (c:Code) (F:Nat->Prop) (n:Nat) (Y:ej) (N₀:Nat) (β₀:aE) (w₀:World) (a₀:Act),
 (∀ l args m nx K,Y l args m nx K->nX P F β₀ w₀ l args m nx K)->gV a₀.tmps.size c=true->∀ (Q:Exit->St->Prop) (st:St) (β:aE) (w:World) (a:Act),
 AX P Y c Q st->eB P F st β w a->pv N₀ β₀ w₀ a₀ st β w a->c.wpIn (Fe none) n P (Ut P F N₀ β₀ w₀ a₀ Q) a w:=by
 intro c
 induction c with
 |seq x y Cm Cn=>
  intro F n Y N₀ β₀ w₀ a₀ hY af Q st β w a h hs cu;simp only[gV,aW] at af;refine wpIn_seq (wpIn_mono (Cm F n Y N₀ β₀ w₀ a₀ hY af.1 _ st β w a h hs cu) fun e a' w' hp=>?_);obtain⟨st',β',hq,cQ,dL⟩:=hp;cases e with
  |normal=>
   obtain⟨fS,hg,hy⟩:=hq;obtain⟨dT,pX,Ed⟩:=JJ hg cQ;exact Cn F n Y N₀ β₀ w₀ a₀ hY af.2 Q fS dT w' a' hy pX (dL.since Ed)
  |_=>exact⟨st',β',hq,cQ,dL⟩
 |block id b ih=>
  intro F n Y N₀ β₀ w₀ a₀ hY af Q st β w a h hs cu;refine wpIn_block (wpIn_mono (ih F n Y N₀ β₀ w₀ a₀ hY af _ st β w a h hs cu) fun e a' w' hp=>?_);obtain⟨st',β',hq,cQ,dL⟩:=hp;cases e with
  |exit i=>
   simp only[fE] at hq;simp only[Exit.inBlock];split at hq
   .rename_i hi;rw[if_pos hi];exact⟨st',β',hq,cQ,dL⟩
   .rename_i hi;rw[if_neg hi];exact⟨st',β',hq,cQ,dL⟩
  |_=>exact⟨st',β',hq,cQ,dL⟩
 |rangeFunc g ps assign body vK vL=>
  intro F n Y N₀ β₀ w₀ a₀ hY af Q st β w a h hs cu;obtain⟨env,mem,nx⟩:=st;obtain⟨j4,f,fs,cs,xs,I,u7,zn,yZ,zL,uS,y3⟩:=h;simp only at j4 u7 zL uS y3;simp only[gV,aW,bS,Nat.blt_eq] at af;obtain⟨sy,MP,MQ⟩:=af;have bD:a.tmps.size=a₀.tmps.size:=cu.size;have hR:=(hs.e.opd g).uF _ j4;simp only[u7] at hR;refine wpIn_rangeFunc fun fn qX=>?_;obtain⟨C,la⟩:∃ C:LoopState->Option Code->Loop,C=fun st pe=>{ state:=st,pending:=pe,fn,tmps:=a.tmps,params:=ps,assign,body,defers:=w.heap.size }:=⟨_,rfl⟩
  obtain⟨U,sF⟩:∃ U,(w.alloc (.deferred (some []))).alloc (.loop (C .ready none))=U:=⟨_,rfl⟩
  obtain⟨us,vs,d,zM,pw,hu,hv,oh,hinv⟩:=Pu (P:=P) hR zn.1 (w.heap.size+1) U;have hn:∀ i,nx<=i->β i=none:=hs.n;have vM:∀ t∈vu,t.1≠w.heap.size+1:=fun t ht e=>by have:=hs.m.fb.lt _ (hs.m.fb.mQ t ht).1;omega
  have E0:¬ F (w.heap.size+1):=fun e=>by have:=hs.m.fb.lt _ e;omega
  let X:Nat->Option Nat:=fun i=>if i<nx then some i else none
  have ED:β.via X=β:=by
   funext i;simp only[aE.via,X];split
   .rfl
   .exact(hn i oG).symm
  have lq:aJ P F (fun i=>(mem i).map (Row.mI X)) β w:=⟨fun i r hi=>by
   simp only[cU] at hi;obtain⟨r0,h1,rfl⟩:=hi;obtain⟨p,hp,hr⟩:=hs.m.row i r0 h1
   exact⟨p,hp,cC.Im (F':=F) (by rw[ED];exact hr) (fun _ h=>h) fun b g1 g2=>absurd (ED▸g2) g1⟩,hs.m.inj,hs.m.lt,hs.m.nf,hs.m.fb⟩
  have vN:Step β w β (w.alloc (.deferred (some []))):=AR oS fun b hb=>heap_alloc_old w _ hb;have js:aJ P F (fun i=>(mem i).map (Row.mI X)) β (w.alloc (.deferred (some []))):=lq.ext oS fun b hb=>heap_alloc_old w _ hb
  have NM:aJ P F (up (fun i=>(mem i).map (Row.mI X)) nx (some (.raw (w.heap.size+1) (.loop (C .ready none))))) (up β nx (some (.raw (w.heap.size+1)))) U:=by
   rw[<- sF];refine js.alloc (hn nx (aZ _)) _ _ _ (fun b hb=>by simp only[Pl.bF,aG] at hb;simp;omega) (.raw _ _ ?_);have:=World.alloc_heap_new (w.alloc (.deferred (some []))) (.loop (C .ready none))
   rwa[World.size_alloc] at this
  have nC:Step β w (up β nx (some (.raw (w.heap.size+1)))) U:=by
   rw[<- sF];exact vN.trans (AH js _ (hn nx (aZ _)) _ (fun b hb=>by simp only[Pl.bF,aG] at hb;simp;omega))
  have NN:U.heap[w.heap.size]? =some (.deferred (some [])):=by
   rw[<- sF];rw[heap_alloc_old _ _ oS];exact World.alloc_heap_new w _
  have DT:aE.free (up β nx (some (.raw (w.heap.size+1)))) w.heap.size:=
   rD (fun i p hp e=>by have:=hs.m.lt i p _ hp e;omega) (by rintro q hq;cases hq;simp[Pl.bF])
  have aiY:U.heap.size=w.heap.size+2:=by rw[<- sF];simp
  have K2:∀ i,nx<=i->mem i=none:=fun i hi=>by
   cases hm:mem i with
   |none=>rfl
   |some row=>
    obtain⟨p,hp,_⟩:=hs.m.row i row hm;rw[hn i hi] at hp;cases hp
  have own:∀ {f:Nat->Option Nat} {mc:Mem} {nc:Nat} {m:Mem} {ij:Nat} {M:aE} {w2:World},View nx nx f mc nc m ij->Step (up β nx (some (.raw (w.heap.size+1)))) U M w2->
   ∀ {d:D} {v:Value},R F β w d v->R (hidden F M f) (M.via f) w2 d v:=fun {_ _ _ _ _ _ _} J dc {d v} h=>by
   have zo:=nC.trans dc;refine h.gen zo.size (fun b hb hf lQ=>?_) fun i p _ hp=>?_
   .obtain⟨g1,g2⟩:=zo.de b hb lQ;exact⟨uG g1,aE.pH g2 _,fun e=>e.elim hf fun e=>e.1 g2⟩
   .have hi:i<nx:=by
     rcases Nat.lt_or_ge i nx with h1|h1
     .exact h1
     .rw[hn i h1] at hp;cases hp
    simp only[aE.via,J.id i hi,Option.bind_some];exact zo.keep i p hp
  refine⟨w.heap.size+1,[mark w.heap.size],U,d,U,f,_,U,?_,oh,fun f' _=>trivial,hinv,fun hd=>by simp at hd,Kx ?_⟩
  .rw[<- sF,la];exact run_enterLoop_outer _ _ _ _ _
  refine(zn.2 F (w.heap.size+1) (fun k S=>yz nx (w.heap.size+1) nx (.loop (C .ready none)) (I k) S) (fun m k=>∃ c,wH nx (w.heap.size+1) nx (.loop (C .done (some c))) (Jump env Q c) m k)
   (up (fun i=>(mem i).map (Row.mI X)) nx (some (.raw (w.heap.size+1) (.loop (C .ready none))))) (nx+1) (up β nx (some (.raw (w.heap.size+1)))) U _ (fun k=>yz.closed) (fun k=>yz.oO) ?_ NM ?_ ?_ ?_ ?_).mono ?_
  .rintro m k m' k' ⟨c,hc⟩ hle he;exact⟨c,wH.closed m k m' k' hc hle he⟩
  .intro i hi;rw[aA _ _ (show i≠nx by omega)];exact hn i oG
  .refine Rs.append (Rs.append ?_ ?_) ?_
   .exact⟨by simp[zM],fun k d v hd hv=>(hu k d v hd (by simpa using hv)).step nC⟩
   .refine⟨rfl,fun k d v hd hv=>?_⟩;cases k with
    |zero=>
     simp only[List.getElem?_cons_zero,aG] at hd;simp only[List.getElem?_toArray,List.getElem?_cons_zero,aG] at hv;subst hd;subst hv;exact .fn _ [] [] [] [] rfl rfl oS oS
    |succ k=>simp at hd
   .exact⟨by simp[pw],fun k d v hd E2=>(hv k d v hd (by simpa using E2)).step nC⟩
  .rintro k x S m k' hx VA ⟨g,mc,nc,J,eN,NO,VB,WV⟩ M w2 vO MR iM IU vP;obtain⟨E3,r5,_,zp⟩:=iM.qE eN;have MS:vO.size=ps.size:=by rw[vP.1];exact(yZ x (bu hx)).1
   have hy:=run_yield (P:=P) (args:=vO) r5 (by rw[la];exact MS);simp only[la,QQ] at hy;refine⟨fn,_,assign,body,hy,fun n'=>?_⟩;obtain⟨tU,kH⟩:=J.enter iM;have sG:hidden F M g (w.heap.size+1):=(J.wC iM (fun i e=>(J.mJ e).2.2 rfl) E3 rfl).2;have DU:(M.via g).free (w.heap.size+1):=(J.wC iM (fun i e=>(J.mJ e).2.2 rfl) E3 rfl).1;have NP:ia (hidden F M g) (M.via g) w2 env { tmps:=a.tmps,defers:=[] }:=fun t=>own J MR (hs.e t)
   obtain⟨NQ,EE⟩:=JO ps.toList x vO.toList env a.tmps (by simp[vP.1]) (fun j d v hd hv=>
    ((yZ x (bu hx)).2 d (bu hd) F M w2 v (vP.2 j d v hd (by simpa using hv))).gen (aZ _)
     (fun b _ hb _=>⟨kV.refl _ b,aE.pH (wv hb).2 _,fun e=>e.elim (wv hb).1 fun e=>e.1 (wv hb).2⟩) (fun i p _ hp=>by cases hp)) (fun t ht=>by rw[bD];exact sy t ht) NP
   have MT:=Gf iC assign (hidden F M g) (some (w.heap.size+1)) n' c8 false nc (M.via g) w2
    { tmps:=(ps.toList.zip vO.toList).foldl (fun tmps (t,a)=>tmps.setIfInBounds t a) a.tmps,defers:=[] } oS (fun _ _ _ _ _ h=>h.elim) (by show gV (Array.size _) assign=true;rw[EE,bD];exact MP) _ ⟨nT env ps.toList x,mc,nc⟩ (M.via g) w2 _
    (uS k mc nc x hx NO) ⟨NQ,tU,kH⟩ (gk.refl ⟨nT env ps.toList x,mc,nc⟩ _ _ _).zI
   refine roundIn_of_wpIn trivial (wpIn_mono MT fun e a3 w3 hp=>?_);obtain⟨jb,β3,zN,Co,gN⟩:=hp;cases e with
   |normal=>
    have y4:w.heap.size+1<w3.heap.size:=Nat.lt_of_lt_of_le zp gN.step.size;have L9:w3.heap[w.heap.size+1]? =some (.loop (C .ready none)):=(gN.step.de _ zp DU).1.trans r5;refine⟨_,run_beginRound L9 (by rw[la]),?_⟩;have MU:=Co.pd (l:=w.heap.size+1) sG vM (.loop { C .ready none with state:=.busy });have L':=Gf iC body (hidden F M g) (some (w.heap.size+1)) n' c8 false jb.nx β3 _ a3 oS (fun _ _ _ _ _ h=>h.elim) (by rw[gN.size];show gV (Array.size _) body=true;rw[EE,bD];exact MQ) _ jb β3 _ a3 zN MU (gk.refl jb _ _ _).zI;refine wpIn_mono L' fun e a4 w4 NR=>?_;obtain⟨E4,β4,vQ,E5,qZ⟩:=NR;have Ma:w.heap.size+1<w4.heap.size:=Nat.lt_of_lt_of_le (by simpa using y4) qZ.step.size
    have Mb:w4.heap[w.heap.size+1]? =some (.loop { C .ready none with state:=.busy }):=
     (qZ.step.de _ (by simpa using y4) (gN.step.de _ zp DU).2).1.trans (World.putObj_heap_same y4)
    have fin:∀ (jump:Option Code) (K:D->Mem->Nat->Prop),(∀ f' dM ic,View nx nx f' E4.mem E4.nx dM ic->dM nx=some (.raw (w.heap.size+1) (.loop (C (if jump.isNone then .ready else .done) jump)))->k'<=ic->(∀ i,S i->dM i=m i)->(∀ i j,f' i=some j->¬ S j)->K (.s (.bool jump.isNone)) dM ic)->
     ∃ v w',(Instr.endRound (w.heap.size+1) jump).run P w4=.ok v w'/\∃ v' d m' al β',Ending.returned v=.returned v'/\K d m' al/\aJ P F m' β' w'/\(∀ i,al<=i->β' i=none)/\R F β' w' d v'/\Step M w2 β' w'/\k'<=al/\∀ i,i<k'->M i=none->β' i=none:=fun jump K hK=>by
     have dn:=run_endRound (P:=P) jump Mb;have e1:∀ s p,({ ({ C .ready none with state:=.busy }:Loop) with state:=s,pending:=p }:Loop)=C s p:=fun s p=>by rw[la]
     rw[e1] at dn
     obtain⟨f',dM,ic,dT,v1,v2,v3,v4,v5,v6,v7,v8,v9⟩:=J.afh iM IU eN (o':=.loop (C (if jump.isNone then .ready else .done) jump)) (E5.m.pd sG vM _)
      (((gN.step.x _).trans (pS.put _ β3 w3 _)).trans ((qZ.step.x _).trans (pS.put _ β4 w4 _))) E5.n (Nat.le_trans gN.le qZ.le) (fun i hi hb=>qZ.grow i (Nat.lt_of_lt_of_le hi gN.le) (gN.grow i hi hb)) (World.putObj_heap_same Ma)
     exact⟨_,_,dn,.bool jump.isNone,_,dM,ic,dT,rfl,hK f' dM ic v1 v2 v6 (fun i hi=>v9 i (VA i hi) (fun e=>VB (e▸hi)) fun j hj=>WV j i hj hi) (fun i j hf hj=>(v8 i j hf).elim (fun h=>WV i j h hj) fun h=>by have:=VA j hj;omega),v3,v4,.s _ rfl,v5,v6,v7⟩
    cases e with
    |normal=>exact fin none _ fun f' dM ic v1 v2 v6 v8 v9=>⟨.inl ⟨rfl,f',_,_,v1,v2,vQ,VB,v9⟩,v6,v8⟩
    |ret=>exact fin (some .ret) _ fun f' dM ic v1 v2 v6 v8 _=>⟨.inr ⟨rfl,.ret,f',_,_,v1,v2,vQ⟩,v6,v8⟩
    |exit id=>exact fin (some (.exit id)) _ fun f' dM ic v1 v2 v6 v8 _=>⟨.inr ⟨rfl,.exit id,f',_,_,v1,v2,vQ⟩,v6,v8⟩
    |_=>exact vQ.elim
   |_=>exact zN.elim
  .refine⟨X,mem,nx,⟨aZ _,oG,fun i hi=>by simp[X,hi],fun i hi=>⟨i,by simp[X,hi],oG,oG⟩,fun i hi=>by simp[X,Nat.not_lt.2 hi],fun i i' j h1 h2=>?_,fun i r hi=>?_⟩,aj _ _ _,zL,id,fun _ _ _=>id⟩
   .simp only[X,Option.ite_none_right_eq_some,aG] at h1 h2;omega
   .have af:i<nx:=by
     rcases Nat.lt_or_ge i nx with h1|h1
     .exact h1
     .rw[K2 i h1] at hi;cases hi
    exact⟨i,by simp[X,af],by rw[aA _ _ (show i≠nx by omega),hi];rfl⟩
  .rintro e w6 ⟨v,d6,m6,NS,β6,rfl,EF,p8,hn6,_,lb,aiZ,MV⟩
   have fin:∀ {g:Nat->Option Nat} {mc:Mem} {nc:Nat} (o':Obj),View nx nx g mc nc m6 NS->
    eB P F ⟨env,mc,nc⟩ (β6.via g) (w6.putObj (w.heap.size+1) o') { a with defers:=[mark w.heap.size]++a.defers }/\
    pv N₀ β₀ w₀ a₀ ⟨env,mc,nc⟩ (β6.via g) (w6.putObj (w.heap.size+1) o') { a with defers:=[mark w.heap.size]++a.defers }:=fun {g mc nc} o' J=>by
    obtain⟨tU,kH⟩:=J.enter p8
    have sG:hidden F β6 g (w.heap.size+1):=by
     have hβ:β6 nx=some (.raw (w.heap.size+1))\/β6 nx=some .dead:=lb.keep nx _ (aj _ _ _);rcases hβ with hβ|hβ
     .exact(J.wC p8 (fun i e=>(J.mJ e).2.2 rfl) hβ rfl).2
     .exfalso;rcases EF with⟨_,f',NT,gM,_,zq,_,_⟩|⟨c,f',NT,gM,_,zq,_⟩
      .rw[(p8.qE zq).1] at hβ;cases hβ
      .rw[(p8.qE zq).1] at hβ;cases hβ
    refine⟨⟨fun t=>((own J lb (hs.e t)).pd sG o').og fun b hb=>.inl hb,(tU.pd sG vM o').og (fun b hb=>.inl hb) fun t ht=>(hs.m.fb.mQ t ht).1,kH⟩,cu.trans ⟨⟨?_,fun b hb hf=>?_,fun i p hp=>?_,(nC.out.trans lb.out).trans ⟨rfl,rfl⟩⟩,J.low,fun i hi hb=>?_,rfl,[mark w.heap.size],rfl,?_⟩⟩
    .have:=lb.size;simp;omega
    .obtain⟨g1,g2⟩:=nC.de b hb hf;obtain⟨g3,g4⟩:=lb.de b oG g2;exact⟨(World.putObj_heap_other oG).trans (g3.trans g1),aE.pH g4 _⟩
    .have hi:i<nx:=by
      rcases Nat.lt_or_ge i nx with h1|h1
      .exact h1
      .rw[hn i h1] at hp;cases hp
     simp only[aE.via,J.id i hi,Option.bind_some];exact(nC.trans lb).keep i p hp
    .have hi:i<nx:=hi;simp only[aE.via,J.id i hi,Option.bind_some];exact MV i oG (by rw[aA _ _ oG];exact hb)
    .refine⟨w.heap.size,rfl,aZ _,?_,?_,?_,trivial⟩
     .have:=lb.size;simp;omega
     .exact(World.putObj_heap_other oG).trans ((lb.de _ oG DT).1.trans NN)
     .exact aE.pH (lb.de _ oG DT).2 _
   rcases EF with⟨_,g,mc,nc,J,eN,hI,_⟩|⟨c,g,mc,nc,J,eN,hj⟩
   .have dn:(Instr.endLoop (w.heap.size+1)).run P w6=.ok none (w6.putObj (w.heap.size+1) (.loop (C .exhausted none))):=by
     have:=run_endLoop (P:=P) (p8.qE eN).2.1 (by rw[la];simp);rw[la] at this ⊢;exact this
    obtain⟨g1,g2⟩:=fin (.loop (C .exhausted none)) J;exact⟨none,_,dn,⟨env,mc,nc⟩,_,y3 mc nc hI,g1,g2⟩
   .have dn:(Instr.endLoop (w.heap.size+1)).run P w6=.ok (some c) (w6.putObj (w.heap.size+1) (.loop (C .exhausted (some c)))):=by
     have:=run_endLoop (P:=P) (p8.qE eN).2.1 (by rw[la];simp);rw[la] at this ⊢;exact this
    obtain⟨g1,g2⟩:=fin (.loop (C .exhausted (some c))) J;refine⟨some c,_,dn,?_⟩;cases c with
    |ret=>exact wpIn_ret ⟨⟨env,mc,nc⟩,_,hj,g1,g2⟩
    |exit id=>exact wpIn_exit ⟨⟨env,mc,nc⟩,_,hj,g1,g2⟩
    |_=>exact hj.elim
 |_=>exact fun F n Y N₀ β₀ w₀ a₀ hY af Q st β w a h hs cu=>Gf iC _ F none n Y true N₀ β₀ w₀ a₀ (fun _=>rfl) hY af Q st β w a h hs cu
theorem acq(iC:P.follows .mixedOrders=true){Y:ej}{f:FuncId}{c:Code}(hf:P.funcs[f]? =some fn)(hb:fn.body=some c)(af:gV fn.ntmps c=true){args:List D}(hn:Nat.ble args.length fn.ntmps=true){m:Mem}{nx:Nat}{K:D->St->Prop}
 (h:AX P Y c (iD P fn.results.toList K) ⟨iX args,m,nx⟩) {β:aE} {w:World} {vs:Array Value} (hY:∀ l args m nx K,Y l args m nx K->nX P F β w l args m nx K) (hm:aJ P F m β w) (cF:∀ i,nx<=i->β i=none) (C:Rs F β w args vs):
 Calls P f vs w fun e w'=>∃ v d st' β',e=.returned v/\K d st'/\R F β' w' d v/\aJ P F st'.mem β' w'/\(∀ i,st'.nx<=i->β' i=none)/\Step β w β' w'/\nx<=st'.nx/\∀ i,i<nx->β i=none->β' i=none:=by
 have hle:args.length<=fn.ntmps:=by simpa using hn
 refine(callsIn_wide (n:=0)).1 (callsIn_of_wp_marks hf hb trivial ?_)
 have bD:(vs++Array.replicate (fn.ntmps - vs.size) undef).size=fn.ntmps:=by
  simp only[Array.size_append,Array.size_replicate,C.1];omega
 let a₀:Act:={ tmps:=vs++Array.replicate (fn.ntmps - vs.size) undef,defers:=[] }
 have hE:ia F β w (iX args) a₀:=fun t=>by
  unfold iX;rcases Nat.lt_or_ge t args.length with af|bm
  .have h1:args.getD t .u=args[t]:=by simp[af]
   have h2:a₀.tmps.getD t undef=vs[t]'(by rw[C.1];exact af):=by
    show(vs++Array.replicate (fn.ntmps - vs.size) undef).getD t undef=_;have U:t<vs.size:=by rw[C.1];exact af
    simp[Array.getD_eq_getD_getElem?,Array.getElem?_append_left U,U]
   rw[h1,h2];exact C.2 t _ _ (by simp[af]) (by simp[C.1,af])
  .have h1:args.getD t .u=.u:=by simp[bm]
   rw[h1];exact .u _
 have:=acp iC c F 0 Y nx β w a₀ hY (by show gV (vs++Array.replicate (fn.ntmps - vs.size) undef).size c=true;rw[bD];exact af) _ ⟨iX args,m,nx⟩ β w a₀ h ⟨hE,hm,cF⟩ (gk.refl ⟨iX args,m,nx⟩ β w a₀).zI;refine wpIn_mono this fun e a' w' hp=>?_;obtain⟨st',β',hq,cQ,J⟩:=hp
 have X:(ov P st' fn.results.toList [] fun ds=>K (qP ds) st')->LeavesInM (Fe none) 0 P fn a'.tmps (fun e w'=>∃ v d st' β',e=.returned v/\K d st'/\R F β' w' d v/\aJ P F st'.mem β' w'/\(∀ i,st'.nx<=i->β' i=none)/\Step β w β' w'/\nx<=st'.nx/\∀ i,i<nx->β i=none->β' i=none) a'.defers .returning w':=fun hq=>by
  obtain⟨ds,h1,h2⟩:=J.defers;rw[h1,show a₀.defers=[] from rfl,List.append_nil];refine JF ds _ w' h2 cQ J.step fun w'' M Mf=>?_;obtain⟨v,d,g1,g2,g3⟩:=PG (K:=fun d=>K d st') M hq;exact⟨v,g1,v,d,st',β',rfl,g2,g3,M.m,M.n,Mf,J.le,J.grow⟩
 cases e with
 |normal=>exact X hq
 |ret=>exact X hq
 |_=>exact hq.elim
theorem acr(X:P.follows .mixedOrders=true){f:FuncId}{c:Code}(hf:lX P f fn c){args:List D}(hn:Nat.ble args.length fn.ntmps=true)(ht:∀ a∈args,Tr a){r:D}(hr:Tr r)
 (h:AX P c8 c (iD P fn.results.toList fun d _=>d=r) ⟨iX args,fun _=>none,0⟩):aB P f args r:=
 ⟨hf.he,ht,fun F w vs M U=>(acq X hf.hf hf.hb hf.af hn h (fun _ _ _ _ _ h=>h.elim) (F6 M) (fun _ _=>rfl) U).mono fun e w' hp=>by
  obtain⟨v,d,st',β',h1,rfl,C,h4,h5,J,h7,h8⟩:=hp
  exact⟨v,h1,hr.BB C,FN J⟩⟩
end
end Go.Abs
section
open Go Go.Abs Go.Proofs Go.Argus
namespace Go.Argus
def fQ(x:PW):List D:=[I x.1.1,I x.1.2,aT (ao x.2)]
@[simp] theorem Qq (x : PW) : (fQ x).length = 3 := rfl
theorem Gb:∀ l:List PW,(l.flatMap fQ).length=l.length*3
 |[]=>rfl
 |x::l=>by rw[List.flatMap_cons,List.length_append,Gb l,Qq,List.length_cons];omega
theorem Qr(pre O:List PW):((pre++O).flatMap fQ).drop (pre.length*3)=O.flatMap fQ:=by
 rw[List.flatMap_append, <- Gb pre,List.drop_left]
theorem Kj{X:Nat->Prop}(x:PW):∀ d∈fQ x,fR X d:=fun d hd=>by
 simp only[fQ,List.mem_cons,List.not_mem_nil,or_false] at hd;rcases hd with rfl|rfl|rfl<;>first|exact .s _|exact .sl _ _
def o8(p:Nat×Nat):Value:=.agg #[.int .i64 p.1,.int .i64 p.2]
def mN(S:List (Nat×Nat)):List (Value×D):=S.map fun p=>(o8 p,B true)
theorem JY{X:Nat->Prop}(S:List (Nat×Nat)):my X (.map (mN S)):=fun i cs sz _=>by
 simp[Row.sub,mN,sub,pW,cM]
def D8(x:PW):List D:=[.agg [I x.1.1,I x.1.2],aT (ao x.2)]
def kF(n:Nat)(a:Int):Bool:=decide (0<=a)&&decide (a<n)
theorem Lr{α:Type}{p:α->Bool}:∀ {l:List α} {k:Nat} {x:α},l[k]? =some x->p x=true->(∀ j y,j<k->l[j]? =some y->p y=false)->l.find? p=some x
 |[],k,x,h,_,_=>by simp at h
 |y::l,0,x,h,hp,_=>by
  simp only[List.getElem?_cons_zero,aG] at h;subst h;simp[hp]
 |y::l,k+1,x,h,hp,hj=>by
  have:=hj 0 y oG rfl;rw[List.find?_cons,this];exact Lr (by simpa using h) hp fun j C J hz=>hj (j+1) C oG (by simpa using hz)
def qu(l:List ai)(a b:Int):List D:=
 if(dh l).2=0 then(if kF l.length a&&kF l.length b then(match HH (cE l) (aV l) a.toNat b.toNat with
  |some x=>[aT (ao x.2),B true,I 0]
  |none=>[.z,B false,I 0]) else [.z,B false,I 1]) else [.z,B false,I (dh l).2]
theorem aa'(l:List ai)(a b:Int):∀ d∈qu l a b,Tr d:=by
 unfold qu;split
 .split
  .split
   .exact .cons (di _) (.cons (.s _) (.cons (.s _) .nil))
   .exact .cons .z (.cons (.s _) (.cons (.s _) .nil))
  .exact .cons .z (.cons (.s _) (.cons (.s _) .nil))
 .exact .cons .z (.cons (.s _) (.cons (.s _) .nil))
def iS(l:List ai)(keep:List ByteArray)(i:Nat):Bool:=keep.any fun x=>((l.map fun f:ai=>f.name).getD i (⟨#[]⟩:ByteArray)).toList==x.toList
def fe(l:List ai)(i:Nat):ByteArray:=(l.map fun f:ai=>f.name).getD i (⟨#[]⟩:ByteArray)
def mK(n:Nat)(f:Nat->Bool)(g:Nat->ByteArray):Mem:=br [(1,.cells ((range n).map fun i=>B (f i)) 4),(2,.cells [.rs 1 0 n] 92),(3,.cells ((range n).map fun i=>S (g i)) 9)]
theorem Sc{n:Nat}{f f':Nat->Bool}{g g':Nat->ByteArray}(hf:∀ i,i<n->f i=f' i)(hg:∀ i,i<n->g i=g' i):mK n f g=mK n f' g':=by
 unfold mK;have e1:((range n).map fun i=>B (f i))=(range n).map fun i=>B (f' i):=List.map_congr_left fun i hi=>by rw[hf i (List.mem_range.1 hi)]
 have e2:((range n).map fun i=>S (g i))=(range n).map fun i=>S (g' i):=List.map_congr_left fun i hi=>by rw[hg i (List.mem_range.1 hi)]
 rw[e1,e2]
theorem Gr{P:Program}{env:Env}{m:Mem}{nx n:Nat}{f:Nat->Bool}{g:Nat->ByteArray}{l:List (Nat×D)}(he:lN l env)(h1:m 1=some (.cells ((range n).map fun i=>B (f i)) 4))(h2:m 2=some (.cells [.rs 1 0 n] 92))(C:m 3=some (.cells ((range n).map fun i=>S (g i)) 9)):
 aH P ⟨env,m,nx⟩ ⟨ax l,mK n f g,nx⟩:=cn he ⟨h1,h2,C,trivial⟩
theorem ZQ{α:Type}{n y:Nat}(g:Nat->α)(h:y<n):∃ cs,((range n).map g).drop y=g y::cs:=by
 rw[List.drop_eq_getElem_cons (by simpa using h)];simp only[List.getElem_map,List.getElem_range];exact⟨_,rfl⟩
theorem aba{α:Type}{p:α->Bool}{l:List α}{y:α}(h:l.find? p=some y):∃ k:Nat,l[k]? =some y/\nt p l=k:=by
 obtain⟨hp,k,hk,he,hj⟩:=List.find?_eq_some_iff_getElem.1 h;have hx:l[k]? =some y:=by rw[aL hk,he]
 exact⟨k,hx,yp hx hp fun j J C hz=>by
  have:=hj j C;obtain⟨h1,rfl⟩:=bI.1 hz
  simpa using this⟩
end Go.Argus
namespace Go.Abs
theorem aep{P:Program}{env:Env}{m:Mem}{nx:Nat}{t:TypeId}{x y:Operand}{k:IntKind}{j off l sz:Nat}{e:TypeId}{r:Row}(hx:(opd env x).core=.rs j off l)(hy:(opd env y).core=.s (.int k 0))(hm:m j=some r)(he:aF P t=e)(hs:P.cellsOf e=sz):
 Ef P (.indexAddr t x y) env m nx ⟨bi P t=true/\0<l,.rp j off,[],[j],0⟩:=by
 have h:=Hu (P:=P) (env:=env) (m:=m) (nx:=nx) (t:=t) hx hy hm he hs;have h1:off+(0:Int).toNat*sz=off:=by simp
 have h2:(bi P t=true/\(0:Int)<=0/\(0:Int)<l)=(bi P t=true/\0<l):=by
  simp
 rw[h1,h2] at h;exact h
end Go.Abs
namespace Go.Proofs.Tryz.K
theorem ag6:vd prog 121=some [0,0]:=kr
theorem ag7:prog.eqGuardType prog.depth 121=false:=kr
theorem ag8:mB prog (lW prog 172)=B false:=kr
theorem aeq(C J a b:Nat):gn [.int .i64 C,.int .i64 J] [.int .i64 a,.int .i64 b]=decide ((C,J)=(a,b)):=by
 rw[Bool.eq_iff_iff];simp[gn,pY];omega
theorem aer{P:Program}{d:Nat}{fs:List Field}{cs:List Value}{G:Nat×Nat->Option (List Lit)}{ts:List (Nat×Nat)}(h:fs.map (fun f=>(f.type,f.offset))=ts)(C:∀ t o,G (t,o)=P.keyLits d t ((cs.drop o).take (P.cellsOf t))):
 fs.mapM (fun f=>P.keyLits d f.type ((cs.drop f.offset).take (P.cellsOf f.type)))=ts.mapM G:=by
 rw[<- h,List.mapM_map];congr 1;funext f;exact(C _ _).symm
theorem VT(d:Nat){a:Int}(h: -9223372036854775808<=a/\a<=9223372036854775807):prog.keyLits (d+1) 3 [.int .i64 a]=some [.int .i64 a]:=by
 have u3:prog.underlying 3=some (.int .i64):=kr
 have C:(Lit.int .i64 a).wf=true:=by
  have e1:IntKind.i64.min= -9223372036854775808:=kr;have e2:IntKind.i64.max=9223372036854775807:=kr;simp[Lit.wf,e1,e2,h]
 simp only[Program.keyLits,u3,C,and_self,if_true]
theorem U2:∃ fs:Array Field,prog.underlying 121=some (.struct fs)/\prog.cellsOf 121=2/\fs.all (·.name !="_")=true/\fs.toList.map (fun f=>(f.type,f.offset))=[(3,0),(3,1)]:=
 ⟨match prog.underlying 121 with|some (.struct fs)=>fs|_=> #[],by kernel_rfl,by kernel_rfl,by kernel_rfl,by kernel_rfl⟩
theorem ag9(d:Nat){a b:Int}(h: -9223372036854775808<=a/\a<=9223372036854775807)(h': -9223372036854775808<=b/\b<=9223372036854775807):prog.keyLits (d+2) 121 [.int .i64 a,.int .i64 b]=some [.int .i64 a,.int .i64 b]:=by
 obtain⟨fs,hu,hc,hn,hf⟩:=U2;have c3:prog.cellsOf 3=1:=kr;unfold Program.keyLits;simp only[hu];rw[if_pos ⟨by rw[hc];rfl,hn⟩,aer (G:=fun p=>prog.keyLits (d+1) p.1 (([.int .i64 a,.int .i64 b].drop p.2).take (prog.cellsOf p.1))) hf fun _ _=>by dsimp only];simp[c3,VT d h,VT d h']
theorem akD:∃ d,prog.types.size+1=d+2:=⟨prog.types.size - 1,by
 have:Nat.ble 1 prog.types.size=true:=kr;have:=bJ this
 omega⟩
theorem LV(p:Nat×Nat)(h:p.1<=1000000/\p.2<=1000000):cL prog 121 (o8 p)=true:=by
 obtain⟨fs,hu,hc,_,_⟩:=U2;have hk:prog.keyType 121=true:=kr;obtain⟨d,hd⟩:=akD;simp only[cL,o8,hu,keyOf,hk,Value.formed,hc,hd];have:=ag9 d (a:=p.1) (b:=p.2) oG oG;simp[Value.cells,this]
theorem U3{S:List (Nat×Nat)}(h:∀ p∈S,p.1<=1000000/\p.2<=1000000):(mN S).all (fun e=>cL prog 121 e.1)=true:=by
 refine bS.2 fun e he=>?_;obtain⟨x,hx,rfl⟩:=List.mem_map.1 he;exact LV x (h x hx)
theorem aes(p q:Nat×Nat):lx (o8 p) (o8 q)=decide (p=q):=by
 rw[Bool.eq_iff_iff];simp[o8,lx,gn,pY,Prod.ext_iff];omega
theorem LW(q:Nat×Nat):∀ S:List (Nat×Nat),(cT (o8 q) (mN S)).map (·.2)=if q∈S then some (B true) else none
 |[]=>rfl
 |p::S=>by
  have ih:=LW q S;have e1:mN (p::S)=(o8 p,B true)::mN S:=rfl;rw[e1];simp only[cT];rw[aes];by_cases h:p=q
  .subst h;simp
  .have h':¬ q=p:=fun e=>h e.symm;simp only[decide_eq_false h,Bool.false_eq_true,if_false,Option.map_map,List.mem_cons,h',false_or];rw[<- ih];rfl
theorem ag'(q:Nat×Nat)(S:List (Nat×Nat)):fH prog 172 false (cT (o8 q) (mN S))=B (decide (q∈S)):=by
 have h:=LW q S;by_cases hq:q∈S
 .rw[if_pos hq] at h;cases hl:cT (o8 q) (mN S) with
  |none=>rw[hl] at h;cases h
  |some x=>
   rw[hl] at h;simp only[Option.map_some,aG] at h;rw[decide_eq_true hq];simp[fH,h]
 .rw[if_neg hq] at h;cases hl:cT (o8 q) (mN S) with
  |none=>rw[decide_eq_false hq];simp[fH,ag8]
  |some x=>rw[hl] at h;cases h
theorem aha{q:Nat×Nat}{S:List (Nat×Nat)}(h:q∉S):gp (o8 q) (B true) (mN S)=mN (S++[q]):=by
 have h1:=LW q S;rw[if_neg h] at h1;unfold gp;cases hl:cT (o8 q) (mN S) with
 |none=>simp[mN]
 |some x=>rw[hl] at h1;cases h1
theorem OL{l:List ai}{sh:List ByteArray}{ca:List (List Int)}{a b:Int}:aB prog 71 [.agg (cW l sh ca),.agg [I a,I b]] (.fn (.func 114) [] [.pt [I a,I b],.pt (cW l sh ca)]):=by
 have t1:∀ d∈[I a,I b],Tr d:=.cons (.s _) (.cons (.s _) .nil);have t2:=Gn l sh ca;refine bj akE (.cons (.agg t2) (.cons (.agg t1) .nil)) (.fn oS (.cons (.pt t1) (.cons (.pt t2) .nil))) ?_;rw[akF];refine aw ?_;refine eM (tu (cs:=cW l sh ca) rfl) aK (by first|rfl|exact sW eO bN|exact oz _|exact vg sJ) ?_;refine eM (tu (cs:=[I a,I b]) rfl) aK (by first|rfl|exact sW eO bN|exact oz _|exact vg sJ) ?_;refine av (jS (v:=.s .nilFunc) rfl) ak trivial ?_;refine aa (bH (dA [(0,cW l sh ca,82),(1,[I a,I b],121)] eH (l:=[(2,.pt (cW l sh ca)),(3,.pt [I a,I b])]) eH) (ag ?_));refine SS ?_;refine av (jS (v:=.fn _ _ _) rfl) ak trivial ?_;exact aa (aD rfl rfl)
structure WS where
 k:Nat
 S:Nat->Prop
 m:Mem
 nx:Nat
 j:Nat
 pre:List PW
 seen:List (Nat×Nat)
 O:List PW
structure WI(I':(Nat->Prop)->Mem->Nat->Prop)(r:Nat)(s:WS):Prop where
 inv:I' s.S s.m s.nx
 slt:∀ i,s.S i->i<s.nx
 sr:s.S r
 sj:s.S s.j
 ne:s.j≠r
 aoY:s.m r=some (.map (mN s.seen))
 aoZ:s.m s.j=some (.cells ((s.pre++s.O).flatMap fQ) 174)
structure WP(sn:List Nat)(ca:List (List Nat))(fr:Nat×Nat)(wsq:List PW)(k:Nat)(seen:List (Nat×Nat))(O pre:List PW):Prop where
 go:∃ Y f,wsq=Y++tz sn ca fr f (seen,O)/\Y.length=k/\BI sn ca fr Y seen O/\ca.length*ca.length<f+k
 len:∀ y∈O,y.2.length<=seen.length
 pre:pre.length<=k
theorem WP.next{sn:List Nat}{ca:List (List Nat)}{fr:Nat×Nat}{wsq:List PW}{k:Nat}{seen C:List (Nat×Nat)}{x:PW}{O J pre M:List PW}(af:∀ w p,tP sn ca fr w p->p.1<ca.length/\p.2<ca.length)(h:WP sn ca fr wsq k seen (x::O) pre)
 (hn:w8 sn ca fr (seen,x::O)=(C,J)) (hl:∀ y∈J,y.2.length<=C.length) (hp:M.length<=k+1):WP sn ca fr wsq (k+1) C J M/\wsq[k]? =some x:=by
 obtain⟨⟨Y,f,h1,h2,U,h4⟩,_,_⟩:=h;have:=HG U af;simp only[List.length_cons] at this;obtain⟨f,rfl⟩:∃ g,f=g+1:=⟨f - 1,oG⟩
 have e:tz sn ca fr (f+1) (seen,x::O)=x::tz sn ca fr f (w8 sn ca fr (seen,x::O)):=rfl;have X:=Tg U;rw[e,hn] at h1;rw[hn] at X;refine⟨⟨⟨Y++[x],f,by rw[h1];simp,by simp[h2],X,oG⟩,hl,hp⟩,?_⟩;rw[h1, <- h2,List.getElem?_append_right (aZ _)];simp
theorem WP.end{sn:List Nat}{ca:List (List Nat)}{fr:Nat×Nat}{wsq:List PW}{k:Nat}{seen:List (Nat×Nat)}{pre:List PW}(h:WP sn ca fr wsq k seen [] pre):wsq.length=k:=by
 obtain⟨⟨Y,f,h1,h2,C,J⟩,_,_⟩:=h;rw[h1];cases f<;>simp[tz,h2]
theorem Sb{ca:List (List Nat)}{fr p:Nat×Nat}{x:PW}{S:List (Nat×Nat)}{O:List PW}{k:Nat}(hp:o9 ca x.1 k=p)(h:¬ (p≠fr/\p∉S)):w9 ca fr x (S,O) k=(S,O):=by
 unfold w9;rw[hp,if_neg h]
theorem aa8{ca:List (List Nat)}{fr p:Nat×Nat}{x:PW}{S:List (Nat×Nat)}{O:List PW}{k:Nat}(hp:o9 ca x.1 k=p)(h1:p≠fr)(h2:p∉S):w9 ca fr x (S,O) k=(S++[p],O++[(p,x.2++[k])]):=by
 unfold w9;rw[hp,if_pos ⟨h1,h2⟩]
def Xm(l:Nat)(fl:List ai)(sh:List ByteArray)(ca:List (List Nat))(a b r:Nat)(s:WS):St:=
 ⟨ax [(0,.fn (.yield l) [] []),(1,.pt [I a,I b]),(2,.pt (cW fl sh (ca.map ao))),(4,.mp r),(5,.rs s.j (s.pre.length*3) s.O.length)],s.m,s.nx⟩
theorem akG{fl:List ai}{sh:List ByteArray}{ca:List (List Nat)}{a b:Nat}(mb:sh.length=ca.length)(hN:ca.length<=1000)(gD:xm ca)(hlen:Ms (bl sh) ca)(ha:a<ca.length)(hb:b<ca.length)(cR:∀ x∈ca,x.length<=100000):
 Iw prog 114 [] [.pt [I a,I b],.pt (cW fl sh (ca.map ao))] ((qL (bl sh) ca a b).map D8):=by
 refine aec mixed ahb kr fun l I' Stop m nx hI hF El h0=>?_;rw[ahc];refine ws ?_;refine ab ?_;refine aa (aw ?_);refine aY ?_;generalize fI:bl sh=sn at*
 have af:∀ w p,tP sn ca (a,b) w p->p.1<ca.length/\p.2<ca.length:=fun w p=>Lp gD hlen ha hb;refine aa ?_;have iF:aT (ao [])=.sl [] 0:=rfl
 refine(jh (α:=WS) (Xm l fl sh ca a b nx)
  (fun s=>WI (I' s.k) nx s/\WP sn ca (a,b) (qL sn ca a b) s.k s.seen s.O s.pre) (fun s=>(qL sn ca a b).length - s.k) ⟨0,fun i=>i=nx\/i=nx+1,up (up m nx (some (.map []))) (nx+1) (some (.cells (fQ ((a,b),[])) 174)),nx+2,nx+1,[],[],[((a,b),[])]⟩
  ((au (l:=[(0,.fn (.yield l) [] []),(1,.pt [I a,I b]),(2,.pt (cW fl sh (ca.map ao))),(4,.mp nx),(5,.rs (nx+1) 0 1)]) eH).trans (.og _ _ _ _ _ (fun _ _ _ _ _ h=>h) fun i=>?_))
  ⟨⟨hI 0 _ m nx (fun i=>i=nx\/i=nx+1) (up (up m nx (some (.map []))) (nx+1) (some (.cells (fQ ((a,b),[])) 174))) (nx+2) h0 oG (fun i hi _=>ah oG (ah oG rfl)) fun i hi=>.inr oG,fun i hi=>by dsimp only at hi ⊢;omega,.inl rfl,.inr rfl,oM,ah oG (aj _ _ _),aj _ _ _⟩,⟨⟨[],ca.length*ca.length+2,rfl,rfl,?_,oG⟩,fun y hy=>?_,aZ _⟩⟩ ?_)
 .by_cases hi:i=nx+1
  .subst hi;refine .inr ⟨_,fQ ((a,b),[]),174,aj _ _ _,aj _ _ _,rfl,fun k d d' hd fm=>?_⟩
   match k with
   |0=>cases hd;cases fm;exact fun _ _ _ _ h=>h
   |1=>cases hd;cases fm;exact fun _ _ _ _ h=>h
   |2=>cases hd;cases fm;exact B7
   |k+3=>cases hd
  .exact .inl ((aA _ _ hi).trans (aA _ _ hi).symm)
 .refine⟨fun x hx=>?_,rfl,oS,oS,fun x hx y hy=>?_,fun x hx=>by simp at hx⟩
  .simp only[List.nil_append,List.mem_cons,List.not_mem_nil,or_false] at hx;subst hx;exact .nil
  .simp only[List.mem_cons,List.not_mem_nil,or_false] at hx hy;subst hx hy;omega
 .simp only[List.mem_cons,List.not_mem_nil,or_false] at hy;subst hy;exact aZ _
 .rintro⟨k,S,m,C,j,pre,seen,O⟩ ⟨⟨hinv,qV,uk,um,aC,kZ,ap⟩,CJ⟩;dsimp only at hinv qV uk um aC kZ ap CJ;obtain⟨⟨Yd,f,oJ,hYk,hB,hf⟩,U4,sg⟩:=id CJ;unfold Xm;dsimp only;have dt:=HG hB af;have hNN:ca.length*ca.length<=1000000:=Nat.mul_le_mul hN hN;refine ay ?_;refine aa ⟨_,rfl,fun h=>?_,fun h=>?_⟩
  .cases O with
   |nil=>simp at h
   |cons x O=>
    clear h
    have hd:(((pre++x::O).flatMap fQ).drop (pre.length*3)).take 3=fQ x:=by
     rw[Qr,List.flatMap_cons];exact List.take_left' (Qq x)
    refine aw ?_;refine SS ?_;refine av (aep rfl rfl ap Cb vF) aK ⟨BM,oS⟩ ?_;refine av (fz rfl ap VV vF hd) aK (fA t174 vF (by rw[Gb];simp;omega)) ?_;refine eM (GB IE) aK t174 ?_;refine bQ (fM rfl rfl (aj _ _ _) rfl) aK (cw t174 vF oS (by rfl)) ?_;obtain⟨U,sO⟩:∃ U:Nat->Prop,U=fun i=>S i\/i=C:=⟨_,rfl⟩
    have mT:=qV _ um;have wj:=qV _ uk;have afr:∀ y∈O,y.2.length<=seen.length:=fun y hy=>U4 y (List.mem_cons_of_mem _ hy)
    have VW:(qL sn ca a b)[k]? =some x:=by
     obtain⟨⟨Y,f,h1,h2,h3,h4⟩,_,_⟩:=CJ;obtain⟨f,rfl⟩:∃ g,f=g+1:=⟨f - 1,by simp at dt;omega⟩
     rw[h1, <- h2,List.getElem?_append_right (aZ _)];simp[tz]
    have Xn:((qL sn ca a b).map D8)[k]? =some (D8 x):=by rw[List.getElem?_map,VW];rfl
    have gC:k<(qL sn ca a b).length:=(bI.1 VW).1;obtain⟨m2,iM⟩:∃ m2,m2=up (up m C (some (Row.cells [D.s (Value.int IntKind.i64 0),D.s (Value.int IntKind.i64 0),D.z] 174))) C (some (Row.cells (fQ x) 174)):=⟨_,rfl⟩
    have pr:∀ i,i≠C->m2 i=m i:=fun i hi=>by rw[iM,aA _ _ hi,aA _ _ hi]
    have akH:m2 C=some (Row.cells (fQ x) 174):=by rw[iM];exact aj _ _ _
    have xr:U nx:=by rw[sO];exact .inl uk
    have zz:U j:=by rw[sO];exact .inl um
    have zc:∀ i,U i->i<C+1:=fun i hi=>by
     rw[sO] at hi;rcases hi with hi|hi
     .have:=qV i hi;omega
     .omega
    have BN:I' k U (df C (fQ x) (prog.cellsOf 174) m2) (C+1):=hF k U m2 (C+1) C _ (by rw[sO];exact .inr rfl) (hI k S m C U m2 (C+1) hinv oG (fun i hi _=>pr i oG) fun i hi=>by
     rw[sO] at hi;rcases hi with hi|hi
     .exact .inl hi
     .exact .inr oG)
    have wM:df C (fQ x) (prog.cellsOf 174) m2 nx=some (.map (mN seen)):=iv ((pr nx oG).trans kZ) oG (JY seen);have r3:df C (fQ x) (prog.cellsOf 174) m2 j=some (.cells ((pre++x::O).flatMap fQ) 174):=iv ((pr j oG).trans ap) oG (Db Kj _);refine aa ⟨⟨ax [(0,.fn (.yield l) [] []),(1,.pt [I a,I b]),(2,.pt (cW fl sh (ca.map ao))),(4,.mp nx),(5,.rs j (pre.length*3) (x::O).length),(6,.pt (fQ x))],df C (fQ x) (prog.cellsOf 174) m2,C+1⟩,?_,?_⟩
    .subst iM;exact mi (i:=C) (cs:=fQ x) (e:=174) (aj _ _ _) ⟨rfl,rfl,rfl,rfl,if_neg oG,if_pos rfl,trivial⟩
    clear akH pr iM kZ ap hinv qV uk um;generalize df C (fQ x) (prog.cellsOf 174) m2=m at*
    refine az (ag ?_);refine bw ?_;refine M8 rfl rfl aK ⟨rfl,k,U,Xn,zc,BN,fun d m' al hp=>?_⟩;obtain⟨hp,B6,jY⟩:=hp;rcases hp with⟨rfl,hp⟩|⟨rfl,hp⟩
    .refine SS ?_;refine aa (cA rfl (fun h=>oH) fun h=>?_);have kZ:=(jY nx xr).trans wM;have ap:=(jY j zz).trans r3;clear jY wM r3;obtain⟨Aw,CK⟩:=af _ _ (hB.lead x oS);obtain⟨sa,Fu⟩:∃ sa,sh[x.1.1]? =some sa:=⟨_,aL oG⟩
     obtain⟨sb,CL⟩:∃ sb,sh[x.1.2]? =some sb:=⟨_,aL oG⟩
     have ld:(sn.getD x.1.1 0=sn.getD x.1.2 0)↔sa=sb:=by
      have:=A1 Fu CL;rw[fI] at this;rw[<- this];have l1:x.1.1<sn.length:=by rw[<- fI];simpa using(by omega:x.1.1<sh.length)
      have l2:x.1.2<sn.length:=by rw[<- fI];simpa using(by omega:x.1.2<sh.length)
      rw[dQ (d:=0) l1,dQ (d:=0) l2,aG]
     have ao0:(ca.map ao)[x.1.1]? =some (ao (ca.getD x.1.1 [])):=by rw[List.getElem?_map,dQ (d:=[]) Aw];rfl
     have ao1:(ca.map ao)[x.1.2]? =some (ao (ca.getD x.1.2 [])):=by rw[List.getElem?_map,dQ (d:=[]) CK];rfl
     refine cm (az (dV aa9 ?_));refine bh ?_;refine cz ?_;refine cq cx (cA rfl (fun h=>?_) fun h=>?_)
     .have akI:=aC
      have aC:¬ sn.getD x.1.1 0=sn.getD x.1.2 0:=fun e=>by
       rw[ld] at e;subst e;simp at h
      refine uv (HA ?_);refine SS ?_;refine av (Gj rfl ap Cb vF (a:=1) (b:=((x::O).length:Nat)) rfl rfl) aK ⟨⟨BM,rfl⟩,oG,by rw[List.length_cons];omega,Int.le_refl _⟩ ?_;refine av (jS (v:=.rs _ _ _) rfl) aK trivial ?_;refine aa (bf ⟨k+1,U,m',al,j,pre++[x],seen,O⟩ (au ⟨rfl,rfl,rfl,rfl,?_,trivial⟩) ⟨⟨hp,fun i hi=>by have:=zc i hi;dsimp only;omega,xr,zz,akI,kZ,by rw[List.append_assoc];exact ap⟩,(CJ.next af (by unfold w8;simp only[if_neg aC];rfl) afr oP).1⟩ oM);show D.rs j (pre.length*3+(1:Int).toNat*3) (((x::O).length:Int) - 1).toNat=D.rs j ((pre++[x]).length*3) O.length;congr 1
      .simp;omega
      .simp
     .have ue:sn.getD x.1.1 0=sn.getD x.1.2 0:=by
       rw[ld];have:sa.toList=sb.toList:=by simpa using h
       rw[qf,qf] at this;exact rZ this
      refine cm (aw ?_);refine bh ?_;have hcx:ao (ca.getD x.1.1 [])=ao (ca.getD x.1.1 []):=rfl;have fX:(ao (ca.getD x.1.1 [])).length=(ca.getD x.1.1 []).length:=by simp
      have ao2:(ca.getD x.1.2 []).length=(ca.getD x.1.1 []).length:=(hlen _ _ Aw CK ue).symm;have Ae:(ca.getD x.1.1 []).length<=100000:=cR _ (bu (dQ (d:=[]) Aw))
      refine aa (cH (α:=Nat×WS) (fun s=>⟨ax [(0,.fn (.yield l) [] []),(1,.pt [I a,I b]),(2,.pt (cW fl sh (ca.map ao))),(4,.mp nx),(5,.rs s.2.j (s.2.pre.length*3) s.2.O.length),(6,.pt (fQ x)),(50,aT (ao (ca.getD x.1.1 []))),(51,I (ao (ca.getD x.1.1 [])).length),(52,I s.1)],s.2.m,s.2.nx⟩)
       (fun s=>WI (I' (k+1)) nx s.2/\s.1<=(ca.getD x.1.1 []).length/\pI ca (a,b) x (seen,x::O) s.1=(s.2.seen,s.2.O)/\s.2.pre.length<=k/\∀ y∈s.2.O,y.2.length<=s.2.seen.length) (fun s=>(ca.getD x.1.1 []).length - s.1) (0,⟨k+1,U,m',al,j,pre,seen,x::O⟩)
       (au eH) ⟨⟨hp,fun i hi=>by have:=zc i hi;dsimp only;omega,xr,zz,aC,kZ,ap⟩,Nat.zero_le _,rfl,sg,U4⟩ ?_)
      clear kZ ap hp Xn;rintro⟨i,⟨k2,S,m,C,j,pre,pa,O2⟩⟩ ⟨⟨hinv,qV,uk,um,aC,kZ,ap⟩,hi,hE,sg,Bo⟩;dsimp only at hinv qV uk um aC kZ ap hi hE sg Bo ⊢;obtain⟨O',xL,CM,gN,_⟩:=Lq ue (hB.lead x oS) i hi hB;rw[hE] at xL CM;dsimp only at xL CM;subst xL;have VX:=HG CM af
      have ao3:pa.length<=1000000:=by
       have:=congrArg List.length CM.qH;simp at this VX;omega
      have vT:∀ p∈pa,p.1<=1000000/\p.2<=1000000:=fun p hp=>by
       have:p∈(Yd++x::O').map (·.1):=by rw[CM.qH];exact List.mem_cons_of_mem _ hp
       obtain⟨y,hy,rfl⟩:=List.mem_map.1 this;have:=af _ _ (CM.lead y hy);omega
      refine SS ?_;refine aa ⟨_,rfl,fun h=>?_,fun h=>?_⟩
      .have eN:i<(ca.getD x.1.1 []).length:=by simpa using h
       clear h;have vU:(ao (ca.getD x.1.1 []))[i]? =some (((ca.getD x.1.1 []).getD i 0:Nat):Int):=by rw[List.getElem?_map,dQ (d:=0) eN];rfl
       have mU:(ao (ca.getD x.1.2 []))[i]? =some (((ca.getD x.1.2 []).getD i 0:Nat):Int):=by rw[List.getElem?_map,dQ (d:=0) oG];rfl
       refine ws ?_;refine bw ?_;refine aa (aw ?_);refine bh ?_;refine ab ?_;refine av (Gi VY U5 IF rfl rfl) aK ⟨t121,U6⟩ ?_;refine eM (GB IF) aK t121 ?_;refine bQ (fM rfl rfl (aj _ _ _) rfl) aK (cw t121 No ⟨rfl,aZ 2⟩ (by rfl)) ?_;obtain⟨U,sO⟩:∃ U:Nat->Prop,U=fun i=>S i\/i=C:=⟨_,rfl⟩
       have mT:=qV _ um;have wj:=qV _ uk;obtain⟨J,eO⟩:∃ J,J=(ca.getD x.1.1 []).getD i 0:=⟨_,rfl⟩
       obtain⟨M,Jh⟩:∃ M,M=(ca.getD x.1.2 []).getD i 0:=⟨_,rfl⟩
       have Fv:(J,M).1<=1000000/\(J,M).2<=1000000:=by
        have h1:=gD x.1.1 _ (bu (dQ (d:=0) eN));have h2:=gD x.1.2 _ (bu (dQ (d:=0) (show i<(ca.getD x.1.2 []).length by omega)));rw[<- eO] at h1;rw[<- Jh] at h2;dsimp only;omega
       have OM:pI ca (a,b) x (seen,x::O) (i+1)=w9 ca (a,b) x (pa,x::O') i:=by
        rw[<- hE];unfold pI;rw[List.range_succ,List.foldl_append];rfl
       have Mt:o9 ca x.1 i=(J,M):=by rw[eO,Jh];rfl
       obtain⟨m2,iM⟩:∃ m2,m2=up (up m C (some (Row.cells [D.s (Value.int IntKind.i64 0),D.s (Value.int IntKind.i64 0)] 121))) C (some (Row.cells [I J,I M] 121)):=⟨_,rfl⟩
       have pr:∀ i,i≠C->m2 i=m i:=fun i hi=>by rw[iM,aA _ _ hi,aA _ _ hi]
       have xr:U nx:=by rw[sO];exact .inl uk
       have zz:U j:=by rw[sO];exact .inl um
       have zc:∀ i,U i->i<C+1:=fun i hi=>by
        rw[sO] at hi;rcases hi with hi|hi
        .have:=qV i hi;omega
        .omega
       have BN:I' (k+1) U (df C [I J,I M] (prog.cellsOf 121) m2) (C+1):=hF (k+1) U m2 (C+1) C _ (by rw[sO];exact .inr rfl) (hI (k+1) S m C U m2 (C+1) hinv oG (fun i hi _=>pr i oG) fun i hi=>by
        rw[sO] at hi;rcases hi with hi|hi
        .exact .inl hi
        .exact .inr oG)
       have wM:df C [I J,I M] (prog.cellsOf 121) m2 nx=some (.map (mN pa)):=iv ((pr nx oG).trans kZ) oG (JY pa);have r3:df C [I J,I M] (prog.cellsOf 121) m2 j=some (.cells ((pre++x::O').flatMap fQ) 174):=iv ((pr j oG).trans ap) oG (Db Kj _);refine aa ⟨⟨ax [(0,.fn (.yield l) [] []),(1,.pt [I a,I b]),(2,.pt (cW fl sh (ca.map ao))),(4,.mp nx),(5,.rs j (pre.length*3) (x::O').length),(6,.pt (fQ x)),(7,I i),(9,.pt [I J,I M]),(50,aT (ao (ca.getD x.1.1 []))),(51,I (ao (ca.getD x.1.1 [])).length),(52,I i)],df C [I J,I M] (prog.cellsOf 121) m2,C+1⟩,?_,?_⟩
       .subst iM eO Jh;exact mi (i:=C) (cs:=[I ((ca.getD x.1.1 []).getD i 0:Nat),I ((ca.getD x.1.2 []).getD i 0:Nat)]) (e:=121) (aj _ _ _) ⟨rfl,rfl,rfl,rfl,if_neg oG,rfl,rfl,if_pos rfl,rfl,rfl,rfl,trivial⟩
       clear pr iM kZ ap hinv qV uk um eO Jh;generalize df C [I J,I M] (prog.cellsOf 121) m2=m at*
       refine ws ?_;refine ab ?_;refine av (Mu (c:= !decide ((J,M)=(a,b))) rfl rfl ag6 rfl (by rw[aeq])) aK ⟨rfl,ag7⟩ ?_;refine av (cY (v:=.s (.bool _)) rfl) aK trivial ?_;by_cases Ji:(J,M)=(a,b)
       .rw[decide_eq_true Ji];iterate 2 refine z fun _ _=>?_
        refine jC rfl rfl fun _ _=>?_;refine z fun _ _=>?_;refine SS ?_;refine aa (aQ rfl (fun h=>oH) fun h=>cP ?_);show aq _ _ _ _ _ _ _ _ _;refine av (H5 rfl rfl oG) aK rfl ?_;refine av (cY (v:=.s (.int _ _)) rfl) aK trivial ?_;exact aa (bf (i+1,⟨k2,U,m,C+1,j,pre,pa,x::O'⟩) (au eH) ⟨⟨BN,zc,xr,zz,aC,wM,r3⟩,oM,by rw[OM,Sb Mt (fun e=>e.1 Ji)],sg,Bo⟩ oM)
       .rw[decide_eq_false Ji];refine bc rfl rfl (cY (v:=.mp _) rfl) (fun hc=>⟨ak,trivial⟩) ?_;refine SS ?_;refine bc rfl rfl (Gk rfl wM rfl Mv (ag' (J,M) pa)) (fun hc=>⟨(by repeat' (first|exact trivial|exact hc|exact rfl|refine And.intro ?_ ?_)),⟨Mw,LV _ Fv,U3 vT⟩⟩) ?_;refine ab ?_;refine aa (aQ rfl (fun h=>ag ?_) fun h=>cP ?_)
        .have CG:(J,M)∉pa:=by simpa using h
         clear h;have hxw:x.2.length<=pa.length:=Bo x oS;have ao4:O'.length<=1000000:=by simp at VX;omega
         refine ab ?_;refine bQ (yM (key:=o8 (J,M)) (v:=B true) rfl wM rfl rfl Mv) aK ⟨Mw,LV _ Fv,U3 vT⟩ ?_;refine aa (A8 ZP ?_);rw[aha CG];refine du ?_;refine ab ?_;refine sk (afV rfl rfl rfl V.h (by rw[Ai,c3];simp)) ak ?_;refine SS ?_;refine eM (uw (cs:=[_]) Ai c3 z3 rfl rfl) aK ⟨rfl,oC,B3,oC⟩ ?_;refine Is (adX rfl Ai c3 (lE (aj _ _ _) rfl).ok (bJ rfl) B3 oS oC oC (by unfold maxLen;simp;omega) (by rw[b3];simp;omega)) aK ?_;refine av (Gi VZ U7 IE rfl rfl) aK ⟨t174,U9⟩ ?_;refine eM (uw Cb vF IE rfl rfl) aK ⟨rfl,oC,BM,oC⟩ ?_;have iz:∀ {a b c d},up (up (up (up m nx a) (C+1) b) (C+1+1) c) (C+1+1+1) d j=some (.cells ((pre++x::O').flatMap fQ) 174):=ah oG (ah oG (ah oG (ah oG r3)));refine jI (jB rfl iz rfl Cb vF (lE (aj _ _ _) rfl) rfl) aK ⟨BM,rfl,bJ rfl,oC,by rw[Gb];simp;omega,by unfold maxLen;simp;omega,by rw[V0];simp;omega,by simp;omega⟩ ?_;refine av (jS (v:=.rs _ _ _) rfl) aK trivial ?_;refine cq cx ?_;refine av (H5 rfl rfl oG) aK rfl ?_;refine av (cY (v:=.s (.int _ _)) rfl) aK trivial ?_;obtain⟨m3,Fw⟩:∃ m3,m3=up (up (up (up (up (up m nx (some (.map (mN (pa++[(J,M)]))))) (C+1) (some (.cells [I i] 3))) (C+1+1) (some (.cells ((ao x.2).map I++[I i]) 3))) (C+1+1+1) (some (.cells [I J,I M,.rs (C+1+1) 0 ((ao x.2).length+1)] 174))) j none) (C+1+1+1+1) (some (.cells (((pre++x::O').flatMap fQ).drop (pre.length*3)++[I J,I M,.rs (C+1+1) 0 ((ao x.2).length+1)]) 174)):=⟨_,rfl⟩
         refine aa (bf (i+1,⟨k2,fun q=>U q\/(C+1<=q/\q<C+1+1+1+1+1),df (C+1+1) ((ao x.2).map I++[I i]) (prog.cellsOf 3) m3,C+1+1+1+1+1,C+1+1+1+1,[],pa++[(J,M)],x::(O'++[((J,M),x.2++[i])])⟩) ?_ ⟨⟨?_,?_,?_,?_,?_,?_,?_⟩,?_,?_,?_,?_⟩ oM)
         .have hr:m3 (C+1+1)=some (.cells ((ao x.2).map I++[I i]) 3):=by rw[Fw];exact ah oG (ah oG (ah oG (aj _ _ _)))
          clear BN wM r3 iz;subst Fw;refine mi (i:=C+1+1) (cs:=(ao x.2).map I++[I i]) (e:=3) hr ⟨rfl,rfl,rfl,rfl,?_,rfl,rfl,rfl,rfl,trivial⟩;refine(AZ oG).trans ?_;show D.rs (C+1+1+1+1) 0 _=D.rs (C+1+1+1+1) 0 _;congr 1;simp
         .refine hF (k+1) _ m3 _ (C+1+1) _ (.inr oG) (hI (k+1) U m (C+1) _ m3 (C+1+1+1+1+1) BN oG (fun q hq Xo=>?_) fun q hq=>hq);have q1:q≠j:=fun e=>Xo (e▸zz);have q2:q≠nx:=fun e=>Xo (e▸xr);rw[Fw,aA _ _ oG,aA _ _ q1,aA _ _ oG,aA _ _ oG,aA _ _ oG,aA _ _ q2]
         .intro q hq;dsimp only at hq ⊢;rcases hq with hq|hq
          .have:=zc q hq;omega
          .exact hq.2
         .exact .inl xr
         .exact .inr oM
         .dsimp only;omega
         .refine iv ?_ oG (JY _);rw[Fw];exact ah oG (ah oG (ah oG (ah oG (ah oG (aj _ _ _)))))
         .have dx:=Db (X:=fun k=>k=C+1+1) Kj (x::O') (e:=174) (C+1+1) ((ao x.2).map I++[I i]) (prog.cellsOf 3) rfl;simp only[Row.sub,Row.cells.injEq,and_true] at dx;dsimp only;unfold df;rw[if_neg oG,Fw,aj];simp only[Option.map_some,Row.sub];rw[Qr,List.map_append,dx]
          have e1:([]++x::(O'++[((J,M),x.2++[i])])).flatMap fQ=(x::O').flatMap fQ++fQ ((J,M),x.2++[i]):=by
           rw[List.nil_append, <- List.cons_append,List.flatMap_append];simp
          rw[e1]
          have e2:sub (cM (C+1+1) ((ao x.2).map I++[I i]) (prog.cellsOf 3)) (.rs (C+1+1) 0 ((ao x.2).length+1))=aT (ao (x.2++[i])):=by
           rw[jR (by rw[c3];simp)];simp[aT,ao]
          have e3:∀ n:Int,sub (cM (C+1+1) ((ao x.2).map I++[I i]) (prog.cellsOf 3)) (I n)=I n:=fun _=>rfl;simp only[List.map_cons,List.map_nil,e2,e3];rfl
         .dsimp only;omega
         .dsimp only;rw[OM,aa8 Mt Ji CG];rfl
         .exact Nat.zero_le _
         .intro y hy;dsimp only at hy ⊢;rw[<- List.cons_append,List.mem_append] at hy;rw[List.length_append];rcases hy with hy|hy
          .have:=Bo y hy;omega
          .simp only[List.mem_cons,List.not_mem_nil,or_false] at hy;subst hy;simp;omega
        .have CG:(J,M)∈pa:=by simpa using h
         show aq _ _ _ _ _ _ _ _ _;refine av (H5 rfl rfl oG) aK rfl ?_;refine av (cY (v:=.s (.int _ _)) rfl) aK trivial ?_;exact aa (bf (i+1,⟨k2,U,m,C+1,j,pre,pa,x::O'⟩) (au eH) ⟨⟨BN,zc,xr,zz,aC,wM,r3⟩,oM,by rw[OM,Sb Mt (fun e=>e.2 CG)],sg,Bo⟩ oM)
      .have bm:¬ i<(ca.getD x.1.1 []).length:=by simpa using h
       have:i=(ca.getD x.1.1 []).length:=by omega
       subst this;refine SS ?_;refine av (Gj rfl ap Cb vF (a:=1) (b:=((x::O').length:Nat)) rfl rfl) aK ⟨⟨BM,rfl⟩,oG,by rw[List.length_cons];omega,Int.le_refl _⟩ ?_;refine av (jS (v:=.rs _ _ _) rfl) aK trivial ?_;refine aa (bf ⟨k+1,S,m,C,j,pre++[x],pa,O'⟩ (au ⟨rfl,rfl,rfl,rfl,?_,trivial⟩) ⟨⟨hinv,qV,uk,um,aC,kZ,by rw[List.append_assoc];exact ap⟩,(CJ.next af (by unfold w8;simp only[if_pos ue];rw[hE];rfl) (fun y hy=>Bo y (List.mem_cons_of_mem _ hy)) oP).1⟩ oM);show D.rs j (pre.length*3+(1:Int).toNat*3) (((x::O').length:Int) - 1).toNat=D.rs j ((pre++[x]).length*3) O'.length;congr 1
       .simp;omega
       .simp
    .refine SS ?_;exact aa (cA rfl (fun h=>yN (bG (bA (bY (wJ (.inr hp)))))) fun h=>oH)
  .cases O with
   |nil=>
    refine wK (Or.inl ⟨S,?_⟩);rw[List.length_map,CJ.end];exact hinv
   |cons x O=>simp at h
theorem xU{l:List ai}{a b:Int}(hl:l.length<=1000):aB prog 70 [ba l,I a,I b] (.aM [.agg (r9 l),I (if(dh l).2=0 then(if kF l.length a&&kF l.length b then 0 else 1) else(dh l).2)]):=by
 have io:=io hl;refine bj akJ (.cons (iU l) (.cons (.s _) (.cons (.s _) .nil))) (.aM (.cons (.agg (R4 l)) (.cons (.s _) .nil))) ?_;rw[akK];refine ws ?_;refine ab ?_;refine er ?_;have J:=A0 (l:=l);have M:=Dp (l:=l);generalize (dh l).2=err at*
 by_cases he:err=0
 .have C:=J he;rw[C] at io ⊢;subst he;refine SS ?_;refine cl io ?_;refine cz ?_;have jw:=jw (l:=l) (sh:=bp l) (ca:=(aV l).map ao);have oA:((0:Int)==0)=true:=rfl;refine aa (az (ag ?_));refine du ?_;refine gc jw ?_;refine bh ?_;refine gc jw ?_;refine ay ?_
  have hb:(if(if(if decide (a<0)=true then true else decide ((l.length:Int)<=a))=true then true else decide (b<0))=true then true else decide ((l.length:Int)<=b))= !(kF l.length a&&kF l.length b):=by
   unfold kF;rw[Bool.eq_iff_iff];simp;omega
  rw[hb];refine aa (cA rfl (fun h=>?_) fun h=>?_)
  .have h:(kF l.length a&&kF l.length b)=false:=by revert h;cases (kF l.length a&&kF l.length b)<;>simp
   rw[h,if_pos rfl,if_neg oS];refine ws ?_;refine SS ?_;refine er ?_;refine aY ?_;exact aa (bG (nN (iq rfl rfl uh nI rfl t82 (aZ 3)) rfl rfl))
  .have h:(kF l.length a&&kF l.length b)=true:=by simpa using h
   rw[h,if_pos rfl,if_pos rfl];refine cm (ag ?_);refine aY ?_;exact aa (bG (nN (iq rfl rfl uh nI rfl t82 (aZ 3)) rfl rfl))
 .have C:=M he;rw[C] at io ⊢;have oA:(err==0)=false:=by simpa using he
  refine SS ?_;refine cl io ?_;refine cz ?_;refine aa (az (ag ?_));have jw:(false==true)=true->aB prog 48 [.agg [.z,.z,.z]] (I 0):=fun h=>by cases h
  refine av (cY (v:=.s (.int _ _)) rfl) aK trivial ?_
  (first|refine av (D3 rfl rfl oA) aK rfl ?_|refine av (D3 rfl rfl Em) aK rfl ?_|refine av (H4 rfl rfl) aK rfl ?_)
  refine av (cY (v:=.s (.bool _)) rfl) aK trivial ?_
  (first|refine bc rfl rfl (cY (v:=.s (.int _ _)) rfl) (fun hc=>⟨(by repeat' (first|exact trivial|exact hc|exact rfl|refine And.intro ?_ ?_)),trivial⟩) ?_)
  (first|refine bc rfl rfl (afs rfl rfl akL) (fun hc=>⟨(by repeat' (first|exact trivial|exact hc|exact rfl|refine And.intro ?_ ?_)),rfl⟩) ?_|refine bc rfl rfl (H2 rfl rfl) (fun hc=>⟨(by repeat' (first|exact trivial|exact hc|exact rfl|refine And.intro ?_ ?_)),rfl⟩) ?_)
  (first|refine bc rfl rfl (cY (v:=.s (.bool _)) rfl) (fun hc=>⟨(by repeat' (first|exact trivial|exact hc|exact rfl|refine And.intro ?_ ?_)),trivial⟩) ?_)
  (first|refine bc rfl rfl (cY (v:=.s (.int _ _)) rfl) (fun hc=>⟨(by repeat' (first|exact trivial|exact hc|exact rfl|refine And.intro ?_ ?_)),trivial⟩) ?_)
  (first|refine bc rfl rfl (lI rfl uh nI rfl) (fun hc=>⟨(by repeat' (first|exact trivial|exact hc|exact rfl|refine And.intro ?_ ?_)),(lJ t82 nI oS)⟩) ?_|refine bc rfl rfl (fz rfl rfl uh nI rfl) (fun hc=>⟨(by repeat' (first|exact trivial|exact hc|exact rfl|refine And.intro ?_ ?_)),(fA t82 nI (by first|(simp;done)|omega|exact bJ rfl))⟩) ?_)
  (first|refine pL rfl rfl rfl (fun hc=>⟨(by repeat' (first|exact trivial|exact hc|exact rfl|refine And.intro ?_ ?_)),jw⟩) ?_|refine pL rfl rfl rfl (fun hc=>⟨(by repeat' (first|exact trivial|exact hc|exact rfl|refine And.intro ?_ ?_)),jw hc⟩) ?_|refine tx jw rfl rfl rfl rfl (akM rfl) aK ?_|refine pL rfl rfl rfl (fun hc=>⟨(by repeat' (first|exact trivial|exact hc|exact rfl|refine And.intro ?_ ?_)),Np⟩) ?_|refine tx Np rfl rfl rfl rfl (ahd rfl) aK ?_)
  (first|refine bc rfl rfl (Bn rfl rfl vA) (fun hc=>⟨(by repeat' (first|exact trivial|exact hc|exact rfl|refine And.intro ?_ ?_)),rfl⟩) ?_|refine bc rfl rfl (Ej rfl rfl) (fun hc=>⟨(by repeat' (first|exact trivial|exact hc|exact rfl|refine And.intro ?_ ?_)),rfl⟩) ?_)
  (first|refine Dl rfl rfl rfl rfl (by first|exact fun _=>trivial|exact fun _=>rfl|exact fun hc=>hc) (by first|exact fun _=>trivial|exact fun _=>rfl|exact fun hc=>hc) ?_|refine Dm rfl rfl rfl rfl (by first|exact fun _=>trivial|exact fun _=>rfl|exact fun hc=>hc) (by first|exact fun _=>trivial|exact fun _=>rfl|exact fun hc=>hc) ?_|refine Dw rfl rfl rfl rfl rfl (by first|exact fun _=>trivial|exact fun _=>rfl|exact fun hc=>hc) (fun hc h=>by first|exact trivial|exact rfl|exact hc|(show Eq _ _;rw[hc,h];rfl)|(show Eq _ _;rw[h,hc];rfl)|(show Eq _ _;simp[hc,h];done)|(show Eq _ _;simp_all;done)) (fun hc h=>by first|exact trivial|exact rfl|exact hc|(show Eq _ _;rw[hc,h];rfl)|(show Eq _ _;rw[h,hc];rfl)|(show Eq _ _;simp[hc,h];done)|(show Eq _ _;simp_all;done)) ?_)
  (first|refine bc rfl rfl (cY (v:=.s (.bool _)) rfl) (fun hc=>⟨(by repeat' (first|exact trivial|exact hc|exact rfl|refine And.intro ?_ ?_)),trivial⟩) ?_)
  (first|refine bc rfl rfl (cY (v:=.s (.int _ _)) rfl) (fun hc=>⟨(by repeat' (first|exact trivial|exact hc|exact rfl|refine And.intro ?_ ?_)),trivial⟩) ?_)
  (first|refine bc rfl rfl (afs rfl rfl akL) (fun hc=>⟨(by repeat' (first|exact trivial|exact hc|exact rfl|refine And.intro ?_ ?_)),rfl⟩) ?_|refine bc rfl rfl (H2 rfl rfl) (fun hc=>⟨(by repeat' (first|exact trivial|exact hc|exact rfl|refine And.intro ?_ ?_)),rfl⟩) ?_)
  (first|refine Dl rfl rfl rfl rfl (by first|exact fun _=>trivial|exact fun _=>rfl|exact fun hc=>hc) (by first|exact fun _=>trivial|exact fun _=>rfl|exact fun hc=>hc) ?_|refine Dm rfl rfl rfl rfl (by first|exact fun _=>trivial|exact fun _=>rfl|exact fun hc=>hc) (by first|exact fun _=>trivial|exact fun _=>rfl|exact fun hc=>hc) ?_|refine Dw rfl rfl rfl rfl rfl (by first|exact fun _=>trivial|exact fun _=>rfl|exact fun hc=>hc) (fun hc h=>by first|exact trivial|exact rfl|exact hc|(show Eq _ _;rw[hc,h];rfl)|(show Eq _ _;rw[h,hc];rfl)|(show Eq _ _;simp[hc,h];done)|(show Eq _ _;simp_all;done)) (fun hc h=>by first|exact trivial|exact rfl|exact hc|(show Eq _ _;rw[hc,h];rfl)|(show Eq _ _;rw[h,hc];rfl)|(show Eq _ _;simp[hc,h];done)|(show Eq _ _;simp_all;done)) ?_)
  (first|refine bc rfl rfl (cY (v:=.s (.bool _)) rfl) (fun hc=>⟨(by repeat' (first|exact trivial|exact hc|exact rfl|refine And.intro ?_ ?_)),trivial⟩) ?_)
  (first|refine bc rfl rfl (cY (v:=.s (.int _ _)) rfl) (fun hc=>⟨(by repeat' (first|exact trivial|exact hc|exact rfl|refine And.intro ?_ ?_)),trivial⟩) ?_)
  (first|refine bc rfl rfl (lI rfl uh nI rfl) (fun hc=>⟨(by repeat' (first|exact trivial|exact hc|exact rfl|refine And.intro ?_ ?_)),(lJ t82 nI oS)⟩) ?_|refine bc rfl rfl (fz rfl rfl uh nI rfl) (fun hc=>⟨(by repeat' (first|exact trivial|exact hc|exact rfl|refine And.intro ?_ ?_)),(fA t82 nI (by first|(simp;done)|omega|exact bJ rfl))⟩) ?_)
  (first|refine pL rfl rfl rfl (fun hc=>⟨(by repeat' (first|exact trivial|exact hc|exact rfl|refine And.intro ?_ ?_)),jw⟩) ?_|refine pL rfl rfl rfl (fun hc=>⟨(by repeat' (first|exact trivial|exact hc|exact rfl|refine And.intro ?_ ?_)),jw hc⟩) ?_|refine tx jw rfl rfl rfl rfl (akM rfl) aK ?_|refine pL rfl rfl rfl (fun hc=>⟨(by repeat' (first|exact trivial|exact hc|exact rfl|refine And.intro ?_ ?_)),Np⟩) ?_|refine tx Np rfl rfl rfl rfl (ahd rfl) aK ?_)
  (first|refine bc rfl rfl (Bn rfl rfl vA) (fun hc=>⟨(by repeat' (first|exact trivial|exact hc|exact rfl|refine And.intro ?_ ?_)),rfl⟩) ?_|refine bc rfl rfl (Ej rfl rfl) (fun hc=>⟨(by repeat' (first|exact trivial|exact hc|exact rfl|refine And.intro ?_ ?_)),rfl⟩) ?_)
  (first|refine Dl rfl rfl rfl rfl (by first|exact fun _=>trivial|exact fun _=>rfl|exact fun hc=>hc) (by first|exact fun _=>trivial|exact fun _=>rfl|exact fun hc=>hc) ?_|refine Dm rfl rfl rfl rfl (by first|exact fun _=>trivial|exact fun _=>rfl|exact fun hc=>hc) (by first|exact fun _=>trivial|exact fun _=>rfl|exact fun hc=>hc) ?_|refine Dw rfl rfl rfl rfl rfl (by first|exact fun _=>trivial|exact fun _=>rfl|exact fun hc=>hc) (fun hc h=>by first|exact trivial|exact rfl|exact hc|(show Eq _ _;rw[hc,h];rfl)|(show Eq _ _;rw[h,hc];rfl)|(show Eq _ _;simp[hc,h];done)|(show Eq _ _;simp_all;done)) (fun hc h=>by first|exact trivial|exact rfl|exact hc|(show Eq _ _;rw[hc,h];rfl)|(show Eq _ _;rw[h,hc];rfl)|(show Eq _ _;simp[hc,h];done)|(show Eq _ _;simp_all;done)) ?_)
  (first|refine KL rfl rfl (by first|exact trivial|exact rfl) ?_|refine KM rfl rfl (by first|exact trivial|exact rfl) ?_|refine Lg rfl rfl rfl (fun h=>by first|exact trivial|exact rfl|exact h|(show Eq _ _;rw[h];rfl)|(show Eq _ _;simp[h];done)|(show Eq _ _;simp_all;done)) (fun h=>by first|exact trivial|exact rfl|exact h|(show Eq _ _;rw[h];rfl)|(show Eq _ _;simp[h];done)|(show Eq _ _;simp_all;done)) ?_)
  refine aa (cA rfl (fun h=>(by revert h;simp)) fun h=>cm (ag ?_));rw[if_neg he];refine aY ?_;exact aa (bG (nN (iq rfl rfl uh nI rfl t82 (aZ 3)) rfl rfl))
end Go.Proofs.Tryz.K
namespace Go.Abs
section
variable{P:Program}{Y:ej}{Q:Exit->St->Prop}{st:St}{b:Code}
theorem Mx{a:Code}(h:AX P Y a (fU (fun st'=>∃ C,aH P st' C/\AX P Y b Q C) Q) st):AX P Y (.seq a b) Q st:=h
theorem BO[dC Y]{ops:Array Oper}{id:Nat}(h:aq P Y ops false [] (eZ fun st=>∃ st',aH P st st'/\AX P Y b Q st') ops.toList st []):AX P Y (.seq (.region id ops false) b) Q st:=by
 show AW P Y true (.region id ops false) _ st;exact lF (rf:=true) (aq.jn h fun _ h=>h)
theorem ahe(h:Q .ret st):AX P Y .ret Q st:=h
theorem aet{env:Env}{I:Mem->Nat->Prop}(h:Q .ret ⟨env,st.mem,st.nx⟩):yK env I Q .ret st:=h
theorem LX{a1 a2 a3:Nat}{t1 t2 t3:TypeId}{K:D->St->Prop}{C J M:D}(h1:∃ p,ou P st (.cell a1 t1)=some (p,C)/\p)(h2:∃ p,ou P st (.cell a2 t2)=some (p,J)/\p)(U:∃ p,ou P st (.cell a3 t3)=some (p,M)/\p)(h:K (.aM [C,J,M]) st):
 iD P [.cell a1 t1,.cell a2 t2,.cell a3 t3] K .ret st:=by
 obtain⟨X,a1,b1⟩:=h1;obtain⟨p2,a2,b2⟩:=h2;obtain⟨p3,a3,b3⟩:=U;simp only[iD,ov,a1,a2,a3];exact⟨b1,b2,b3,h⟩
end
def Pp:Value->Value->Bool
 | .int k n,.int k' n'=>decide (k=k')&&decide (n=n')
 | .bool a,.bool b=>a==b
 | .string a,.string b=>decide (a=b)
 |_,_=>false
theorem afH{a b:Value}(h:Pp a b=true):a=b:=by
 unfold Pp at h;split at h
 .rw[aW,decide_eq_true_eq,decide_eq_true_eq] at h;rw[h.1,h.2]
 .rw[show _=_ from eq_of_beq h]
 .rw[of_decide_eq_true h]
 .cases h
def vJ(g:D->D->Bool):List D->List D->Bool
 |[],[]=>true
 |a::xs,b::bs=>g a b&&vJ g xs bs
 |_,_=>false
def AA:Nat->D->D->Bool
 |0,_,_=>false
 |_+1,.s a,.s b=>Pp a b
 |_+1,.z,.z=>true
 |_+1,.sl [] 0,.z=>true
 |k+1,.agg a,.agg b=>vJ (AA k) a b
 |k+1,.aM a,.aM b=>vJ (AA k) a b
 |k+1,.sl a n,.sl b m=>Nat.beq n m&&vJ (AA k) a b
 |k+1,.pt a,.pt b=>vJ (AA k) a b
 |_+1,_,_=>false
theorem DA{g:D->D->Bool}:∀ {xs bs:List D},vJ g xs bs=true->xs.length=bs.length/\∀ (k:Nat) a,xs[k]? =some a->∃ b,bs[k]? =some b/\g a b=true
 |[],[],_=>⟨rfl,fun k a h=>by simp at h⟩
 |a::xs,b::bs,h=>by
  simp only[vJ,aW] at h;obtain⟨h1,h2⟩:=DA h.2;refine⟨by simp[h1],fun k x hx=>?_⟩;cases k with
  |zero=>simp at hx;subst hx;exact⟨b,rfl,h.1⟩
  |succ k=>exact h2 k x (by simpa using hx)
 |[],_::_,h=>by simp[vJ] at h
 |_::_,[],h=>by simp[vJ] at h
theorem Ex{F:Nat->Prop}{β:aE}{w:World}:∀ (k:Nat) {a b:D} {v:Value},AA k a b=true->R F β w b v->R F β w a v
 |0,a,b,v,h,_=>by simp[AA] at h
 |k+1,a,b,v,h,hv=>by
  unfold AA at h;split at h
  .cases h
  .rename_i e;rw[afH h];exact hv
  .exact hv
  .obtain⟨x,rfl⟩:=hv.u6;exact .gy x 0
  .rename_i a b e;cases e;obtain⟨h1,h2⟩:=DA h;cases hv with
   |agg _ vs hl hh=>
    refine .agg _ vs oG fun j d u hd hu=>?_;obtain⟨C,hb,hg⟩:=h2 j d hd;exact Ex k hg (hh j C u hb hu)
  .rename_i a b e;cases e;obtain⟨h1,h2⟩:=DA h;cases hv with
   |aM _ vs hl hh=>
    refine .aM _ vs oG fun j d u hd hu=>?_;obtain⟨C,hb,hg⟩:=h2 j d hd;exact Ex k hg (hh j C u hb hu)
  .rename_i a n b m e;cases e;rw[aW] at h;have CO:n=m:=Nat.eq_of_beq_eq_true h.1;obtain⟨h1,h2⟩:=DA h.2;subst CO;cases hv with
   |gy a' cap=>
    have:a=[]:=List.length_eq_zero_iff.1 (by simpa using h1);subst this;exact .gy _ _
   |sl _ _ C o cap us J M U g4 g5 X g7=>
    refine .sl _ _ C o cap us J M U g4 g5 (fun j hj=>X j oG) fun j d hd=>?_;obtain⟨d',hb,hg⟩:=h2 j d hd;exact Ex k hg (g7 j d' hb)
  .rename_i a b e;cases e;obtain⟨h1,h2⟩:=DA h;cases hv with
   |pt _ C o us J M U X g7=>
    refine .pt _ C o us J M U (fun j hj=>X j oG) fun j d hd=>?_;obtain⟨d',hb,hg⟩:=h2 j d hd;exact Ex k hg (g7 j d' hb)
  .cases h
end Go.Abs
namespace Go.Proofs.Tryz.K
theorem ry{l:List ai}{a b:Int}(hl:l.length<=1000):aB prog 35 [ba l,I a,I b] (.aM (qu l a b)):=by
 have xU:=xU (a:=a) (b:=b) hl;refine acr mixed akN kr (.cons (iU l) (.cons (.s _) (.cons (.s _) .nil))) (.aM (aa' l a b)) ?_;rw[akO];have tW:=A0 (l:=l);have zy:=Dp (l:=l);have B8:=mz (l:=l);obtain⟨J,C⟩:∃ J,J=(if(dh l).2=0 then(if kF l.length a&&kF l.length b then 0 else 1) else(dh l).2):=⟨_,rfl⟩
 rw[<- C] at xU;by_cases he:J=0
 .have h0:(dh l).2=0:=by
   by_cases h:(dh l).2=0
   .exact h
   .rw[if_neg h] at C;omega
  have j4:(kF l.length a&&kF l.length b)=true:=by
   rw[if_pos h0] at C;cases h:(kF l.length a&&kF l.length b) with
   |true=>rfl
   |false=>rw[h] at C;simp at C;omega
  have M:=B8 h0;rw[tW h0] at xU;unfold qu;rw[if_pos h0,if_pos j4];rw[he] at xU;simp only[kF,aW,decide_eq_true_eq] at j4;obtain⟨⟨a0,a1⟩,b0,b1⟩:=j4;obtain⟨p,rfl⟩:=lv a0;obtain⟨q,rfl⟩:=lv b0;refine BO ?_;refine ay ?_;refine aa ⟨_,.refl _,BO ?_⟩;refine ay ?_;refine cl xU ?_;refine cz ?_;refine aa ⟨_,.refl _,Mx (ag ?_)⟩;refine ab ?_;refine aa (aQ rfl (fun h=>oH) fun h=>cO ⟨_,.refl _,Mx (BO ?_)⟩);have OL:=OL (l:=l) (sh:=bp l) (ca:=(aV l).map ao) (a:=(p:Int)) (b:=(q:Int));refine aY ?_;refine cl OL ?_
  have xV:Iw prog 114 [] [.pt [I p,I q],.pt (cW l (bp l) ((aV l).map ao))] ((qL (cE l) (aV l) p q).map D8):=akG (by simp[bp]) oP M.pq M.Ig oP oP fun x hx=>by
   obtain⟨f,hf,rfl⟩:=List.mem_map.1 hx;have:=AG f.blocks;have:=(s6 (Go.Argus.checked (M.nJ f hf))).lD;simp;omega
  obtain⟨X,Fx⟩:∃ X:Mem,X=up (up (up (up (up (fun _=>none) 0 (some (Row.cells [D.z] 43))) 1 (some (Row.cells [B false] 4))) 2 (some (Row.cells [I 0] 27))) 3 (some (Row.cells [D.z,D.z,D.z] 82))) 3 (some (Row.cells (cW l (bp l) ((aV l).map ao)) 82)):=⟨_,rfl⟩
  refine aa ⟨⟨ax [(6,.rp 0 0),(7,.rp 1 0),(8,.rp 2 0),(9,.pt (cW l (bp l) ((aV l).map ao))),(27,.fn (.func 114) [] [.pt [I p,I q],.pt (cW l (bp l) ((aV l).map ao))])],df 3 (cW l (bp l) ((aV l).map ao)) (prog.cellsOf 82) X,4⟩,?_,?_⟩
  .subst Fx;exact mi (i:=3) (cs:=cW l (bp l) ((aV l).map ao)) (e:=82) rfl eH
  have r0:df 3 (cW l (bp l) ((aV l).map ao)) (prog.cellsOf 82) X 0=some (.cells [.z] 43):=by rw[Fx];rfl
  have r1:df 3 (cW l (bp l) ((aV l).map ao)) (prog.cellsOf 82) X 1=some (.cells [B false] 4):=by rw[Fx];rfl
  have r2:df 3 (cW l (bp l) ((aV l).map ao)) (prog.cellsOf 82) X 2=some (.cells [I 0] 27):=by rw[Fx];rfl
  generalize df 3 (cW l (bp l) ((aV l).map ao)) (prog.cellsOf 82) X=m5 at*
  clear Fx tW zy B8 C;rw[lu,lu];refine⟨trivial,114,[],_,_,fun k m nx=>m 0=some (.cells [.z] 43)/\m 1=some (.cells [B false] 4)/\m 2=some (.cells [I 0] 27)/\3<=nx/\∀ j x,j<k->(qL (cE l) (aV l) p q)[j]? =some x->(cE l).getD x.1.1 0=(cE l).getD x.1.2 0,rfl,xV,fun x hx=>?_,⟨r0,r1,r2,oM,fun j x hj=>by omega⟩,?_,?_⟩
  .obtain⟨y,_,rfl⟩:=List.mem_map.1 hx;exact⟨rfl,.cons (.agg (.cons (.s _) (.cons (.s _) .nil))) (.cons (di _) .nil)⟩
  .rintro k m nx x hx ⟨r0,r1,r2,cF,IG⟩;rw[List.getElem?_map,cU] at hx;obtain⟨x,hx,rfl⟩:=hx;refine aw ?_;refine eM (GB IF) aK t121 ?_;refine bQ (fM rfl rfl (aj _ _ _) rfl) aK (cw t121 No ⟨rfl,aZ 2⟩ (by rfl)) ?_;have hB:BI (cE l) (aV l) (p,q) (qL (cE l) (aV l) p q) ((Th (a:=p) (b:=q) M.pq M.Ig oP oP).choose) []:=(Th M.pq M.Ig oP oP).choose_spec;obtain⟨Aw,CK⟩:=Lp M.pq M.Ig oP oP (hB.lead x (by rw[List.append_nil];exact bu hx));clear hB;obtain⟨sa,Fu⟩:∃ sa,(bp l)[x.1.1]? =some sa:=⟨_,aL (by simpa[bp] using Aw)⟩
   obtain⟨sb,CL⟩:∃ sb,(bp l)[x.1.2]? =some sb:=⟨_,aL (by simpa[bp] using CK)⟩
   have ld:=Sa Fu CL;obtain⟨U,iM⟩:∃ U,U=up (up m nx (some (Row.cells [I 0,I 0] 121))) nx (some (Row.cells [I x.1.1,I x.1.2] 121)):=⟨_,rfl⟩
   have pr:∀ i,i≠nx->U i=m i:=fun i hi=>by rw[iM,aA _ _ hi,aA _ _ hi]
   have r0:df nx [I x.1.1,I x.1.2] (prog.cellsOf 121) U 0=some (.cells [.z] 43):=iv ((pr 0 oG).trans r0) oG (.cells fun d hd=>by simp at hd;subst hd;exact .z);have r1:df nx [I x.1.1,I x.1.2] (prog.cellsOf 121) U 1=some (.cells [B false] 4):=iv ((pr 1 oG).trans r1) oG (.cells fun d hd=>by simp at hd;subst hd;exact .s _);have r2:df nx [I x.1.1,I x.1.2] (prog.cellsOf 121) U 2=some (.cells [I 0] 27):=iv ((pr 2 oG).trans r2) oG (.cells fun d hd=>by simp at hd;subst hd;exact .s _);refine aa ⟨⟨ax [(6,.rp 0 0),(7,.rp 1 0),(8,.rp 2 0),(9,.pt (cW l (bp l) ((aV l).map ao))),(11,.pt [I x.1.1,I x.1.2]),(29,aT (ao x.2))],df nx [I x.1.1,I x.1.2] (prog.cellsOf 121) U,nx+1⟩,?_,?_⟩
   .clear r0 r1 r2 pr;subst iM;exact mi (i:=nx) (cs:=[I x.1.1,I x.1.2]) (e:=121) (aj _ _ _) ⟨gE oG,gE oG,gE oG,rfl,kY,rfl,trivial⟩
   generalize df nx [I x.1.1,I x.1.2] (prog.cellsOf 121) U=m at*
   refine yP ?_;refine SS ?_;refine aa (show AW _ _ _ _ _ _ from qk (dV acS ?_));refine bh ?_;refine aY ?_;refine cq cx (aQ rfl (fun h=>ag ?_) fun h=>cP ?_)
   .have zR:HH (cE l) (aV l) p q=some x:=by
     have aC:((cE l).getD x.1.1 0==(cE l).getD x.1.2 0)=false:=by
      rw[ld];revert h;cases (sa.toList==sb.toList)<;>simp
     refine Lr hx (by simpa using aC) fun j y hj hy=>?_;have:=IG j y hj hy;rw[this];exact bne_self_eq_false _
    rw[zR];refine SS ?_;refine bQ (eR (d:=.sl _ _) (cs':=[_]) rfl rfl r0 rfl rfl) aK (cw t43 ui ⟨rfl,bJ rfl⟩ rfl) ?_;refine bQ (eR (d:=.s (.bool _)) (cs':=[_]) rfl rfl r1 rfl rfl) aK (cw t4 c4 ⟨rfl,bJ rfl⟩ rfl) ?_;refine bQ (eR (d:=.s (.int _ _)) (cs':=[_]) rfl rfl r2 rfl rfl) aK (cw t27 CN ⟨rfl,bJ rfl⟩ rfl) ?_;refine aa (bG (eE (aet (eE (bA ?_)))));exact LX (uu (v:=aT (ao x.2)) rfl rfl Jj ui rfl t43) (uu rfl rfl a4 c4 rfl t4) (uu rfl rfl Jk CN rfl t27) rfl
   .refine⟨r0,r1,r2,oM,fun j y hj hy=>?_⟩;by_cases tX:j<k
    .exact IG j y tX hy
    .have:j=k:=by omega
     subst this;rw[hx] at hy;cases hy
     have he:((cE l).getD x.1.1 0==(cE l).getD x.1.2 0)=true:=by
      rw[ld];revert h;cases (sa.toList==sb.toList)<;>simp
     simpa using he
  .rintro m nx ⟨r0,r1,r2,cF,IG⟩;refine⟨_,.refl _,BO ?_⟩
   have zR:HH (cE l) (aV l) p q=none:=by
    unfold HH;refine List.find?_eq_none.2 fun y hy=>?_;obtain⟨j,hj⟩:=dN hy;have cZ:j<((qL (cE l) (aV l) p q).map D8).length:=by rw[List.length_map];exact(bI.1 hj).1
    have:=IG j y cZ hj;rw[this];simp
   rw[zR];refine bQ (eR (d:=.z) (cs':=[_]) rfl rfl r0 rfl rfl) aK (cw t43 ui ⟨rfl,bJ rfl⟩ rfl) ?_;refine bQ (eR (d:=.s (.bool _)) (cs':=[_]) rfl rfl r1 rfl rfl) aK (cw t4 c4 ⟨rfl,bJ rfl⟩ rfl) ?_;refine bQ (eR (d:=.s (.int _ _)) (cs':=[_]) rfl rfl r2 rfl rfl) aK (cw t27 CN ⟨rfl,bJ rfl⟩ rfl) ?_;refine aa ⟨_,.refl _,ahe ?_⟩;exact LX (uu (v:=.z) rfl rfl Jj ui rfl t43) (uu rfl rfl a4 c4 rfl t4) (uu rfl rfl Jk CN rfl t27) rfl
 .have hO:∃ o:List D,r9 l=o/\o.length=3/\o.all D.one=true:=by
   refine⟨_,rfl,?_⟩;unfold r9;split<;>exact⟨rfl,rfl⟩
  have oh:qu l a b=[.z,B false,I J]:=by
   unfold qu;rw[C];split
   .rename_i h0;split
    .rename_i h1;rw[if_pos h0,if_pos h1] at C;exact absurd C he
    .rfl
   .rfl
  rw[oh];obtain⟨o,ho,ON,vX⟩:=hO;rw[ho] at xU;clear tW zy B8 C oh;refine BO ?_;refine ay ?_;refine aa ⟨_,.refl _,BO ?_⟩;refine ay ?_;refine cl xU ?_;refine aY ?_;refine bQ (fM rfl rfl rfl rfl) aK (cw t82 nI ⟨ON,oS⟩ vX) ?_;refine SS ?_;refine aa ⟨_,.refl _,Mx (ag ?_)⟩;refine ab ?_;refine aa (aQ rfl (fun h=>ag ?_) fun h=>absurd (by simpa using h) he);refine SS ?_;refine bQ (eR (d:=.z) (cs':=[_]) rfl rfl rfl rfl rfl) ak (cw V.h V.h (by first|(simp;done)|exact⟨rfl,bJ rfl⟩|(simp;omega)) rfl) ?_;refine bQ (eR (d:=.s (.bool _)) (cs':=[_]) rfl rfl rfl rfl rfl) ak (cw V.h V.h (by first|(simp;done)|exact⟨rfl,bJ rfl⟩|(simp;omega)) rfl) ?_;refine SS ?_;exact aa (bG (bA (LX (uu (v:=.z) rfl rfl Jj ui rfl t43) (uu rfl rfl a4 c4 rfl t4) (uu rfl rfl Jk CN rfl t27) rfl)))
end Go.Proofs.Tryz.K
end
namespace Go.Abs
section
variable{P:Program}{m:Mem}{rds:List Nat}
theorem afi{i off:Nat}{cs es es':List D}{e:TypeId}(hm:m i=some (.cells cs e))(hi:i∈rds)(M:cs.drop off=es)(hlen:es'.length=es.length)(hs:∀ (k:Nat) (d d':D),es[k]? =some d->es'[k]? =some d'->Sn P rds m d d'):Sn P rds m (.rp i off) (.pt es'):=fun F β w v hl hv=>by
 subst M;obtain⟨p,hp,hr,U⟩:=hl i hi _ hm;cases hv with
 |qY _ _ _ h1 _=>rw[h1] at hp;cases hp;cases hr
 |rp _ _ b o len room sz h1=>
  rw[h1] at hp;cases hp
  have af:b<w.heap.size:=by
   cases hr with
   |cells _ _ _ _ _ _ c hb _ _ _ _=>exact(Array.getElem?_eq_some_iff.1 hb).1
  obtain⟨J,WW,bD,_⟩:=hr.rd;obtain⟨us,X,u2⟩:=J.drop off;refine .pt _ b (o+off) us (U b rfl) (fun k q hq=>by cases hq) af (by rw[hlen];exact X) fun k d hk=>?_;have C:k<(cs.drop off).length:=by rw[<- hlen];exact(bI.1 hk).1
  exact hs k (cs.drop off)[k] d (aL C) hk _ _ _ _ hl (u2 k _ (aL C))
theorem af6{f:Fn}{fs cs cs':List D}(hf:∀ a∈fs,Tr a)(hlen:cs'.length=cs.length)(hs:∀ (k:Nat) (d d':D),cs[k]? =some d->cs'[k]? =some d'->Sn P rds m d d'):Sn P rds m (.fn f fs cs) (.fn f fs cs'):=fun F β w v hl hv=>by
 cases hv with
 |fn _ _ _ us vs M J h1 h2=>
  refine .fn f fs cs' us vs M (by rw[hlen];exact J) (fun k d v hd hv=>(hf d (bu hd)).BB (h1 k d v hd hv)) fun k d v hd hv=>?_;have C:k<cs.length:=by rw[<- hlen];exact(bI.1 hd).1
  exact hs k cs[k] d (aL C) hd _ _ _ _ hl (h2 k _ v (aL C) hv)
end
section
variable{P:Program}{m:Mem}{nx:Nat}
def less(rds:List Nat)(m:Mem):Mem:=fun i=>if i∈rds then none else m i
theorem aav{f:FuncId}{rds:List Nat}{args U:List D}{r:D}(fI:jK P rds m args U)(hc:aB P f U r):
 fP P f args m nx (fun d m' al=>d=r/\m'=less rds m/\al=nx):=by
 refine⟨hc.1,fun F β w vs hm hβ hR=>?_⟩
 let F':Nat->Prop:=fun b=>F b\/∃ i p,i∉rds/\β i=some p/\p.bF=some b
 let β':aE:=fun i=>if i∈rds then(β i).map fun _=>.dead else β i
 have M:∀ b,¬ F b->β.free b->¬ F' b:=fun b h1 h2 h=>by
  rcases h with h|⟨i,p,_,hi,hb⟩
  .exact h1 h
  .exact h2 i p hi hb
 have N4:FB F' w:=⟨fun b hb=>by
  rcases hb with hb|⟨i,p,_,hi,hb⟩
  .exact hm.fb.lt b hb
  .exact hm.lt i p b hi hb,fun t ht=>⟨.inl (hm.fb.mQ t ht).1,(hm.fb.mQ t ht).2⟩⟩
 have gen:∀ {d:D} {v:Value},R F β w d v->R F' β w d v:=fun h=>h.gen (aZ _) (fun b _ h1 h2=>⟨kV.refl w b,h2,M b h1 h2⟩) fun _ _ _ h=>.inl h
 obtain⟨h1,h2⟩:=Eb (P:=P) (F:=F') (β:=β) (w:=w) (fun i hi r hr=>by
  obtain⟨p,hp,ap⟩:=hm.row i r hr;refine⟨p,hp,ap.gen (aZ _) (fun b _ h1 h2=>⟨kV.refl w b,h2,M b h1 h2⟩) (fun _ _ _ h=>.inl h) (fun _ _=>rfl),fun b hb h=>?_⟩;rcases h with h|⟨j,q,hj,hq,zK⟩
  .exact hm.nf i p b hp hb h
  .exact hj (hm.inj i j p q b hp hq hb zK▸hi)) fI
 refine(hc.2.2 F' w vs N4 ⟨by rw[hR.1,h1],fun k d v hd hv=>?_⟩).mono ?_
 .have af:k<args.length:=by rw[h1];exact(bI.1 hd).1
  exact h2 k args[k] d (by simp[af]) hd v (gen (hR.2 k args[k] v (by simp[af]) hv))
 rintro e w' ⟨v,he,hv,hk⟩
 have C:∀ {i p b},β' i=some p->p.bF=some b->i∉rds/\β i=some p:=fun {i p b} hp hb=>by
  by_cases hi:i∈rds
  .have:β' i=(β i).map fun _=>.dead:=if_pos hi;rw[this] at hp;obtain⟨q,_,rfl⟩:=cU.1 hp;cases hb
  .exact⟨hi,(if_neg hi:β' i=β i)▸hp⟩
 have hs:Step β w β' w':=by
  refine⟨hk.1,fun b hb hf=>⟨hk.2.1 b hb,fun i p hp J=>?_⟩,fun i p hp=>?_,hk.2.2⟩
  .exact hf i p (C hp J).2 J
  .by_cases hi:i∈rds
   .right;have:β' i=(β i).map fun _=>.dead:=if_pos hi;rw[this,hp];rfl
   .left;exact(if_neg hi:β' i=β i).trans hp
 refine⟨v,r,less rds m,nx,β',he,⟨rfl,rfl,rfl⟩,?_,fun i hi=>?_,?_,hs,aZ _,fun i _ hi=>?_⟩
 .refine⟨fun i r hi=>?_,fun i j p q b hp hq e X=>?_,fun i p b hp e=>?_,fun i p b hp e=>?_,(hm.kept hk).fb⟩
  .unfold less at hi;split at hi
   .cases hi
   .rename_i hn;obtain⟨p,hp,ap⟩:=hm.row i r hi;exact⟨p,(if_neg hn:β' i=β i).trans hp,ap.step hs fun b hb=>hk.2.1 b (hm.lt i p b hp hb)⟩
  .exact hm.inj i j p q b (C hp e).2 (C hq X).2 e X
  .exact Nat.lt_of_lt_of_le (hm.lt i p b (C hp e).2 e) hk.1
  .exact hm.nf i p b (C hp e).2 e
 .have h0:=hβ i hi;show(if i∈rds then(β i).map fun _=>Pl.dead else β i)=none;rw[h0];split<;>rfl
 .refine hv.gen (aZ _) (fun b _ h1 _=>⟨kV.refl w' b,fun i p hp J=>?_,fun h=>h1 (.inl h)⟩) fun i p _ h=>by cases h
  exact h1 (.inr ⟨i,p,(C hp J).1,(C hp J).2,J⟩)
 .show(if i∈rds then(β i).map fun _=>Pl.dead else β i)=none;rw[hi];split<;>rfl
theorem kW.afb{f:FuncId}{args es:List D}{n:Nat}{t:TypeId}(h:kW P f args es n t)(ht:Tr (.sl (es.take (n*P.cellsOf t)) n)):aB P f args (.sl (es.take (n*P.cellsOf t)) n):=by
 refine⟨h.1,h.2.1,fun F w vs C hR=>(h.2.2 F w vs C hR).mono ?_⟩;rintro e w' ⟨v,p,h1,h2,U,X,h5,J⟩;refine⟨v,h1,?_,J⟩
 have b0:∀ {i q},up gU 0 (some p) i=some q->i=0/\q=p:=fun {i q} hi=>by
  by_cases e:i=0
  .subst e;rw[aj] at hi;cases hi;exact⟨rfl,rfl⟩
  .rw[aA _ _ e] at hi;cases hi
 have hm:aJ P F (up (fun _=>none) 0 (some (.cells es t))) (up gU 0 (some p)) w':=by
  refine⟨fun i r hi=>?_,fun i j q q' b hq ie _ _=>(b0 hq).1.trans (b0 ie).1.symm,fun i q b hq e=>?_,fun i q b hq e=>?_,C.next (fun b hb=>Nat.lt_of_lt_of_le (C.lt b hb) J.1) (fun _ h=>h) fun _ _ hb=>J.2.1 _ (C.lt _ hb)⟩
  .by_cases e:i=0
   .subst e;rw[aj] at hi;cases hi;refine⟨p,aj _ _ _,X.gen (aZ _) (fun b _ M _=>⟨kV.refl w' b,fun i q hq hb=>?_,fun C=>M (.inl C)⟩) (fun i q _ hq=>by cases hq) fun _ _=>rfl⟩;exact M (.inr ((b0 hq).2▸hb))
   .rw[aA _ _ e] at hi;cases hi
  .rw[(b0 hq).2] at e;exact(U b e).2
  .rw[(b0 hq).2] at e;intro hb;have:=C.lt b hb;have:=(U b e).1;omega
 have:=RD hm (aj _ _ _) rfl h5;have e:cM 0 es (P.cellsOf t) (.rs 0 0 n)=.sl (es.take (n*P.cellsOf t)) n:=by simp[cM]
 rw[e] at this;exact ht.BB this
theorem aaw{f:FuncId}{args:List D}{r r':D}(hc:aB P f args r)(h:Wk r r'):aB P f args r':=
 ⟨hc.1,hc.2.1,fun F w vs C J=>(hc.2.2 F w vs C J).mono fun _ w' ⟨v,he,hv,hk⟩=>⟨v,he,h F gU w' v hv,hk⟩⟩
end
end Go.Abs
section
open Go Go.Abs Go.Proofs Go.Argus
namespace Go.Proofs.Tryz.K
set_option maxHeartbeats 1000000
theorem Nq{l:List ByteArray}{s:ByteArray}:aB prog 122 [bP l,S s] (I (nt (fun x=>s.toList==x.toList) l)):=by
 refine mh U'.he (.cons (gS _) (.cons (.s _) .nil)) fun C=>?_;have hlen:=(C (bP l) oS).sl.1;unfold maxLen at hlen;refine bj U' (.cons (gS _) (.cons (.s _) .nil)) (Tr.s _) ?_;rw[ahf];refine ws ?_;refine SS ?_;refine aa (az (aw ?_));refine ay ?_
 refine aa (bZ (fun t=>aH prog t ⟨ax [],fun _=>none,0⟩/\∀ (j:Nat) y,l[j]? =some y->(s.toList==y.toList)=false) (cH (α:=Nat) (fun k=>⟨ax [(0,bP l),(1,S s),(7,I l.length),(8,I k)],fun _=>none,0⟩)
  (fun k=>k<=l.length/\∀ j y,j<k->l[j]? =some y->(s.toList==y.toList)=false) (fun k=>l.length - k) 0 (au eH) ⟨oG,fun j y hj=>by omega⟩ ?_) ?_)
 .rintro k ⟨hk,hinv⟩;refine SS ?_;refine aa ⟨_,rfl,fun h=>?_,fun h=>?_⟩
  .have af:k<l.length:=by simpa using h
   have hx:l[k]? =some l[k]:=by simp[af]
   generalize l[k]=x at hx;refine ws ?_;refine ab ?_;refine er ?_;refine cz ?_;refine aa (aQ rfl (fun hp=>?_) fun hp=>?_)
   .refine ws ?_;refine ab ?_;refine aa (bG (bY (bA (aD rfl ?_))));rw[yp hx hp hinv];rfl
   .refine cP ?_;refine ab ?_;refine aa (bf (k+1) (au eH) ⟨oG,fun j y hj hy=>?_⟩ oG);by_cases e:j=k
    .subst e;rw[hx] at hy;cases hy;exact hp
    .exact hinv j y oG hy
  .have M:¬ k<l.length:=by simpa using h
   exact⟨.forget _ _ _ _ fun _=>.inr rfl,fun j y hy=>hinv j y (by have:=(bI.1 hy).1;omega) hy⟩
 .rintro s ⟨hg,J⟩;refine⟨_,hg,ag ?_⟩;refine SS ?_;refine aa (aD rfl ?_);rw[AP J];rfl
theorem Jl{l:List ByteArray}{s:ByteArray}:aB prog 88 [bP l,S s] (B (l.any fun x=>s.toList==x.toList)):=by
 have Nq:=Nq (l:=l) (s:=s);refine bj akP (.cons (gS _) (.cons (.s _) .nil)) (Tr.s _) ?_;rw[akQ];refine ws ?_;refine SS ?_;refine er ?_;refine ab ?_;refine cl Nq ?_;refine ab ?_;refine aa (aD rfl ?_);rw[<- AY];rfl
theorem k87{f:ai}{s:ByteArray}:aB prog 87 [.agg (aR f),.pt [S s]] (B (f.name.toList==s.toList)):=by
 refine bj akR (.cons (.agg (kL f)) (.cons (.pt (.cons (.s _) .nil)) .nil)) (Tr.s _) ?_;rw[akS];refine aw ?_;refine ab ?_;refine aa (bH (dA [(0,aR f,48)] eH (l:=[(1,.pt [S s]),(2,.pt (aR f))]) eH) (ag ?_));refine bw ?_;exact aa (aD rfl rfl)
theorem Jm{l:List ai}{g:FuncId}{fs cs:List D}{p:ai->Bool}(hl:l.length<=1000000)(ht:Tr (.fn (.func g) fs cs))(hg:∀ x∈l,aB prog g (fs++[.agg (aR x)]++cs) (B (p x))):aB prog 86 [ba l,.fn (.func g) fs cs] (B (l.any p)):=by
 have zw:=zw hl ht hg;refine bj akT (.cons (iU _) (.cons ht .nil)) (Tr.s _) ?_;rw[akU];refine ws ?_;refine SS ?_;refine er ?_;refine ab ?_;refine cl zw ?_;refine ab ?_;refine aa (aD rfl ?_);rw[<- AY];rfl
def keepE(l:List ai)(keep:List ByteArray):Int:=if(dh l).2≠0 then(dh l).2 else if keep.length>60 then 2 else if keep.all (fun s=>l.any fun f=>f.name.toList==s.toList) then 0 else 5
def oc(l:List ai)(keep:List ByteArray):List D:=if keepE l keep=0 then fZ l (bp l) ((aV l).map ao) (ao (eT l)) else [.z,.z,.z,.z]
theorem acT(l:List ai)(keep:List ByteArray):∀ a∈oc l keep,Tr a:=by
 unfold oc;split
 .exact FX _ _ _ _
 .exact .cons .z (.cons .z (.cons .z (.cons .z .nil)))
theorem sP{l:List ai}{keep:List ByteArray}(hl:l.length<=1000):aB prog 55 [ba l,bP keep] (.aM [.agg (oc l keep),I (keepE l keep)]):=by
 have io:=io hl;refine bj akV (.cons (iU l) (.cons (gS _) .nil)) (.aM (.cons (.agg (acT l keep)) (.cons (.s _) .nil))) ?_;rw[akW];unfold oc;refine ws ?_;refine ab ?_;refine er ?_;by_cases he:(dh l).2=0
 .have X:=mz he;rw[A0 he,he] at io;have M:keepE l keep=if keep.length>60 then 2 else if keep.all (fun s=>l.any fun f=>f.name.toList==s.toList) then 0 else 5:=by unfold keepE;rw[if_neg (fun h=>h he)]
  rw[M];clear M;refine SS ?_;refine cl io ?_;refine cz ?_;refine aa (az (ag ?_));refine ab ?_;refine aa (cA rfl (fun h=>oH) fun h=>cm (az (ag ?_)));refine ay ?_;refine aa (cA rfl (fun h=>?_) fun h=>?_)
  .have h:keep.length>60:=by
    have:(60:Int)<keep.length:=by simpa using h
    omega
   rw[if_pos h];refine az (ag ?_);refine ay ?_;exact aa (yN (bG (bA (nN (iq rfl rfl CH xR rfl t86 (aZ 4)) rfl rfl))))
  .have xO:¬ keep.length>60:=by
    have:¬ (60:Int)<keep.length:=by simpa using h
    omega
   rw[if_neg xO];obtain⟨q,hq⟩:∃ q:ByteArray->Bool,q=fun s=>l.any fun f=>f.name.toList==s.toList:=⟨_,rfl⟩
   rw[<- hq];refine cm (az (aw ?_));refine ay ?_;obtain⟨ml,J⟩:∃ ml,ml=[(0,Row.cells [D.z,D.z,D.z,D.z] 86),(1,Row.cells (cW l (bp l) ((aV l).map ao)) 82)]:=⟨_,rfl⟩
   refine aa (bZ (fun s=>(∃ nx,1<nx/\aH prog s ⟨ax [(4,.rp 0 0),(6,.rp 1 0)],br ml,nx⟩)/\keep.all q=true) (cH (α:=Nat×Nat)
    (fun s=>⟨ax [(0,ba l),(4,.rp 0 0),(6,.rp 1 0),(23,bP keep),(24,I keep.length),(25,I s.1)],br ml,s.2⟩)
    (fun s=>1<s.2/\s.1<=keep.length/\(keep.take s.1).all q=true) (fun s=>keep.length - s.1) (0,2)
    (cn eH (by subst J;exact eH)) ⟨oM,Nat.zero_le _,rfl⟩ ?_) ?_)
   .rintro⟨n,nx⟩ ⟨U,hn,C⟩;dsimp only at U hn C ⊢;refine SS ?_;refine aa ⟨_,rfl,fun h=>?_,fun h=>?_⟩
    .have fX:n<keep.length:=by simpa using h
     clear h;obtain⟨x,hx⟩:∃ x,keep[n]? =some x:=⟨_,aL fX⟩
     refine aw ?_;refine ay ?_;refine bQ (eR (d:=.s (.string _)) (cs':=[_]) rfl rfl (aj _ _ _) rfl rfl) aK (cw t9 c9 ⟨rfl,bJ rfl⟩ rfl) ?_
     have h0:∀ {u v},df nx [S x] (prog.cellsOf 9) (up (up (br ml) nx u) nx v) 0=br ml 0:=fun {u v}=>by
      rw[J];exact iv ((ah oG (ah oG rfl))) oG (.cells fun d hd=>by simp at hd;subst hd;exact .z)
     have h1:∀ {u v},df nx [S x] (prog.cellsOf 9) (up (up (br ml) nx u) nx v) 1=br ml 1:=fun {u v}=>by
      rw[J];exact iv ((ah oG (ah oG rfl))) oG (.cells fun d hd=>by simp[cW] at hd;rcases hd with rfl|rfl|rfl<;>exact .sl _ _)
     refine aa ⟨⟨ax [(0,ba l),(4,.rp 0 0),(6,.rp 1 0),(9,.pt [S x]),(23,bP keep),(24,I keep.length),(25,I n)],br ml,nx+1⟩,?_,?_⟩
     .refine(mi (i:=nx) (cs:=[S x]) (e:=9) (aj _ _ _) (l:=[(0,ba l),(4,.rp 0 0),(6,.rp 1 0),(9,.pt [S x]),(23,bP keep),(24,I keep.length),(25,I n)]) ⟨rfl,gE oG,gE oG,kY,rfl,rfl,rfl,trivial⟩).trans (cn eH ?_);subst J;exact⟨h0,h1,trivial⟩
     have Jm:=Jm (l:=l) (g:=87) (fs:=[]) (cs:=[.pt [S x]]) (p:=fun f=>f.name.toList==x.toList) oG (.fn oS (.cons (.pt (.cons (.s _) .nil)) .nil)) fun f _=>k87;have hqx:q x=l.any fun f=>f.name.toList==x.toList:=by rw[hq]
     rw[<- hqx] at Jm;refine ws ?_;refine ab ?_;refine cl Jm ?_;refine SS ?_;refine aa (aQ rfl (fun h=>ag ?_) fun h=>cP ?_)
     .have hqf:q x=false:=by simpa using h
      have hka:¬ keep.all q=true:=fun e=>by
       have:=bS.1 e x (bu hx);rw[hqf] at this;cases this
      rw[if_neg hka];subst J;refine ay ?_;exact aa (bG (bY (bA (nN (iq rfl rfl CH xR rfl t86 (aZ 4)) rfl rfl))))
     .have hqt:q x=true:=by simpa using h
      show aq _ _ _ _ _ _ _ _ _;refine ab ?_;exact aa (bf (n+1,nx+1) (au eH) ⟨oM,oM,ur hx C hqt⟩ oM)
    .have bm:¬ n<keep.length:=by simpa using h
     rw[dq oG] at C;exact⟨⟨nx,U,au eH⟩,C⟩
   .rintro s ⟨⟨nx,U,dU⟩,C⟩;rw[if_pos C];subst J;refine⟨_,dU,ag ?_⟩
    have Ap:=Ap (l:=l) (sh:=bp l) (ca:=aV l) (by simp[bp]) oS X.pq X.len fun x hx=>by
     obtain⟨f,hf,rfl⟩:=List.mem_map.1 hx;have:=AG f.blocks;have:=(s6 (Go.Argus.checked (X.nJ f hf))).lD;simp;omega
    refine SS ?_;refine cl Ap ?_;refine ab ?_;exact aa (bG (nN (iq rfl rfl CH xR rfl t86 (aZ 4)) rfl rfl))
 .have M:keepE l keep=(dh l).2:=by unfold keepE;rw[if_pos he]
  rw[M,if_neg he]
  have hO:∃ o:List D,r9 l=o/\o.length=3/\o.all D.one=true:=by
   refine⟨_,rfl,?_⟩;unfold r9;split<;>exact⟨rfl,rfl⟩
  obtain⟨o,ho,ON,vX⟩:=hO;rw[ho] at io;clear M;refine SS ?_;refine cl io ?_;refine aY ?_;refine bQ (fM rfl rfl rfl rfl) aK (cw t82 nI ⟨ON,oS⟩ vX) ?_;refine SS ?_;refine aa (az (ag ?_));refine ab ?_;refine aa (cA rfl (fun h=>az (ag ?_)) fun h=>absurd (by simpa using h) he);refine aY ?_;exact aa (yN (bG (bA (nN (iq rfl rfl CH xR rfl t86 (aZ 4)) rfl rfl))))
theorem k90{l:List Bool}{i:Nat}{b:Bool}(hi:l[i]? =some b):aB prog 90 [I i,.pt [.sl (l.map B) l.length]] (B b):=by
 have ht:Tr (.sl (l.map B) l.length):=.sl (.map fun _=>.s _);refine bj akX (.cons (.s _) (.cons (.pt (.cons ht .nil)) .nil)) (Tr.s _) ?_;rw[akY];refine ws ?_;refine SS ?_;refine er ?_;refine bw ?_;exact aa (aD rfl rfl)
end Go.Proofs.Tryz.K
end
namespace Go.Argus
def bz(clq:List Nat)(t:Nat):List Nat:=(range clq.length).filter fun i=>clq.getD i 0==t
def ss(kp:Nat->Bool)(x:List Nat):Nat:=(x.find? kp).getD (x.headD 0)
def gl(clq:List Nat)(kp:Nat->Bool)(i:Nat):Bool:=kp i||(!(bz clq (clq.getD i 0)).any kp&&(bz clq (clq.getD i 0)).headD 0==i)
def j3(clq:List Nat)(kp:Nat->Bool)(i:Nat):Nat:=ss kp (bz clq (clq.getD i 0))
section
variable{clq:List Nat}{kp:Nat->Bool}{t:Nat}
theorem iV{i:Nat}:i∈bz clq t↔i<clq.length/\clq.getD i 0=t:=by unfold bz;simp
theorem Sz(h:bz clq t≠[]):(bz clq t).headD 0∈bz clq t:=by
 cases hx:bz clq t with
 |nil=>exact absurd hx h
 |cons a l=>simp
theorem Ry{i:Nat}(hi:clq.getD i 0=t)(h:(bz clq t).any kp=true):gl clq kp i=kp i:=by
 unfold gl;rw[hi,h];simp
theorem QD{i:Nat}(hi:i∈bz clq t)(h:(bz clq t).any kp=false):gl clq kp i=((bz clq t).headD 0==i):=by
 unfold gl;rw[(iV.1 hi).2,h]
 have:kp i=false:=by
  rw[Bool.eq_false_iff]
  exact fun e=>by
   have:=List.any_eq_true.2 ⟨i,hi,e⟩;rw[h] at this;cases this
 rw[this];simp
theorem Q7(C:bz clq t≠[]):(bz clq t).find? (gl clq kp)=some (ss kp (bz clq t)):=by
 cases ha:(bz clq t).any kp with
 |true=>
  have e:(bz clq t).find? (gl clq kp)=(bz clq t).find? kp:=by
   have:∀ l:List Nat,(∀ i∈l,gl clq kp i=kp i)->l.find? (gl clq kp)=l.find? kp:=fun l h=>by
    induction l with
    |nil=>rfl
    |cons a l ih=>
     rw[List.find?_cons,List.find?_cons,h a oS,ih fun i hi=>h i (List.mem_cons_of_mem _ hi)]
   exact this _ fun i hi=>Ry (iV.1 hi).2 ha
  rw[e];obtain⟨i,hi,hk⟩:=List.any_eq_true.1 ha;cases hf:(bz clq t).find? kp with
  |none=>exact absurd hk (by have:=List.find?_eq_none.1 hf i hi;simpa using this)
  |some y=>unfold ss;rw[hf];rfl
 |false=>
  have hn:(bz clq t).find? kp=none:=List.find?_eq_none.2 fun i hi hk=>by
   have:=List.any_eq_true.2 ⟨i,hi,hk⟩;rw[ha] at this;cases this
  have hl:∀ i∈bz clq t,gl clq kp i=((bz clq t).headD 0==i):=fun i hi=>QD hi ha;unfold ss;rw[hn];cases hx:bz clq t with
  |nil=>exact absurd hx C
  |cons a l=>
   rw[hx] at hl;have:=hl a oS;rw[List.find?_cons,this];simp
def hZ(clq:List Nat)(kp:Nat->Bool)(t j:Nat)(i:Nat):Bool:=if clq.getD i 0<t then gl clq kp i else((bz clq t).take j).contains i&&kp i
theorem Px{l:List Nat}{j y k:Nat}(hy:l[j]? =some y):(l.take (j+1)).contains k=((l.take j).contains k||k==y):=by
 rw[List.take_add_one,hy,Option.toList_some,List.contains_eq_mem,List.contains_eq_mem,Bool.eq_iff_iff];simp
theorem Dc{i:Nat}:hZ clq kp t 0 i=(decide (clq.getD i 0<t)&&gl clq kp i):=by
 unfold hZ;by_cases h:clq.getD i 0<t
 .rw[if_pos h,decide_eq_true h];simp
 .rw[if_neg h,decide_eq_false h];simp
theorem Qs{j y k:Nat}(hy:(bz clq t)[j]? =some y):hZ clq kp t (j+1) k=if k=y then kp y else hZ clq kp t j k:=by
 have hm:=iV.1 (bu hy);unfold hZ;rw[Px hy];by_cases hk:k=y
 .subst hk;rw[if_neg oG,if_pos rfl];simp
 .have hb:(k==y)=false:=by simpa using hk
  rw[if_neg hk,hb,Bool.or_false]
theorem abd{k:Nat}(hk:k<clq.length)(h:(bz clq t).any kp=true):hZ clq kp t (bz clq t).length k=hZ clq kp (t+1) 0 k:=by
 rw[Dc];unfold hZ;rw[List.take_length];by_cases h1:clq.getD k 0<t
 .rw[if_pos h1,decide_eq_true oG];simp
 .rw[if_neg h1];by_cases h2:clq.getD k 0=t
  .rw[decide_eq_true oG,Ry h2 h,List.contains_eq_mem,decide_eq_true (iV.2 ⟨hk,h2⟩)]
  .rw[decide_eq_false oG,List.contains_eq_mem,decide_eq_false fun e=>h2 (iV.1 e).2];simp
theorem ZR{k:Nat}(hk:k<clq.length)(h:(bz clq t).any kp=false):(if k=(bz clq t).headD 0/\bz clq t≠[] then true else hZ clq kp t (bz clq t).length k)=hZ clq kp (t+1) 0 k:=by
 rw[Dc];unfold hZ;rw[List.take_length];by_cases h2:clq.getD k 0=t
 .have hm:k∈bz clq t:=iV.2 ⟨hk,h2⟩;have C:bz clq t≠[]:=fun e=>by rw[e] at hm;cases hm
  have J:kp k=false:=by
   rw[Bool.eq_false_iff]
   exact fun e=>by
    have:=List.any_eq_true.2 ⟨k,hm,e⟩;rw[h] at this;cases this
  rw[decide_eq_true oG,QD hm h,if_neg (show ¬ clq.getD k 0<t by omega),J];by_cases he:k=(bz clq t).headD 0
  .rw[if_pos ⟨he,C⟩, <- he];simp
  .rw[if_neg fun e=>he e.1];have:((bz clq t).headD 0==k)=false:=by simpa using fun e:_=_=>he e.symm
   rw[this];simp
 .have hn:¬ (k=(bz clq t).headD 0/\bz clq t≠[]):=fun⟨e1,e2⟩=>by
   have:=Sz e2;rw[<- e1] at this;exact h2 (iV.1 this).2
  rw[if_neg hn];by_cases h1:clq.getD k 0<t
  .rw[if_pos h1,decide_eq_true oG];simp
  .rw[if_neg h1,decide_eq_false oG,List.contains_eq_mem,decide_eq_false fun e=>h2 (iV.1 e).2];simp
def kC(clq:List Nat)(kp:Nat->Bool)(C:Nat->ByteArray)(t j:Nat)(i:Nat):ByteArray:=if clq.getD i 0<t then C (j3 clq kp i) else if((bz clq t).take j).contains i then C (ss kp (bz clq t)) else⟨#[]⟩
theorem ZS{C:Nat->ByteArray}{j y k:Nat}(hy:(bz clq t)[j]? =some y):kC clq kp C t (j+1) k=if k=y then C (ss kp (bz clq t)) else kC clq kp C t j k:=by
 have hm:=iV.1 (bu hy);unfold kC;rw[Px hy];by_cases hk:k=y
 .subst hk;rw[if_neg oG,if_pos rfl];simp
 .have hb:(k==y)=false:=by simpa using hk
  rw[if_neg hk,hb,Bool.or_false]
theorem abf{C:Nat->ByteArray}{k:Nat}(hk:k<clq.length):kC clq kp C t (bz clq t).length k=kC clq kp C (t+1) 0 k:=by
 unfold kC;rw[List.take_length];by_cases h1:clq.getD k 0<t
 .rw[if_pos h1,if_pos oG]
 .rw[if_neg h1];by_cases h2:clq.getD k 0=t
  .rw[if_pos (show clq.getD k 0<t+1 by omega),List.contains_eq_mem,decide_eq_true (iV.2 ⟨hk,h2⟩)];unfold j3;rw[h2];rfl
  .rw[if_neg (show ¬ clq.getD k 0<t+1 by omega),List.contains_eq_mem,decide_eq_false fun e=>h2 (iV.1 e).2];simp
theorem Kk{α:Type}{n i:Nat}{f:Nat->α}{v:α}:((range n).map f).set i v=(range n).map fun k=>if k=i then v else f k:=by
 refine List.ext_getElem? fun k=>?_;rw[List.getElem?_set];by_cases hk:k<n
 .by_cases e:i=k
  .subst e;simp[hk]
  .have C:¬ k=i:=fun h=>e h.symm;simp[hk,e,C]
 .by_cases e:i=k
  .subst e;simp[hk]
  .simp[hk,e]
end
end Go.Argus
section
open Go Go.Abs Go.Proofs Go.Argus
namespace Go.Proofs.Tryz.K
theorem Fy{κ:Type}[DecidableEq κ]{l:List ai}{sh:List ByteArray}{ca:List (List Int)}{ks:List κ}{keep:List ByteArray}(hl:l.length<=1000)(rh:ks.length=l.length)(Fv:keep.length<=60):
 aB prog 56 [.agg (fZ l sh ca (ao (bl ks))),bP keep] (.aM [.sl ((range l.length).map fun i=>B (gl (bl ks) (iS l keep) i)) l.length,.sl ((range l.length).map fun i=>S (fe l (j3 (bl ks) (iS l keep) i))) l.length]):=by
 have CI:=CI (l:=l) (sh:=sh) (ca:=ca) (ks:=ks) oG;have jw:=jw (l:=l) (sh:=sh) (ca:=ca);refine bj akZ (.cons (.agg (FX _ _ _ _)) (.cons (gS _) .nil)) (.aM (.cons (.sl (.map fun _=>.s _)) (.cons (.sl (.map fun _=>.s _)) .nil))) ?_;rw[ak0];refine aw ?_;refine ay ?_;refine aa (bH (dA [(0,fZ l sh ca (ao (bl ks)),86)] eH (l:=[(1,bP keep),(2,.pt (fZ l sh ca (ao (bl ks))))]) eH) (ag ?_));refine ab ?_;refine cl jw ?_;refine eM (Dv rfl rfl V.h V.h) ak ⟨oG,rfl,oG,by rw[b4];omega,V.h⟩ ?_;refine SS ?_;refine bQ (eR (d:=.rs _ _ _) (cs':=[_]) rfl rfl rfl rfl rfl) ak (cw V.h V.h (by first|(simp;done)|exact⟨rfl,bJ rfl⟩|(simp;omega)) rfl) ?_;refine er ?_;refine ab ?_;refine cl jw ?_;refine eM (Dv rfl rfl V.h V.h) ak ⟨oG,rfl,oG,by rw[b9];omega,V.h⟩ ?_;refine SS ?_;refine aa (az (aw ?_));refine SS ?_;refine cl CI ?_;refine ab ?_;obtain⟨clq,M⟩:∃ clq,clq=bl ks:=⟨_,rfl⟩
 obtain⟨K,hK⟩:∃ K,K=(bt ks).length:=⟨_,rfl⟩
 obtain⟨kp,V'⟩:∃ kp,kp=iS l keep:=⟨_,rfl⟩
 obtain⟨n,hn⟩:∃ n,n=l.length:=⟨_,rfl⟩
 have Mq:clq.length=n:=by rw[M,hn];simpa using rh
 have hK1:K<=1000:=by have:=uJ ks;omega
 have aC:∀ t,t<K->bz clq t≠[]:=fun t ht e=>by
  obtain⟨i,hi⟩:=abb (ks:=ks) (show t<(bt ks).length by omega);have:i∈bz clq t:=iV.2 ⟨by rw[M];exact(bI.1 hi).1,by rw[M];rw[dF,hi];rfl⟩;rw[e] at this;cases this
 have Wa:∀ i,i<n->clq.getD i 0<K:=fun i hi=>by rw[M,hK];exact Ll (dQ (by rw[<- Mq,M] at hi;exact hi))
 rw[<- M, <- hK, <- V', <- hn]
 have Wb:∀ (d:D) (n:Nat),dB n [d]=(range n).map fun _=>d:=fun d n=>by
  induction n with
  |zero=>rfl
  |succ n ih=>rw[List.range_succ,List.map_append, <- ih];simp[dB,List.replicate_succ']
 refine aa (bZ (fun s=>aH prog s ⟨ax [(6,.rp 2 0),(7,.rs 3 0 n)],mK n (hZ clq kp K 0) (kC clq kp (fe l) K 0),4⟩) (cH (α:=Nat)
  (fun t=>⟨ax [(1,bP keep),(2,.pt (fZ l sh ca (ao clq))),(6,.rp 2 0),(7,.rs 3 0 n),(25,bX (iH clq K)),(26,I (iH clq K).length),(27,I t)],mK n (hZ clq kp t 0) (kC clq kp (fe l) t 0),4⟩)
  (fun t=>t<=K) (fun t=>K - t) 0
  (cn ⟨rfl,rfl,rfl,by rw[hn];rfl,rfl,rfl,rfl,trivial⟩ ⟨?_,by rw[hn];rfl,?_,trivial⟩) (Nat.zero_le _) ?_) ?_)
 .show some (Row.cells (dB n [B false]) 4)=_;rw[Wb];have:((range n).map fun _=>B false)=(range n).map fun i=>B (hZ clq kp 0 0 i):=List.map_congr_left fun i _=>by rw[Dc,decide_eq_false (Nat.not_lt_zero _)];rfl
  rw[this]
 .show some (Row.cells (dB n [S "".toUTF8]) 9)=_;rw[Wb];have:((range n).map fun _=>S "".toUTF8)=(range n).map fun i=>S (kC clq kp (fe l) 0 0 i):=List.map_congr_left fun i _=>by unfold kC;rw[if_neg (Nat.not_lt_zero _),List.take_zero];rfl
  rw[this]
 .intro t ht;have hOl:(iH clq K).length=K:=KQ _ _;refine SS ?_;refine aa ⟨_,rfl,fun h=>?_,fun h=>?_⟩
  .have Xp:t<K:=by
    have:(t:Int)<(iH clq K).length:=by simpa using h
    omega
   clear h;have hx:(iH clq K)[t]? =some (ao (bz clq t)):=Sd Xp;have X:=aC t Xp
   have xH:(bz clq t).length<=1000:=by
    have:(bz clq t).length<=(range clq.length).length:=List.length_filter_le _ _;simp at this;omega
   have ao5:(ao (bz clq t)).length<=1000:=by simpa using xH
   refine ws ?_;refine ay ?_;refine er ?_;refine SS ?_;refine aa (az (aw ?_));refine ay ?_
   refine aa (bZ (fun s=>aH prog s ⟨ax [(1,bP keep),(2,.pt (fZ l sh ca (ao clq))),(6,.rp 2 0),(7,.rs 3 0 n),(9,aT (ao (bz clq t))),(10,B ((bz clq t).any kp)),(25,bX (iH clq K)),(26,I (iH clq K).length),(27,I t)],mK n (hZ clq kp t (bz clq t).length) (kC clq kp (fe l) t 0),4⟩) (cH (α:=Nat)
    (fun j=>⟨ax [(1,bP keep),(2,.pt (fZ l sh ca (ao clq))),(6,.rp 2 0),(7,.rs 3 0 n),(9,aT (ao (bz clq t))),(10,B (((bz clq t).take j).any kp)),(25,bX (iH clq K)),(26,I (iH clq K).length),(27,I t),(31,aT (ao (bz clq t))),(32,I (ao (bz clq t)).length),(33,I j)],mK n (hZ clq kp t j) (kC clq kp (fe l) t 0),4⟩)
    (fun j=>j<=(bz clq t).length) (fun j=>(bz clq t).length - j) 0
    (au eH) (Nat.zero_le _) ?_) ?_)
   .intro j hj;refine SS ?_;refine aa ⟨_,rfl,fun h=>?_,fun h=>?_⟩
    .have cZ:j<(bz clq t).length:=by simpa using h
     clear h;obtain⟨y,hy⟩:∃ y,(bz clq t)[j]? =some y:=⟨_,aL cZ⟩
     have Jn:y<n:=by have:=(iV.1 (bu hy)).1;omega
     have Xq:(ao (bz clq t))[j]? =some ((y:Nat):Int):=by rw[List.getElem?_map,hy];rfl
     obtain⟨f,hf⟩:∃ f,l[y]? =some f:=⟨_,aL oG⟩
     have zU:kp y=keep.any fun x=>f.name.toList==x.toList:=by
      rw[V'];unfold iS;rw[dF,List.getElem?_map,hf];rfl
     have Jl:=Jl (l:=keep) (s:=f.name);rw[<- zU] at Jl;refine ws ?_;refine ay ?_;refine aa (dV abc ?_);unfold mK;refine du ?_;refine ab ?_;refine cl Jl ?_;refine av (na rfl rfl rfl Fz c4) aK ⟨EO,oG⟩ ?_;refine bQ (eR (d:=B (kp y)) rfl rfl rfl rfl Kk) aK (cw t4 c4 ⟨rfl,by simp;omega⟩ rfl) ?_;refine cq cx (fO ?_)
     have C:((range n).map fun k=>if k=y then B (kp y) else B (hZ clq kp t j k))=(range n).map fun k=>B (hZ clq kp t (j+1) k):=List.map_congr_left fun k _=>by
      rw[Qs hy];split<;>rfl
     rw[C];have kd:=ZQ (fun k=>B (hZ clq kp t (j+1) k)) Jn;rw[Qs (k:=y) hy,if_pos rfl] at kd;obtain⟨cs,kd⟩:=kd
     have II:((bz clq t).take (j+1)).any kp=(((bz clq t).take j).any kp||kp y):=by
      rw[List.take_add_one,hy];simp
     cases hs:((bz clq t).take j).any kp with
     |true=>
      rw[hs] at II;refine ab ?_;refine jC rfl rfl fun _ _=>?_;refine jC rfl rfl fun _ _=>?_;refine jC rfl rfl fun _ _=>?_;refine jC rfl rfl fun _ _=>?_;refine ab ?_;refine aa ?_;refine ab ?_;exact aa (bf (j+1) (Gr ⟨rfl,rfl,rfl,rfl,rfl,by rw[II];rfl,rfl,rfl,rfl,rfl,rfl,rfl,trivial⟩ rfl rfl rfl) oG oG)
     |false=>
      rw[hs] at II;refine aY ?_;refine bc rfl rfl (na rfl rfl rfl Fz c4) (fun hc=>⟨(by repeat' (first|exact trivial|exact hc|exact rfl|refine And.intro ?_ ?_)),⟨EO,oG⟩⟩) ?_;refine bc rfl rfl (kM rfl rfl kd a4) (fun hc=>⟨(by repeat' (first|exact trivial|exact hc|exact rfl|refine And.intro ?_ ?_)),(kN t4 c4 kd)⟩) ?_;refine ab ?_;refine aa ?_;refine ab ?_;exact aa (bf (j+1) (Gr ⟨rfl,rfl,rfl,rfl,rfl,by rw[II];rfl,rfl,rfl,rfl,rfl,rfl,rfl,trivial⟩ rfl rfl rfl) oG oG)
    .have U:j=(bz clq t).length:=by
      have:¬ (j:Int)<(ao (bz clq t)).length:=by simpa using h
      simp at this;omega
     subst U;rw[List.take_length];exact au eH
   .intro s hg;refine⟨_,hg,az (ag ?_)⟩;refine ab ?_;obtain⟨J,Jo⟩:∃ J,(bz clq t)[0]? =some J:=⟨_,aL (List.length_pos_iff.2 X)⟩
    have ak1:(bz clq t).headD 0=J:=by
     cases Xr:bz clq t with
     |nil=>exact absurd Xr X
     |cons a l2=>rw[Xr] at Jo;simpa using Jo
    have ao6:J<n:=by have:=(iV.1 (bu Jo)).1;omega
    have Xq:(ao (bz clq t))[0]? =some ((J:Nat):Int):=by rw[List.getElem?_map,Jo];rfl
    refine aa (jf (fun s=>aH prog s ⟨ax [(1,bP keep),(2,.pt (fZ l sh ca (ao clq))),(6,.rp 2 0),(7,.rs 3 0 n),(9,aT (ao (bz clq t))),(25,bX (iH clq K)),(26,I (iH clq K).length),(27,I t)],mK n (hZ clq kp (t+1) 0) (kC clq kp (fe l) t 0),4⟩) ?_ ?_)
    .cases hs:(bz clq t).any kp with
     |true=>
      refine aQ rfl (fun h=>oH) fun h=>cO ?_;rw[Sc (f':=hZ clq kp (t+1) 0) (fun k hk=>abd oG hs) fun _ _=>rfl];exact au eH
     |false=>
      refine aQ rfl (fun h=>?_) fun h=>oH;unfold mK;refine aed abe ?_;refine aY ?_;refine av (na rfl rfl rfl Fz c4) aK ⟨EO,oG⟩ ?_;refine bQ (eR (d:=B true) rfl rfl rfl rfl Kk) aK (cw t4 c4 ⟨rfl,by simp;omega⟩ rfl) ?_
      have C:((range n).map fun k=>if k=J then B true else B (hZ clq kp t (bz clq t).length k))=(range n).map fun k=>B (hZ clq kp (t+1) 0 k):=List.map_congr_left fun k hk=>by
       rw[<- ZR (by have:=List.mem_range.1 hk;omega) hs,ak1];by_cases e:k=J
       .rw[if_pos e,if_pos ⟨e,X⟩]
       .rw[if_neg e,if_neg fun h=>e h.1]
      rw[C];exact cq cx (Gr eH rfl rfl rfl)
    .intro s hg;obtain⟨fl,C⟩:∃ fl,fl=hZ clq kp (t+1) 0:=⟨_,rfl⟩
     have BP:(bz clq t).find? fl=some (ss kp (bz clq t)):=by
      rw[<- Q7 X]
      have:∀ l:List Nat,(∀ i∈l,fl i=gl clq kp i)->l.find? fl=l.find? (gl clq kp):=fun l h=>by
       induction l with
       |nil=>rfl
       |cons a l ih=>rw[List.find?_cons,List.find?_cons,h a oS,ih fun i hi=>h i (List.mem_cons_of_mem _ hi)]
      exact this _ fun i hi=>by rw[C,Dc,(iV.1 hi).2,decide_eq_true (Nat.lt_succ_self t),Bool.true_and]
     obtain⟨p,hp⟩:∃ p:Int->Bool,p=fun i=>fl i.toNat:=⟨_,rfl⟩
     have aft:(ao (bz clq t)).find? p=some ((ss kp (bz clq t):Nat):Int):=by
      have e:(p ∘ fun(n:Nat)=>(n:Int))=fl:=by funext i;rw[hp];rfl
      rw[List.find?_map,e,BP];rfl
     obtain⟨ix,hix,ak2⟩:=aba aft;have Wc:∀ d∈(range n).map (fun i=>B (fl i)),Tr d:=.map fun _=>.s _
     have Ag:=Ag (l:=ao (bz clq t)) (g:=90) (fs:=[]) (cs:=[.pt [.sl ((range n).map fun i=>B (fl i)) n]]) (p:=p) (.fn oS (.cons (.pt (.cons (.sl Wc) .nil)) .nil)) fun i hi=>by
      obtain⟨y,hy,rfl⟩:=List.mem_map.1 hi;have Jn:y<n:=by have:=(iV.1 hy).1;omega
      have:=k90 (l:=(range n).map fl) (i:=y) (b:=fl y) (by simp[Jn]);rw[List.map_map,List.length_map,List.length_range] at this;have e:p ((y:Nat):Int)=fl y:=by rw[hp];rfl
      rw[e];exact this
     rw[ak2] at Ag
     have OJ:ss kp (bz clq t)<n:=by
      have:=List.mem_of_find?_eq_some BP;have:=(iV.1 this).1;omega
     obtain⟨rp,Cu⟩:∃ rp,rp=ss kp (bz clq t):=⟨_,rfl⟩
     rw[<- Cu] at hix OJ;rw[<- C] at hg;refine⟨_,hg,ag ?_⟩
     have fI:jK prog [1,2] (mK n fl (kC clq kp (fe l) t 0)) [aT (ao (bz clq t)),.fn (.func 90) [] [.rp 2 0]] [aT (ao (bz clq t)),.fn (.func 90) [] [.pt [.sl ((range n).map fun i=>B (fl i)) n]]]:=
      ⟨cN (di _),af6 oS rfl fun k d d' hd fm=>(by
       match k with
       |0=>
        cases hd;cases fm
        exact afi (i:=2) (off:=0) (cs:=[.rs 1 0 n]) (e:=92) rfl oS rfl rfl fun k d d' hd fm=>(by
         match k with
         |0=>
          cases hd;cases fm;exact BE (i:=1) (cs:=(range n).map fun i=>B (fl i)) (e:=4) rfl oS (by rw[c4,List.drop_zero,dq oS]) Wc
         |k+1=>cases hd)
       |k+1=>cases hd),trivial⟩
     refine ay ?_;refine UJ Ag rfl fI rfl aK ?_;refine ay ?_;refine aa (aw ?_);refine ay ?_
     refine aa (cH (α:=Nat)
      (fun j=>⟨ax [(1,bP keep),(2,.pt (fZ l sh ca (ao clq))),(6,.rp 2 0),(7,.rs 3 0 n),(13,I rp),(25,bX (iH clq K)),(26,I (iH clq K).length),(27,I t),(70,aT (ao (bz clq t))),(71,I (ao (bz clq t)).length),(72,I j)],mK n fl (kC clq kp (fe l) t j),4⟩)
      (fun j=>j<=(bz clq t).length) (fun j=>(bz clq t).length - j) 0
      (au eH) (Nat.zero_le _) ?_)
     intro j hj;refine SS ?_;refine aa ⟨_,rfl,fun h=>?_,fun h=>?_⟩
     .have cZ:j<(bz clq t).length:=by simpa using h
      clear h;obtain⟨y,hy⟩:∃ y,(bz clq t)[j]? =some y:=⟨_,aL cZ⟩
      have Jn:y<n:=by have:=(iV.1 (bu hy)).1;omega
      have Xq:(ao (bz clq t))[j]? =some ((y:Nat):Int):=by rw[List.getElem?_map,hy];rfl
      obtain⟨f,hf⟩:∃ f,l[rp]? =some f:=⟨_,aL oG⟩
      have CO:fe l rp=f.name:=by
       unfold fe;rw[dF,List.getElem?_map,hf];rfl
      refine ws ?_;refine ay ?_;refine aa (fO ?_);unfold mK;refine bh ?_;refine av (na rfl rfl rfl sM c9) aK ⟨lZ,oG⟩ ?_;refine bQ (eR (d:=S f.name) rfl rfl rfl rfl Kk) aK (cw t9 c9 ⟨rfl,by simp;omega⟩ rfl) ?_
      have fX:((range n).map fun k=>if k=y then S f.name else S (kC clq kp (fe l) t j k))=(range n).map fun k=>S (kC clq kp (fe l) t (j+1) k):=List.map_congr_left fun k _=>by
       rw[ZS hy, <- Cu,CO];split<;>rfl
      rw[fX];refine aa ?_;refine ab ?_;exact aa (bf (j+1) (Gr eH rfl rfl rfl) oG oG)
     .have U:j=(bz clq t).length:=by
       have:¬ (j:Int)<(ao (bz clq t)).length:=by simpa using h
       simp at this;omega
      subst U;show aq _ _ _ _ _ _ _ _ _;refine ab ?_;rw[Sc (f':=hZ clq kp (t+1) 0) (g':=kC clq kp (fe l) (t+1) 0) (fun _ _=>by rw[C]) fun k hk=>abf oG];exact aa (bf (t+1) (au eH) oG oG)
  .have U:t=K:=by
    have:¬ (t:Int)<(iH clq K).length:=by simpa using h
    omega
   subst U;exact au eH
 .intro s hg;have e1:((range n).map fun i=>B (hZ clq kp K 0 i))=(range n).map fun i=>B (gl clq kp i):=List.map_congr_left fun i hi=>by rw[Dc,decide_eq_true (Wa i (List.mem_range.1 hi))];rfl
  have e2:((range n).map fun i=>S (kC clq kp (fe l) K 0 i))=(range n).map fun i=>S (fe l (j3 clq kp i)):=List.map_congr_left fun i hi=>by unfold kC;rw[if_pos (Wa i (List.mem_range.1 hi))]
  unfold mK at hg;rw[e1,e2] at hg;refine⟨_,hg,aw ?_⟩;refine aY ?_
  refine aa ⟨_,(mi (i:=1) (e:=4) rfl (l:=[(4,.sl ((range n).map fun i=>B (gl clq kp i)) n),(5,.rs 3 0 n)]) ⟨jR (by rw[c4];simp),AZ oC,trivial⟩).trans
   (mi (i:=3) (cs:=(range n).map fun i=>S (fe l (j3 clq kp i))) (e:=9) (iv rfl oC (.cells fun d hd=>by obtain⟨x,_,rfl⟩:=List.mem_map.1 hd;exact .s _)) (l:=[(4,.sl ((range n).map fun i=>B (gl clq kp i)) n),(5,.sl ((range n).map fun i=>S (fe l (j3 clq kp i))) n)]) ⟨rfl,jR (by rw[c9];simp),trivial⟩),bG (gG rfl rfl rfl)⟩
end Go.Proofs.Tryz.K
namespace Go.Argus
def nh(l:List ai)(keep:List ByteArray):List ByteArray:=(range l.length).map fun i=>fe l (j3 (eT l) (iS l keep) i)
def pb(l:List ai)(keep:List ByteArray):List Bool:=(range l.length).map fun i=>gl (eT l) (iS l keep) i
def vG(k v:ByteArray):List (ByteArray×ByteArray)->List (ByteArray×ByteArray)
 |[]=>[(k,v)]
 |e::es=>if e.1=k then(k,v)::es else e::vG k v es
def su(es:List (ByteArray×ByteArray))(k:ByteArray):ByteArray:=match es.find? fun e=>decide (e.1=k) with
 |some e=>e.2
 |none=>"".toUTF8
def iI(es:List (ByteArray×ByteArray)):List (Value×D):=es.map fun e=>(.string e.1,S e.2)
def mV(l:List ai)(C:Nat->ByteArray)(t:Nat):List (ByteArray×ByteArray):=(range t).foldl (fun es i=>vG (fe l i) (C i) es) []
theorem Se(l:List ai)(C:Nat->ByteArray)(t:Nat):mV l C (t+1)=vG (fe l t) (C t) (mV l C t):=by
 unfold mV;rw[List.range_succ,List.foldl_append];rfl
def kU(l:List ai)(lf:Nat->Bool)(to:ByteArray->ByteArray)(t:Nat):List ai:=(range t).filterMap fun i=>if lf i then(l[i]?).map fun f=>eS f f.name to else none
def bL(l:List ai)(keep:List ByteArray):List ai:=kU l (gl (eT l) (iS l keep)) (su (mV l (fun i=>fe l (j3 (eT l) (iS l keep) i)) l.length)) l.length
theorem C0{l:List ai}{lf:Nat->Bool}{to:ByteArray->ByteArray}{t:Nat}{f:ai}(h:l[t]? =some f):kU l lf to (t+1)=kU l lf to t++(if lf t then [eS f f.name to] else []):=by
 unfold kU;rw[List.range_succ,List.filterMap_append];congr 1;simp only[List.filterMap_cons,List.filterMap_nil,h,Option.map_some];cases lf t<;>rfl
theorem Ti(a b:ByteArray):lx (.string a) (.string b)=decide (a=b):=by
 by_cases h:a=b
 .subst h;rw[decide_eq_true rfl];show(a.data.toList==a.data.toList)=true;simp
 .rw[decide_eq_false h];exact beq_eq_false_iff_ne.2 fun e=>h (rZ e)
theorem abg(k:Value)(d:D)(e:Value×D)(es:List (Value×D)):gp k d (e::es)=if lx e.1 k then(k,d)::es else e::gp k d es:=by
 unfold gp;obtain⟨a,b⟩:=e;simp only[cT];cases lx a k with
 |true=>simp
 |false=>
  simp only[Bool.false_eq_true,if_false];cases cT k es with
  |none=>rfl
  |some x=>rfl
theorem Va(k v:ByteArray):∀ es:List (ByteArray×ByteArray),gp (.string k) (S v) (iI es)=iI (vG k v es)
 |[]=>rfl
 |e::es=>by
  have e1:iI (e::es)=(Value.string e.1,S e.2)::iI es:=rfl;have e2:vG k v (e::es)=if e.1=k then(k,v)::es else e::vG k v es:=rfl
  rw[e1,abg,Ti,Va k v es,e2];by_cases h:e.1=k
  .rw[decide_eq_true h,if_pos rfl,if_pos h];rfl
  .rw[decide_eq_false h,if_neg h];rfl
theorem T6(k:ByteArray):∀ es:List (ByteArray×ByteArray),(cT (.string k) (iI es)).map (·.2)=(es.find? fun e=>decide (e.1=k)).map fun e=>S e.2
 |[]=>rfl
 |e::es=>by
  have e1:iI (e::es)=(Value.string e.1,S e.2)::iI es:=rfl;have ih:=T6 k es;rw[e1,List.find?_cons];simp only[cT];rw[Ti];by_cases h:e.1=k
  .rw[decide_eq_true h];rfl
  .rw[decide_eq_false h];simp only[Bool.false_eq_true,if_false,Option.map_map];rw[<- ih];rfl
def uW(c:List ByteArray):Bool:=c.all (fun x=>decide (x.size<=130))&&(decide (c.length<=12)||(decide (60<c.length)&&decide (c.length<=62)))
theorem Xv:∀ a b c d e:Bool,(if(if(if(if a=true then true else b)=true then true else c)=true then true else d)=true then true else e)=(a||(b||(c||(d||e)))):=by decide
def EP(f:ai):Bool:=decide (12<(f.blocks.length:Int))||(decide (20<(f.aO.length:Int))||(decide (10<(f.bK.length:Int))||(decide (8<(f.signals.length:Int))||decide (130<(f.name.size:Int)))))
def EQ(b:bE):Bool:=decide (8<(b.ins.length:Int))||(decide (8<(b.fin.aP.length:Int))||(decide (8<(b.fin.args.length:Int))||(decide (130<(b.fin.name.size:Int))||decide (8<(b.fin.ins.args.length:Int)))))
def Cc(y:cv):Bool:=decide (14<(y.args.length:Int))
def ER(w:gh):Bool:=decide (20<(w.name.size:Int))
def Cd(s:ByteArray):Bool:=decide (20<(s.size:Int))
def zA(b:bE):Bool:= !EQ b&&(b.ins.all (fun y=> !Cc y)&&b.fin.aP.all (fun w=> !ER w))
def xt(f:ai):Bool:= !EP f&&(f.signals.all (fun s=> !Cd s)&&f.blocks.all zA)
def tR(l:List ai):Bool:=l.all xt&&(decide ((l.length:Int)<=10)||(decide (60<(l.length:Int))&&decide ((l.length:Int)<=63)))
theorem Tj{l:List ai}(h:tR l=true):l.length<=63:=by
 unfold tR at h;simp only[aW,Bool.or_eq_true,decide_eq_true_eq] at h;omega
theorem DK{α:Type}{p:α->Bool}{l:List α}{x:α}(hx:x∈l)(h:p x=false):l.all p=false:=by
 rw[Bool.eq_false_iff];intro ht;rw[bS.1 ht x hx] at h;cases h
theorem GJ{a b:ByteArray}(h:(!(a.toList==b.toList))=false):a=b:=by
 have h:a.toList=b.toList:=by simpa using h
 rw[qf,qf] at h;exact rZ h
def T7:Argus.End:=⟨3, -1,0,0,0,⟨#[]⟩,o6,[],[], -1⟩
def LY(c:ByteArray):Argus.End:=⟨6, -1,0,1,0,c,o6,[],[], -1⟩
def jl(C c:ByteArray):ai:=⟨C,false,0,0,[],[],[],[⟨[],LY c⟩,⟨[],T7⟩]⟩
def Ew(C:ByteArray):ai:=⟨C,false,0,0,[],[],[],[⟨[],T7⟩]⟩
abbrev sA:ByteArray:=⟨#[97]⟩
abbrev sB:ByteArray:=⟨#[98]⟩
abbrev sC:ByteArray:=⟨#[99]⟩
abbrev sD:ByteArray:=⟨#[100]⟩
abbrev sE:ByteArray:=⟨#[101]⟩
def dK:List ai:=[jl sA sB,jl sB sA,jl sC sD,Ew sD,jl sE sC]
theorem ql:dh dK=(0,0):=kr
theorem Ba:aV dK=[[1],[0],[3],[],[2]]:=kr
theorem abj(C c:ByteArray):qJ (jl C c)=jl lC lC:=rfl
theorem acZ{κ:Type}[DecidableEq κ]{s t:κ}(h:s≠t):bl [s,s,s,t,s]=[0,0,0,1,0]:=by
 have h':t≠s:=fun e=>h e.symm
 have e:bt [s,s,s,t,s]=[s,t]:=by
  simp[bt,mn,h,h']
 unfold bl;rw[e];simp[List.idxOf_cons,beq_eq_false_iff_ne.2 h,beq_eq_false_iff_ne.2 h']
theorem Bb:cE dK=[0,0,0,1,0]:=by
 have h0:=mz (l:=dK) (by rw[ql]);have hp:∀ C c,iy (jl C c)=jF (jl lC lC):=fun C c=>congrArg jF (abj C c)
 have J:jF (jl lC lC)≠iy (Ew sD):=fun e=>by
  have:=PT (f:=jl sA sB) (g:=Ew sD) (h0.nJ _ (by simp[dK])) (h0.nJ _ (by simp[dK])) ((hp _ _).trans e);revert this;decide
 unfold cE
 have:bp dK=[jF (jl lC lC),jF (jl lC lC),jF (jl lC lC),iy (Ew sD),jF (jl lC lC)]:=by
  unfold bp dK;simp only[List.map_cons,List.map_nil,hp]
 rw[this];exact acZ J
theorem J0:eT dK=[0,0,1,2,3]:=by
 unfold eT;rw[Bb,Ba]
 kernel_rfl
theorem ac0:qg dK=bX [[0,1],[2],[3],[4]]:=by
 unfold qg nw;rw[ql,J0]
 kernel_rfl
theorem ac1:Au dK [[0],[1],[2],[3],[4]]=true:=by
 unfold Au;rw[ql,Bb,Ba]
 kernel_rfl
theorem ac2:Au dK [[0,1,2],[3],[4]]=false:=by
 unfold Au;rw[ql,Bb,Ba]
 kernel_rfl
theorem ac3:qu dK 0 4=[aT [0,0],B true,I 0]:=by
 unfold qu;rw[ql,Bb,Ba]
 kernel_rfl
theorem ac4:qu dK 0 1=[.z,B false,I 0]:=by
 unfold qu;rw[ql,Bb,Ba]
 kernel_rfl
theorem ac5:qu dK 3 0=[aT [],B true,I 0]:=by
 unfold qu;rw[ql,Bb,Ba]
 kernel_rfl
def vr:List ai:=[jl sA sA,jl sC sD,Ew sD,jl sE sC]
theorem ZV:bL dK [sE]=vr:=by
 unfold bL;rw[J0]
 kernel_rfl
theorem ZW:nh dK [sB]=[sB,sB,sC,sD,sE]:=by
 unfold nh;rw[J0]
 kernel_rfl
theorem zd(l:List ai):(cE l).length=(aV l).length:=by simp[cE,bp,aV]
theorem gf(l:List ai):(aV l).length=l.length:=by simp[aV]
theorem pG(l:List ai):(eT l).length=l.length:=by
 unfold eT;rw[ZX (zd l),gf]
theorem ac6{l:List ai}(hl:l.length<=63):(nw l).length<=100000/\∀ x∈nw l,x.length<=100000:=by
 have hs:=pG l;refine⟨?_,fun x hx=>?_⟩
 .unfold nw;rw[KQ];have:=uJ (eT l);omega
 .unfold nw iH Dr at hx;simp only[List.map_map,List.mem_map] at hx;obtain⟨k,_,rfl⟩:=hx;simp only[Function.comp_apply,ao,List.length_map];have:=List.length_filter_le (fun i=>(eT l).getD i 0==k) (range (eT l).length);simp at this ⊢;omega
theorem jV.Vc{l:List ai}{s:ByteArray}(h:fa (ff l) s=true):∃ g,l[iR l s]? =some g/\g.name=s:=by
 have h1:=ac7 h;unfold iR;rw[if_pos h];rw[List.getElem?_map] at h1;obtain⟨g,hg,e⟩:=cU.1 h1;exact⟨g,hg,e⟩
abbrev nB:ByteArray:=⟨#[]⟩
def amq(l:List ai)(to:List ByteArray)(i:Nat)(f:ai):ai:=eS f (to.getD i nB) fun s=>to.getD (iR l s) nB
def amp(l:List ai)(to:List ByteArray)(k:Nat):List ai:=((l.take k).zipIdx).map fun x=>amq l to x.2 x.1
def Ce(l:List ai)(to:List ByteArray):List ai:=amp l to l.length
theorem aoC{l:List ai}{to:List ByteArray}{k:Nat}(h:k<=l.length):(amp l to k).length=k:=by
 unfold amp;simp;omega
theorem KR(l:List ai)(to:List ByteArray):(Ce l to).length=l.length:=aoC (aZ _)
theorem wB{α β:Type}{f:α->β}(hf:∀ x y,f x=f y->x=y):∀ {a b:List α},a.map f=b.map f->a=b
 |[],[],_=>rfl
 |x::a,y::b,h=>by
  simp only[List.map_cons,List.cons.injEq] at h;rw[hf x y h.1,wB hf h.2]
 |[],_::_,h=>by simp at h
 |_::_,[],h=>by simp at h
theorem aad{f g:ai}(hf:o3 f)(hg:o3 g)(h:jF f=jF g):jj f=jj g:=
 wB (fun _ _ e=>wB (fun _ _ e=>rZ e) e) (QE hf hg h)
theorem yG{m n:Int}(h:eC m=eC n):m=n:=SA (by rw[<- L4, <- L4,h])
theorem yV{n:Int}(h0:0<=n)(h:n<=255):gQ n=n:=by
 unfold gQ;simp only[IntKind.wrap,IntKind.bits,IntKind.signed];simp;omega
theorem Hj{α:Type}{P:α->Prop}:∀ {p q A B:List α},(∀ a∈p,P a)->(∀ a∈q,P a)->(∀ a,A.head? =some a->¬ P a)->(∀ b,B.head? =some b->¬ P b)->p++A=q++B->p=q/\A=B
 |[],[],_,_,_,_,_,_,h=>⟨rfl,h⟩
 |x::p,y::q,A,B,hp,hq,hA,hB,h=>by
  simp only[List.cons_append,List.cons.injEq] at h;obtain⟨h1,h2⟩:=Hj (fun a ha=>hp a (List.mem_cons_of_mem _ ha)) (fun a ha=>hq a (List.mem_cons_of_mem _ ha)) hA hB h.2;exact⟨by rw[h.1,h1],h2⟩
 |[],y::q,A,B,hp,hq,hA,hB,h=>by
  simp only[List.nil_append] at h;rw[h] at hA;exact absurd (hq y oS) (hA y rfl)
 |x::p,[],A,B,hp,hq,hA,hB,h=>by
  simp only[List.nil_append] at h;rw[<- h] at hB;exact absurd (hp x oS) (hB x rfl)
def Wd(w:ByteArray)(l:List ByteArray):Prop:=l.head? =some w
structure Bu(x:cv):Prop where
 op:0<=x.op/\x.op<=255
structure Ea(b:bE):Prop where
 ins:∀ x∈b.ins,Bu x
 kind:1<=b.fin.kind/\b.fin.kind<=9
 fin:Bu b.fin.ins
 no:b.fin.kind≠5->b.fin.ins=o6
theorem TC{x y:cv}(hx:Bu x)(hy:Bu y){w:ByteArray}(h:kE w x=kE w y):x=y:=by
 unfold kE at h;simp only[List.cons.injEq,true_and] at h;have e:=wB (fun _ _ e=>yG e) h;unfold vC at e;simp only[List.cons.injEq] at e;obtain⟨e1,e2,e3,e4,e5,e6⟩:=e;rw[yV hx.op.1 hx.op.2,yV hy.op.1 hy.op.2] at e1;cases x;cases y;simp_all
theorem abN{x y:Argus.End}(hx:1<=x.kind/\x.kind<=9)(hy:1<=y.kind/\y.kind<=9)(h:po x=po y):x.kind=y.kind/\x.a=y.a/\x.b=y.b/\x.to=y.to/\x.fY=y.fY/\x.others=y.others/\x.args=y.args:=by
 unfold po at h;simp only[List.cons.injEq,true_and] at h;have e:=wB (fun _ _ e=>yG e) h;unfold tM at e;simp only[List.cons.injEq] at e;obtain⟨e1,e2,e3,e4,e5,e6,e7⟩:=e;rw[yV oG oG,yV oG oG] at e1;exact⟨e1,e2,e3,e4,e5,e6,e7⟩
theorem adz{w v:gh}(h:iY w=iY v):w=v:=by
 unfold iY at h;simp only[List.cons.injEq,true_and,and_true] at h;cases w;cases v;simp only[gh.mk.injEq];exact⟨h.1,yG h.2⟩
theorem SB:pk≠B4/\tF≠zv/\tF≠BT/\tF≠ng/\BT≠ng/\MJ≠MI:=by decide
def HY(A:List (List ByteArray)):Prop:=∀ a,A.head? =some a->a=[ng]
theorem abO{x y:bE}(hx:Ea x)(hy:Ea y){A B:List (List ByteArray)}(U:HY A)(X:HY B)(h:gX x++A=gX y++B):x=y/\A=B:=by
 obtain⟨n1,n2,n3,n4,n5,_⟩:=SB;unfold gX at h;simp only[List.cons_append,List.cons.injEq,true_and,List.append_assoc] at h
 obtain⟨h1,h⟩:=Hj (P:=Wd pk) (fun a ha=>by
  simp only[pT,List.mem_map] at ha
  obtain⟨_,_,rfl⟩:=ha;rfl) (fun a ha=>by
  simp only[pT,List.mem_map] at ha
  obtain⟨_,_,rfl⟩:=ha;rfl) (fun a ha e=>by
  simp only[List.head?_cons,aG] at ha;subst ha
  exact n1 (Option.some.inj e).symm) (fun a ha e=>by
  simp only[List.head?_cons,aG] at ha;subst ha
  exact n1 (Option.some.inj e).symm) h
 simp only[List.cons.injEq] at h;obtain⟨h2,h⟩:=h;obtain⟨e1,e2,e3,e4,e5,e6,e7⟩:=abN hx.kind hy.kind h2
 have hT:∀ (z:bE) (C:List (List ByteArray)),HY C->∀ a,(j7 z.fin++(z.fin.aP.map iY++C)).head? =some a->¬ Wd tF a:=fun z C hC a ha e=>by
  unfold j7 at ha;split at ha
  .simp only[List.cons_append,List.head?_cons,aG] at ha;subst ha;exact n2 (Option.some.inj e).symm
  .rw[List.nil_append] at ha;cases hw:z.fin.aP with
   |nil=>
    rw[hw] at ha;have:=hC a ha;subst this;exact n4 (Option.some.inj e).symm
   |cons w wsq=>
    rw[hw] at ha;simp only[List.map_cons,List.cons_append,List.head?_cons,aG] at ha;subst ha;exact n3 (Option.some.inj e).symm
 have hN:∀ z:bE,∀ a∈jk z.fin,Wd tF a:=fun z a ha=>by
  unfold jk at ha;split at ha
  .simp at ha
  .simp only[List.mem_cons,List.not_mem_nil,or_false] at ha;subst ha;rfl
 obtain⟨J,h⟩:=Hj (P:=Wd tF) (hN x) (hN y) (hT x A U) (hT y B X) h
 have e8:x.fin.name=y.fin.name:=by
  have he:∀ s:ByteArray,s.toList=[]->bW s=[]:=fun s hs=>by rw[qf] at hs;exact hs
  unfold jk at J;split at J<;>split at J
  .rename_i q1 q2;exact rZ (by rw[he _ q1,he _ q2])
  .simp at J
  .simp at J
  .simp only[List.cons.injEq,true_and,and_true] at J;exact J
 have hh:x.fin.ins=y.fin.ins/\x.fin.aP.map iY++A=y.fin.aP.map iY++B:=by
  unfold j7 at h;by_cases hk:x.fin.kind=5
  .rw[if_pos hk,if_pos (e1▸hk)] at h;simp only[List.cons_append,List.nil_append,List.cons.injEq] at h;exact⟨TC hx.fin hy.fin h.1,h.2⟩
  .rw[if_neg hk,if_neg (e1▸hk)] at h;exact⟨(hx.no hk).trans (hy.no (e1▸hk)).symm,h⟩
 obtain⟨e9,h⟩:=hh
 have hW:∀ z:bE,∀ a∈z.fin.aP.map iY,Wd BT a:=fun z a ha=>by
  obtain⟨w,_,rfl⟩:=List.mem_map.1 ha;rfl
 obtain⟨h4,M⟩:=Hj (P:=Wd BT) (hW x) (hW y) (fun a ha e=>by
  rw[U a ha] at e
  exact n5 (Option.some.inj e).symm) (fun a ha e=>by
  rw[X a ha] at e
  exact n5 (Option.some.inj e).symm) h
 have XV:=wB (fun _ _ e=>adz e) h4
 have e0:x.ins=y.ins:=by
  have:∀ {a b:List cv},(∀ i∈a,Bu i)->(∀ i∈b,Bu i)->a.map (kE pk)=b.map (kE pk)->a=b:=fun {a}=>by
   induction a with
   |nil=>intro b _ _ h;cases b with
    |nil=>rfl
    |cons _ _=>simp at h
   |cons u a ih=>intro b h1 h2 h;cases b with
    |nil=>simp at h
    |cons v b=>
     simp only[List.map_cons,List.cons.injEq] at h;rw[TC (h1 u oS) (h2 v oS) h.1,ih (fun i hi=>h1 i (List.mem_cons_of_mem _ hi)) (fun i hi=>h2 i (List.mem_cons_of_mem _ hi)) h.2]
  exact this hx.ins hy.ins h1
 refine⟨?_,M⟩;rcases x with⟨xi,xf⟩
 rcases y with⟨yi,yf⟩
 cases xf;cases yf;simp_all
theorem Py(bs:List bE):HY (bs.flatMap gX):=fun a ha=>by
 cases bs with
 |nil=>cases ha
 |cons b bs=>
  unfold gX at ha;simp only[List.flatMap_cons,List.cons_append,List.head?_cons,aG] at ha;exact ha.symm
theorem QF:∀ {a b:List bE},(∀ x∈a,Ea x)->(∀ x∈b,Ea x)->a.flatMap gX=b.flatMap gX->a=b
 |[],[],_,_,_=>rfl
 |x::a,y::b,h1,h2,h=>by
  obtain⟨e1,e2⟩:=abO (h1 x oS) (h2 y oS) (Py a) (Py b) h;rw[e1,QF (fun z hz=>h1 z (List.mem_cons_of_mem _ hz)) (fun z hz=>h2 z (List.mem_cons_of_mem _ hz)) e2]
 |[],y::b,_,_,h=>by unfold gX at h;simp at h
 |x::a,[],_,_,h=>by unfold gX at h;simp at h
structure Hk(f:ai):Prop where
 ud:o3 f
 wo:0<=f.result/\f.result<=255
 aO:∀ r∈f.aO,0<=r/\r<=255
 bK:∀ r∈f.bK,0<=r/\r<=255
 bF:∀ b∈f.blocks,Ea b
theorem Hl{l:List Int}(h:∀ r∈l,0<=r/\r<=255):l.map gQ=l:=by
 conv=>rhs;rw[<- List.map_id l]
 exact List.map_congr_left fun r hr=>yV (h r hr).1 (h r hr).2
theorem adA{f g:ai}(hf:Hk f)(hg:Hk g)(h:jF f=jF g):f=g:=by
 obtain⟨_,_,_,_,_,C⟩:=SB;have h:=aad hf.ud hg.ud h;unfold jj at h;obtain⟨h1,h2⟩:=List.append_inj h rfl;have hb:=QF hf.bF hg.bF h2;unfold BU at h1;simp only[List.cons.injEq,true_and,and_true] at h1;obtain⟨⟨e1,e2,e3,e4⟩,e5,e6,e7⟩:=h1
 have e2:f.iter=g.iter:=by
  unfold r8 at e2;revert e2;cases f.iter<;>cases g.iter<;>simp[C,C.symm]
 have e3:=yG e3;have e4:=yG e4;rw[yV hf.wo.1 hf.wo.2,yV hg.wo.1 hg.wo.2] at e4;have e5:=wB (fun _ _ e=>yG e) e5;have e6:=wB (fun _ _ e=>yG e) e6;rw[Hl hf.aO,Hl hg.aO] at e5;rw[Hl hf.bK,Hl hg.bK] at e6;cases f;cases g;simp_all
theorem adB{op:Int}(h:(iw mA op).isSome=true):0<=op/\op<=255:=by
 cases hs:iw mA op with
 |none=>rw[hs] at h;cases h
 |some s=>
  have:=yl hs;have C:mA.all (fun x=>decide (0<=x.1)&&decide (x.1<=255))=true:=by decide
  have:=bS.1 C _ this;simp only[aW,decide_eq_true_eq] at this;exact this
theorem adC{op:Int}(h:(iw lP op).isSome=true):0<=op/\op<=255:=by
 cases hs:iw lP op with
 |none=>rw[hs] at h;cases h
 |some s=>
  have:=yl hs;have C:lP.all (fun x=>decide (0<=x.1)&&decide (x.1<=255))=true:=by decide
  have:=bS.1 C _ this;simp only[aW,decide_eq_true_eq] at this;exact this
theorem adD{f:ai}{b ahead:Int}{x:cv}{phis:Bool}(h:kB f b x phis ahead=true):0<=x.op/\x.op<=255:=by
 unfold kB at h;split at h
 .omega
 split at h
 .omega
 split at h
 .omega
 split at h
 .omega
 .rw[aW] at h;exact adB h.1
theorem adE{x:cv}(h:Bp x=true):x=o6:=by
 unfold Bp at h;simp only[aW,decide_eq_true_eq] at h;obtain⟨h1,h2,J,M,U,C⟩:=h;have C:x.args=[]:=List.length_eq_zero_iff.1 oG;cases x;simp_all[o6]
theorem adF{x:Argus.End}(h:tG x=true):x.ins=o6:=by
 unfold tG at h;simp only[aW] at h;exact adE h.2.2.2.2.2.2.2.2.2
theorem abP{f:ai}{x:Argus.End}(h:iW f x=true):(x.kind≠5->x.ins=o6)/\0<=x.ins.op/\x.ins.op<=255:=by
 unfold iW at h;rw[aW] at h;obtain⟨h1,h2⟩:=h;have hz:x.ins=o6->(x.kind≠5->x.ins=o6)/\0<=x.ins.op/\x.ins.op<=255:=fun e=>⟨fun _=>e,by rw[e];decide⟩
 by_cases C:x.kind=5
 .refine⟨fun h=>absurd C h,?_⟩;unfold eA at h1;simp only[C] at h1;simp at h1;exact adC h1.1
 .refine hz ?_;have:=adF h2;unfold eA at this;simp only[C,if_false] at this
  repeat' split at this
  all_goals exact this
theorem aeQ{f:ai}(h:lL f=true):Hk f:=by
 have M:=HI h;have J:=s6 h;unfold lL at h;simp only[aW] at h;obtain⟨h1,h2,h3,h4,h5⟩:=h;unfold rR at h1;simp only[aW] at h1;unfold wD at h2;simp only[aW] at h2
 have hk:∀ {l:List Int} {m:Int},m<=255->rQ l m=true->∀ r∈l,0<=r/\r<=255:=fun {l m} hm h r hr=>by
  unfold rQ at h;simp only[Bool.not_eq_true',List.any_eq_false] at h;have:=h r hr;unfold A3 at this;simp at this;omega
 refine⟨J,?_,hk oC h2.1,hk oC h2.2.2.1,fun b hb=>?_⟩
 .have:=h1.2.2.1;unfold uC at this;simp at this;omega
 .obtain⟨k,C⟩:=dN hb;have gC:k<f.blocks.length:=(bI.1 C).1;have he:=bS.1 h4 k (List.mem_range.2 gC);unfold lK at he;rw[getD_some C] at he;simp only[aW] at he;obtain⟨U,X⟩:=abP he.1;refine⟨fun x hx=>?_,(J.bF b hb).fin.kind,⟨X⟩,U⟩;obtain⟨j,hj⟩:=dN hx;exact⟨adD (M.right k b C j x hj)⟩
theorem SC{f:ai}(h:ep f=0):Hk (qJ f):=aeQ (checked (JX h))
theorem abQ{f g:ai}(hf:ep f=0)(hg:ep g=0):iy f=iy g↔qJ f=qJ g:=
 ⟨fun h=>adA (SC hf) (SC hg) h,fun h=>congrArg jF h⟩
theorem Xy(a b:Bool):(if a=true then true else b)=(a||b):=by cases a<;>rfl
theorem alF(a b:Bool):(if a=true then b else false)=(a&&b):=by cases a<;>rfl
abbrev gw(n:Int):Int:=IntKind.i64.wrap n
noncomputable def BQ(x y:cv):Bool:= @decide (x=y) (Classical.propDecidable _)
theorem Ds{x y:cv}:BQ x y=true↔x=y:=by unfold BQ;simp
def gm(f:ai):ai:={ f with aO:=f.aO.map gw,bK:=f.bK.map gw }
noncomputable def ze(f g:ai):Bool:= @decide (gm f=gm g) (Classical.propDecidable _)
theorem Kl{f g:ai}:ze f g=true↔gm f=gm g:=by unfold ze;simp
theorem ac8{f g:ai}(h:gm f=gm g->False):ze f g=false:=by
 rw[Bool.eq_false_iff];intro e;exact h (Kl.1 e)
theorem afx{a b:ByteArray}:(a.toList==b.toList)=true↔a=b:=by
 constructor
 .intro h;have h:a.toList=b.toList:=by simpa using h
  rw[qf,qf] at h;exact rZ h
 .rintro rfl;simp
theorem ac9(x y:cv):BQ x y=((x.op==y.op)&&((x.to==y.to)&&((x.a==y.a)&&((x.b==y.b)&&((x.n==y.n)&&decide (x.args=y.args)))))):=by
 cases x;cases y;rw[Bool.eq_iff_iff,Ds];simp
theorem PU{l:List ai}(h:jV l):(dh l).2=0:=by
 unfold dh;rw[if_neg (by have:=h.len;omega)]
 have h1:(range l.length).find? (fun i=>ky l i !=0)=none:=by
  refine F1 fun i hi=>?_;obtain⟨f,hf⟩:∃ f,l[i]? =some f:=⟨_,aL hi⟩
  unfold ky;rw[hf];simp only[h.nJ f (bu hf),if_true];by_cases h0:0<i
  .have:=h.yd (i - 1) oG;rw[show i - 1+1=i by omega] at this;have e:oU l i=f.name:=yj hf;rw[e] at this;unfold zx;rw[this];simp
  .simp[h0]
 have h2:(range l.length).find? (s5 l)=none:=by
  refine F1 fun i hi=>?_;obtain⟨f,hf⟩:∃ f,l[i]? =some f:=⟨_,aL hi⟩
  unfold s5;rw[hf];simp[h.calls f (bu hf)]
 rw[h1,h2]
theorem Rz{l:List ai}(hn:(ff l).Nodup){i:Nat}{f:ai}(h:l[i]? =some f):findF l f.name=some f:=by
 unfold findF;refine Lr h oS fun j y hj hy=>?_;rw[Bool.eq_false_iff];intro e;have e:y.name=f.name:=afx.1 e;have h1:(ff l)[j]? =some f.name:=by simp[hy,e]
 have h2:(ff l)[i]? =some f.name:=by simp[h]
 have:=(List.getElem?_inj (bI.1 h1).1 hn).1 (h1.trans h2.symm);omega
theorem uP{l:List ai}{i:Nat}{f:ai}(h:l[i]? =some f):fe l i=f.name:=by
 unfold fe;rw[dF,List.getElem?_map,h];rfl
def ln(lf:Nat->Bool)(i:Nat):Nat:=((range i).filter lf).length
theorem Gd(lf:Nat->Bool)(i:Nat):ln lf (i+1)=ln lf i+if lf i then 1 else 0:=by
 unfold ln;rw[List.range_succ,List.filter_append,List.length_append];cases h:lf i<;>simp[List.filter,h]
theorem abR{lf:Nat->Bool}{i j:Nat}(h:i<=j):ln lf i<=ln lf j:=by
 induction j with
 |zero=>rw[show i=0 by omega];exact aZ _
 |succ j ih=>
  by_cases e:i=j+1
  .rw[e];exact aZ _
  .have:=ih oG;rw[Gd];omega
theorem DP{lf:Nat->Bool}{i j:Nat}(h:i<j)(hl:lf i=true):ln lf i<ln lf j:=by
 have h1:=Gd lf i;rw[hl,if_pos rfl] at h1;have:=abR (lf:=lf) (show i+1<=j from h);omega
theorem adG{lf:Nat->Bool}{i j:Nat}(hi:lf i=true)(hj:lf j=true)(h:ln lf i=ln lf j):i=j:=by
 rcases Nat.lt_trichotomy i j with g|g|g
 .have:=DP g hi;omega
 .exact g
 .have:=DP g hj;omega
section
variable{l:List ai}{lf:Nat->Bool}{to:ByteArray->ByteArray}
theorem AK:∀ {t:Nat},t<=l.length->(kU l lf to t).length=ln lf t
 |0,_=>rfl
 |t+1,h=>by
  obtain⟨f,hf⟩:∃ f,l[t]? =some f:=⟨_,aL oG⟩
  rw[C0 hf,List.length_append,AK oG,Gd];cases lf t<;>rfl
theorem QG:∀ {t:Nat},t<=l.length->∀ {i:Nat} {f:ai},i<t->lf i=true->l[i]? =some f->(kU l lf to t)[ln lf i]? =some (eS f f.name to)
 |0,_,i,f,hi,_,_=>by omega
 |t+1,h,i,f,hi,hl,hf=>by
  obtain⟨g,hg⟩:∃ g,l[t]? =some g:=⟨_,aL oG⟩
  rw[C0 hg];have hlen:=AK (l:=l) (lf:=lf) (to:=to) (t:=t) oG;by_cases e:i=t
  .subst e;rw[hg] at hf;cases hf;rw[hl,if_pos rfl,List.getElem?_append_right oG,hlen,Nat.sub_self];rfl
  .have:=DP (lf:=lf) (show i<t by omega) hl;rw[List.getElem?_append_left oG];exact QG oG oG hl hf
theorem P5:∀ {t:Nat},t<=l.length->∀ {j:Nat} {g:ai},(kU l lf to t)[j]? =some g->∃ i f,i<t/\lf i=true/\l[i]? =some f/\ln lf i=j/\g=eS f f.name to
 |0,_,j,g,h=>by simp[kU] at h
 |t+1,h,j,g,hg=>by
  obtain⟨f,hf⟩:∃ f,l[t]? =some f:=⟨_,aL oG⟩
  have hlen:=AK (l:=l) (lf:=lf) (to:=to) (t:=t) oG;rw[C0 hf] at hg;by_cases hj:j<ln lf t
  .rw[List.getElem?_append_left oG] at hg;obtain⟨i,f,h1,h2,C,J,M⟩:=P5 oG hg;exact⟨i,f,oG,h2,C,J,M⟩
  .rw[List.getElem?_append_right oG,hlen] at hg;cases hl:lf t with
   |false=>rw[hl] at hg;simp at hg
   |true=>
    rw[hl,if_pos rfl] at hg;have af:=(bI.1 hg).1;simp at af;have e:j=ln lf t:=by omega
    subst e;simp at hg;exact⟨t,f,oG,hl,hf,rfl,hg.symm⟩
end
theorem SD(k v k':ByteArray):∀ es:List (ByteArray×ByteArray),su (vG k v es) k'=if k=k' then v else su es k'
 |[]=>by
  unfold su;simp only[vG,List.find?_cons,List.find?_nil];by_cases h:k=k'<;>simp[h]
 |e::es=>by
  have ih:=SD k v k' es;unfold su at ih ⊢;simp only[vG];by_cases h:e.1=k
  .rw[if_pos h];simp only[List.find?_cons];by_cases h2:k=k'
   .simp[h2]
   .have:¬ e.1=k':=fun C=>h2 (h.symm.trans C);simp[h2,this]
  .rw[if_neg h];simp only[List.find?_cons];by_cases h2:e.1=k'
   .have:¬ k=k':=fun C=>h (h2.trans C.symm);simp[h2,this]
   .simp only[h2,decide_false];exact ih
theorem TD{l:List ai}(hn:(ff l).Nodup)(C:Nat->ByteArray):∀ {t:Nat},t<=l.length->∀ {i:Nat},i<t->su (mV l C t) (fe l i)=C i
 |0,_,i,h=>by omega
 |t+1,ht,i,hi=>by
  rw[Se,SD];by_cases e:i=t
  .subst e;rw[if_pos rfl]
  .rw[if_neg fun J=>?_]
   .exact TD hn C oG oG
   .obtain⟨f,hf⟩:∃ f,l[t]? =some f:=⟨_,aL oG⟩
    obtain⟨g,hg⟩:∃ g,l[i]? =some g:=⟨_,aL oG⟩
    rw[uP hf,uP hg] at J;have h1:(ff l)[t]? =some f.name:=by simp[hf]
    have h2:(ff l)[i]? =some f.name:=by simp[hg,J]
    have:=(List.getElem?_inj (bI.1 h1).1 hn).1 (h1.trans h2.symm);omega
section
variable{clq:List Nat}{kp:Nat->Bool}
theorem QH{i j:Nat}(hj:j<clq.length)(h:clq.getD j 0=clq.getD i 0)(hk:kp j=true):kp (j3 clq kp i)=true/\j3 clq kp i<=j:=by
 unfold j3 ss;have hm:j∈bz clq (clq.getD i 0):=iV.2 ⟨hj,h⟩;cases hf:(bz clq (clq.getD i 0)).find? kp with
 |none=>exact absurd hk (by have:=List.find?_eq_none.1 hf j hm;simpa using this)
 |some y=>
  refine⟨List.find?_some hf,?_⟩;show y<=j;obtain⟨_,J,u2,e,hn⟩:=List.find?_eq_some_iff_append.1 hf;have C:(bz clq (clq.getD i 0)).Pairwise (·<·):=Kt _ _;rw[e] at hm C;rcases List.mem_append.1 hm with hm|hm
  .have:=hn j hm;rw[hk] at this;cases this
  .rcases List.mem_cons.1 hm with rfl|hm
   .exact aZ _
   .exact Nat.le_of_lt ((List.pairwise_cons.1 (List.pairwise_append.1 C).2.1).1 j hm)
theorem Uq{i:Nat}(h:i<clq.length):bz clq (clq.getD i 0)≠[]:=fun e=>by
 have:i∈bz clq (clq.getD i 0):=iV.2 ⟨h,rfl⟩;rw[e] at this;cases this
theorem SE{i:Nat}(h:i<clq.length):j3 clq kp i<clq.length/\clq.getD (j3 clq kp i) 0=clq.getD i 0/\gl clq kp (j3 clq kp i)=true:=by
 have hf:=Q7 (kp:=kp) (Uq h);have h1:=List.mem_of_find?_eq_some hf;have h2:=List.find?_some hf;obtain⟨C,J⟩:=iV.1 h1;exact⟨C,J,h2⟩
theorem aeR{i j:Nat}(h:clq.getD i 0=clq.getD j 0):j3 clq kp i=j3 clq kp j:=by unfold j3;rw[h]
theorem QI{i:Nat}(hl:gl clq kp i=true)(hk:kp i=false):(∀ j,j<clq.length->clq.getD j 0=clq.getD i 0->kp j=false/\i<=j)/\(bz clq (clq.getD i 0)).headD 0=i:=by
 unfold gl at hl;rw[hk,Bool.false_or,aW,Bool.not_eq_true',beq_iff_eq] at hl;obtain⟨h1,h2⟩:=hl;refine⟨fun j hj e=>⟨?_,?_⟩,h2⟩
 .rw[List.any_eq_false] at h1;simpa using h1 j (iV.2 ⟨hj,e⟩)
 .have hm:j∈bz clq (clq.getD i 0):=iV.2 ⟨hj,e⟩;cases hc:bz clq (clq.getD i 0) with
  |nil=>rw[hc] at hm;cases hm
  |cons a x=>
   rw[hc] at h2;have h2:a=i:=h2;have:=aae (N:=clq.length) (p:=fun k=>clq.getD k 0==clq.getD i 0) hc j hj (beq_iff_eq.2 e);omega
end
noncomputable def BR(a b:List ai):Bool:= @decide (a.map gm=b.map gm) (Classical.propDecidable _)
theorem Km{a b:List ai}:BR a b=true↔a.map gm=b.map gm:=by unfold BR;simp
def Jv(l:List ai):Prop:=∀ f∈l,f.aO.length<=1000000/\f.bK.length<=1000000
theorem jV.cmp{l:List ai}(h:jV l):Jv l:=fun f hf=>by
 have hb:=s6 (Go.Argus.checked (h.nJ f hf));have:=hb.aO;have:=hb.bK;omega
end Go.Argus
namespace Go.Proofs.Tryz.K
theorem Ls{l:List ai}{keep:List ByteArray}(h:keepE l keep=0):(dh l).2=0/\keep.length<=60:=by
 unfold keepE at h;split at h
 .rename_i h1;exact absurd h h1
 .rename_i h1;split at h
  .cases h
  .rename_i h2;exact⟨Decidable.not_not.1 h1,oG⟩
theorem We{l:List ai}{keep:List ByteArray}(hl:l.length<=1000)(h:keepE l keep=0):aB prog 56 [.agg (oc l keep),bP keep] (.aM [.sl ((pb l keep).map B) l.length,.sl ((nh l keep).map S) l.length]):=by
 obtain⟨h0,M⟩:=Ls h;have J:(cE l).length=(aV l).length:=by simp[cE,bp]
 obtain⟨ks,hk,hs⟩:=Q6 J;have C:eT l=bl ks:=hs;have:=Fy (l:=l) (sh:=bp l) (ca:=(aV l).map ao) (ks:=ks) (keep:=keep) hl (by simp at hk;omega) M;unfold oc pb nh;rw[if_pos h,List.map_map,List.map_map,C];exact this
theorem OO{l:List ai}{keep:List ByteArray}(hl:l.length<=1000):aB prog 24 [ba l,bP keep] (.aM [if keepE l keep=0 then bP (nh l keep) else .z,I (keepE l keep)]):=by
 have sP:=sP (keep:=keep) hl
 have bg:Tr (if keepE l keep=0 then bP (nh l keep) else .z):=by
  split
  .exact gS _
  .exact .z
 refine bj ak3 (.cons (iU l) (.cons (gS _) .nil)) (.aM (.cons bg (.cons (.s _) .nil))) ?_;rw[ak4]
 have M:(oc l keep).length=4/\(oc l keep).all D.one=true:=by
  unfold oc;split<;>exact⟨rfl,rfl⟩
 have U:=We (keep:=keep) hl;obtain⟨J,FA⟩:∃ J,J=oc l keep:=⟨_,rfl⟩
 obtain⟨C,X⟩:∃ C,C=nh l keep:=⟨_,rfl⟩
 have fX:C.length=l.length:=by rw[X];simp[nh]
 rw[<- FA] at sP M U;rw[<- X] at U ⊢;generalize keepE l keep=err at*
 refine ws ?_;refine ab ?_;refine er ?_
 obtain⟨x1,x2,x3,x4,rfl⟩:∃ a b c d,J=[a,b,c,d]:=by
  match J,M.1 with
  |[a,b,c,d],_=>exact⟨a,b,c,d,rfl⟩
 refine ab ?_;refine cl sP ?_;refine aY ?_;refine bQ (fM rfl rfl rfl rfl) aK (cw t86 xR ⟨rfl,oS⟩ M.2) ?_;refine SS ?_;refine aa (az (ag ?_));refine ab ?_;refine aa (cA rfl (fun h=>az (ag ?_)) fun h=>cm (ag ?_))
 .have he:err≠0:=by simpa using h
  rw[if_neg he];refine ay ?_;exact aa (yN (bG (bA (gG rfl rfl rfl))))
 .have he:err=0:=by simpa using h
  have Fy:=U he;rw[if_pos he];refine ab ?_;refine cl Fy ?_;refine bw ?_;refine er ?_;refine ay ?_;have e:bP C=.sl (C.map S) l.length:=by rw[show bP C=.sl (C.map S) C.length from rfl,fX]
  rw[he,e];exact aa (bG (gG rfl rfl rfl))
theorem ahg:mB prog (lW prog 105)=S "".toUTF8:=kr
theorem ahh(k:ByteArray)(es:List (ByteArray×ByteArray)):fH prog 105 false (cT (.string k) (iI es))=S (su es k):=by
 have h:=T6 k es;unfold su;cases hf:es.find? fun e=>decide (e.1=k) with
 |none=>
  rw[hf] at h;cases hl:cT (.string k) (iI es) with
  |none=>simp[fH,ahg]
  |some x=>rw[hl] at h;cases h
 |some e=>
  rw[hf] at h;cases hl:cT (.string k) (iI es) with
  |none=>rw[hl] at h;cases h
  |some x=>
   rw[hl] at h;simp only[Option.map_some,aG] at h;simp[fH,h]
theorem My(es:List (ByteArray×ByteArray)):(iI es).all (fun e=>cL prog 9 e.1)=true:=by
 refine bS.2 fun e he=>?_;obtain⟨x,_,rfl⟩:=List.mem_map.1 he;exact w7 _
theorem ZT{X:Nat->Prop}(es:List (ByteArray×ByteArray)):my X (.map (iI es)):=fun i cs sz _=>by
 simp[Row.sub,iI,sub,pW,cM]
theorem k58{s:ByteArray}{es:List (ByteArray×ByteArray)}:aB prog 58 [S s,.pt [.im (iI es)]] (S (su es s)):=by
 have C:Tr (.im (iI es)):=.im fun x hx=>by obtain⟨y,_,rfl⟩:=List.mem_map.1 hx;exact .s _
 refine bj ak5 (.cons (.s _) (.cons (.pt (.cons C .nil)) .nil)) (Tr.s _) ?_;rw[ak6];refine ws ?_;refine SS ?_;refine er ?_;have J:=ahh s es;have M:=My es;refine ab ?_;refine av (AM rfl rfl Mz J) aK ⟨MA,w7 s,My _⟩ ?_;refine SS ?_;exact aa (aD rfl rfl)
theorem JZ:∀ l:List ai,(l.flatMap aR).length=l.length*8
 |[]=>rfl
 |x::l=>by rw[List.flatMap_cons,List.length_append,JZ l,List.length_cons];show 8+_=_;omega
theorem ZU{X:Nat->Prop}(f:ai):∀ d∈aR f,fR X d:=fun d hd=>by
 simp only[aR,List.mem_cons,List.not_mem_nil,or_false] at hd;rcases hd with rfl|rfl|rfl|rfl|rfl|rfl|rfl|rfl<;>first|exact .s _|exact .sl _ _
theorem sQ{l:List ai}{keep:List ByteArray}(hl:l.length<=1000):aB prog 22 [ba l,bP keep] (.aM [if keepE l keep=0 then ba (bL l keep) else .z,I (keepE l keep)]):=by
 have sP:=sP (keep:=keep) hl
 have bg:Tr (if keepE l keep=0 then ba (bL l keep) else .z):=by
  split
  .exact iU _
  .exact .z
 refine bj ak7 (.cons (iU l) (.cons (gS _) .nil)) (.aM (.cons bg (.cons (.s _) .nil))) ?_;rw[ak8];refine ws ?_;refine ab ?_;refine er ?_;by_cases he:keepE l keep=0
 .have CP:=We (keep:=keep) hl he;obtain⟨h0,_⟩:=Ls he;have hL:=mz h0;rw[if_pos he,he];rw[he] at sP;have FA:oc l keep=fZ l (bp l) ((aV l).map ao) (ao (eT l)):=if_pos he;rw[FA] at sP CP;have Fy:=CP;obtain⟨Al,M7⟩:∃ Al,Al=fZ l (bp l) ((aV l).map ao) (ao (eT l)):=⟨_,rfl⟩
  refine ab ?_;refine cl sP ?_;refine cz ?_;refine aa (az (ag ?_));refine ab ?_;refine aa (cA rfl (fun h=>oH) fun h=>cm (aw ?_));refine ab ?_;refine cl Fy ?_;refine bw ?_;refine aa (bH (dA [(0,fZ l (bp l) ((aV l).map ao) (ao (eT l)),86)] eH (l:=[(6,.pt (fZ l (bp l) ((aV l).map ao) (ao (eT l)))),(8,.sl ((pb l keep).map B) l.length),(9,.sl ((nh l keep).map S) l.length)]) eH) (ag ?_));refine ab ?_;refine bQ (eR (d:=.mp _) (cs':=[_]) rfl rfl rfl rfl rfl) ak (cw V.h V.h (by first|(simp;done)|exact⟨rfl,bJ rfl⟩|(simp;omega)) rfl) ?_;refine aa (az (aw ?_));refine bw ?_;obtain⟨C,CO⟩:∃ C:Nat->ByteArray,C=fun i=>fe l (j3 (eT l) (iS l keep) i):=⟨_,rfl⟩
  obtain⟨cD,OP⟩:∃ cD,cD=[(6,D.pt (fZ l (bp l) ((aV l).map ao) (ao (eT l)))),(8,D.sl ((pb l keep).map B) l.length),(9,D.sl ((nh l keep).map S) l.length)]:=⟨_,rfl⟩
  refine aa (bZ (fun s=>∃ nx,3<=nx/\aH prog s ⟨ax [(6,D.pt (fZ l (bp l) ((aV l).map ao) (ao (eT l)))),(8,D.sl ((pb l keep).map B) l.length),(10,.rp 2 0)],br [(1,.map (iI (mV l C l.length))),(2,.cells [.mp 1] 105)],nx⟩) (cH (α:=Nat×Nat)
   (fun s=>⟨ax [(6,D.pt (fZ l (bp l) ((aV l).map ao) (ao (eT l)))),(8,D.sl ((pb l keep).map B) l.length),(9,D.sl ((nh l keep).map S) l.length),(10,.rp 2 0),(34,ba l),(35,I l.length),(36,I s.1)],br [(1,.map (iI (mV l C s.1))),(2,.cells [.mp 1] 105)],s.2⟩)
   (fun s=>s.1<=l.length/\3<=s.2) (fun s=>l.length - s.1) (0,3)
   (cn eH eH) ⟨Nat.zero_le _,oM⟩ ?_) ?_)
  .rintro⟨t,nx⟩ ⟨ht,cF⟩;dsimp only at ht cF ⊢;refine SS ?_;refine aa ⟨_,rfl,fun h=>?_,fun h=>?_⟩
   .have sR:t<l.length:=by simpa using h
    clear h;obtain⟨f,hf⟩:∃ f,l[t]? =some f:=⟨_,aL sR⟩
    have hnt:(nh l keep)[t]? =some (C t):=by rw[CO];unfold nh;simp[sR]
    have hft:fe l t=f.name:=by unfold fe;rw[dF,List.getElem?_map,hf];rfl
    refine aw ?_;refine bw ?_;refine bQ (fM (cs':=aR f) rfl rfl (aj _ _ _) rfl) aK (cw t48 pA oS rfl) ?_;obtain⟨ml,U⟩:∃ ml,ml=[(1,Row.map (iI (mV l C t))),(2,Row.cells [D.mp 1] 105)]:=⟨_,rfl⟩
    rw[<- U]
    have h1:∀ {u v},df nx (aR f) (prog.cellsOf 48) (up (up (br ml) nx u) nx v) 1=br ml 1:=fun {u v}=>by
     rw[U];exact iv (ah oG (ah oG rfl)) oG (ZT _)
    have h2:∀ {u v},df nx (aR f) (prog.cellsOf 48) (up (up (br ml) nx u) nx v) 2=br ml 2:=fun {u v}=>by
     rw[U];exact iv (ah oG (ah oG rfl)) oG (fun i cs sz _=>rfl)
    refine aa ⟨⟨ax [(6,D.pt (fZ l (bp l) ((aV l).map ao) (ao (eT l)))),(8,D.sl ((pb l keep).map B) l.length),(9,D.sl ((nh l keep).map S) l.length),(10,.rp 2 0),(11,I t),(12,.pt (aR f)),(34,ba l),(35,I l.length),(36,I t)],br ml,nx+1⟩,?_,?_⟩
    .refine(mi (i:=nx) (cs:=aR f) (e:=48) (aj _ _ _) (l:=[(6,D.pt (fZ l (bp l) ((aV l).map ao) (ao (eT l)))),(8,D.sl ((pb l keep).map B) l.length),(9,D.sl ((nh l keep).map S) l.length),(10,.rp 2 0),(11,I t),(12,.pt (aR f)),(34,ba l),(35,I l.length),(36,I t)]) ⟨rfl,rfl,rfl,gE oG,rfl,kY,rfl,rfl,rfl,trivial⟩).trans (cn eH ?_);subst U;exact⟨h1,h2,trivial⟩
    clear h1 h2;subst U;refine A8 acU ?_;refine bw ?_;refine av (Hw (n:=l.length) (i:=t) rfl rfl sM c9 hnt) aK ⟨lZ,oG,oG,by simp[nh];omega⟩ ?_;refine SS ?_;refine bQ (yM (key:=.string f.name) (v:=S (C t)) rfl rfl rfl rfl Mz) aK ⟨MA,w7 _,My _⟩ ?_;refine cq cx ?_;refine ab ?_;refine aa (bf (t+1,nx+1) (cn eH ⟨?_,rfl,trivial⟩) ⟨oM,oM⟩ oM);rw[Se,hft, <- Va];rfl
   .have bm:t=l.length:=by
     have:¬ (t:Int)<l.length:=by simpa using h
     omega
    subst bm;exact⟨nx,cF,au eH⟩
  .rintro s ⟨nx,cF,hg⟩;refine⟨_,(hg.trans (aH.DC _ _ _ 1 (iI (mV l C l.length)) rfl)).trans (eX (i:=2) (cs:=[.im (iI (mV l C l.length))]) (e:=105) rfl (l:=[(6,D.pt (fZ l (bp l) ((aV l).map ao) (ao (eT l)))),(8,D.sl ((pb l keep).map B) l.length),(10,.pt [.im (iI (mV l C l.length))])]) eH),ag ?_⟩;refine SS ?_;refine aa (az (aw ?_));refine bw ?_;obtain⟨to,gj⟩:∃ to,to=su (mV l C l.length):=⟨_,rfl⟩
   obtain⟨lf,Xt⟩:∃ lf,lf=gl (eT l) (iS l keep):=⟨_,rfl⟩
   have hmL:bL l keep=kU l lf to l.length:=by rw[Xt,gj,CO];rfl
   rw[hmL]
   have vM:∀ t,(kU l lf to t).length<=t:=fun t=>by
    unfold kU;exact Nat.le_trans (List.length_filterMap_le _ _) oS
   refine aa (bZ (fun s=>∃ x m al Jq,al<=Jq/\aH prog s ⟨ax [(13,x)],m,Jq⟩/\Grow m 0 al x (kU l lf to l.length).length ((kU l lf to l.length).flatMap aR) 48) (cH (α:=Nat×D×Mem×Nat)
    (fun s=>⟨ax [(6,D.pt (fZ l (bp l) ((aV l).map ao) (ao (eT l)))),(8,D.sl ((pb l keep).map B) l.length),(10,.pt [.im (iI (mV l C l.length))]),(13,s.2.1),(51,ba l),(52,I l.length),(53,I s.1)],s.2.2.1,s.2.2.2⟩)
    (fun s=>s.1<=l.length/\Grow s.2.2.1 0 s.2.2.2 s.2.1 (kU l lf to s.1).length ((kU l lf to s.1).flatMap aR) 48) (fun s=>l.length - s.1) (0,.z,_,nx)
    (au eH) ⟨Nat.zero_le _,.inl ⟨rfl,rfl,rfl⟩⟩ ?_) ?_)
   .rintro⟨t,x,m,nx⟩ ⟨ht,J⟩;dsimp only at ht J ⊢;refine SS ?_;refine aa ⟨_,rfl,fun h=>?_,fun h=>?_⟩
    .have sR:t<l.length:=by simpa using h
     clear h;obtain⟨f,hf⟩:∃ f,l[t]? =some f:=⟨_,aL sR⟩
     have l9:=bu hf;have af:(pb l keep)[t]? =some (lf t):=by rw[Xt];unfold pb;simp[sR]
     refine aw ?_;refine bw ?_;refine bQ (fM (cs':=aR f) rfl rfl (aj _ _ _) rfl) aK (cw t48 pA oS rfl) ?_;have dx:∀ g:List ai,my (fun k=>k=nx) (.cells (g.flatMap aR) 48):=fun g=>Db ZU g;refine aa ⟨⟨ax [(6,D.pt (fZ l (bp l) ((aV l).map ao) (ao (eT l)))),(8,D.sl ((pb l keep).map B) l.length),(10,.pt [.im (iI (mV l C l.length))]),(13,x),(14,I t),(15,.pt (aR f)),(51,ba l),(52,I l.length),(53,I t)],df nx (aR f) (prog.cellsOf 48) (up (up m nx (some (.cells j0 48))) nx (some (.cells (aR f) 48))),nx+1⟩,?_,?_⟩
     .exact mi (i:=nx) (cs:=aR f) (e:=48) (aj _ _ _) ⟨rfl,rfl,rfl,J.UY (aZ _) nx _ _ rfl,rfl,kY,rfl,rfl,rfl,trivial⟩
     have Xu:Grow (df nx (aR f) (prog.cellsOf 48) (up (up m nx (some (.cells j0 48))) nx (some (.cells (aR f) 48)))) 0 (nx+1) x (kU l lf to t).length ((kU l lf to t).flatMap aR) 48:=
      (J.mono (fun j _ hj=>(aA _ _ oG).trans (aA _ _ oG)) (aZ _)).oO (aZ _) (Nat.le_succ _) (dx _)
     generalize df nx (aR f) (prog.cellsOf 48) (up (up m nx (some (.cells j0 48))) nx (some (.cells (aR f) 48)))=m2 at*
     refine ws ?_;refine ab ?_;refine av (Hw (n:=l.length) (i:=t) rfl rfl Fz c4 af) aK ⟨EO,oG,oG,by simp[pb];omega⟩ ?_;refine SS ?_;refine aa (aQ rfl (fun h=>fO ?_) fun h=>cP ?_)
     .have ak9:lf t=true:=by simpa using h
      have hb:=s6 (Go.Argus.checked (hL.nJ f l9));have ak':Tr (.fn (.func 58) [] [.pt [.im (iI (mV l C l.length))]]):=.fn oS (.cons (.pt (.cons (.im fun x hx=>by obtain⟨y,_,rfl⟩:=List.mem_map.1 hx;exact .s _) .nil)) .nil)
      have Ao:aB prog 57 [.agg (aR f),S f.name,.fn (.func 58) [] [.pt [.im (iI (mV l C l.length))]]] (.agg (aR (eS f f.name to))):=Ao (to:=to) ak' (fun X i cs sz _=>rfl) (fun b _ _=>by rw[gj];exact k58) (by have:=hb.aO;omega) (by have:=hb.bK;omega) (by have:=hb.sigs;omega) (by have:=hb.lD;omega) fun b CE=>by
       have h1:=hb.bF b CE;have h2:=h1.len;have h3:=h1.fin.len;have h4:=h1.fin.aP;have h5:=h1.fin.ins.len;exact⟨oG,fun x hx=>by have:=(h1.ins x hx).len;omega,oG,oG,oG⟩
      have Fa:=C0 (to:=to) (lf:=lf) hf;rw[ak9,if_pos rfl] at Fa;have hTt:=vM t;generalize eS f f.name to=tf at*
      generalize kU l lf to t=T at*
      rcases Xu with⟨M,g2,rfl⟩|⟨r,M,g2,rfl,g3⟩
      .refine av (cY (v:=.z) rfl) ak trivial ?_;refine aY ?_;refine cl Ao ?_;refine SS ?_;refine eM (Bj rfl rfl V.h V.h (lE (aj _ _ _) rfl)) ak ⟨V.h,(by first|omega|exact bJ rfl|(simp;done)|(simp;omega)),oC,(by unfold maxLen;first|omega|(simp;omega)),(by rw[OQ];first|omega|(simp;omega))⟩ ?_;refine SS ?_;refine aa ?_;refine ab ?_;refine aa (bf (t+1,.rs (nx+1+1) 0 1,_,nx+1+1+1) (au eH) ⟨oM,?_⟩ oM);dsimp only;have OR:T=[]:=List.length_eq_zero_iff.1 M;rw[Fa,OR];refine .inr ⟨nx+1+1,oG,oG,rfl,(aj _ _ _).trans ?_⟩;simp;rfl
      .have iz:∀ {a},up m2 (nx+1) a r=some (.cells (T.flatMap aR) 48):=ah oG g3;refine bw ?_;refine cl Ao ?_;refine SS ?_;refine jI (jB rfl iz rfl Jr pA (lE (aj _ _ _) rfl) rfl) aK ⟨IJ,rfl,bJ rfl,oC,by rw[JZ];omega,by unfold maxLen;omega,by rw[OQ];omega,by simp;omega⟩ ?_;refine SS ?_;refine aa ?_;refine ab ?_;refine aa (bf (t+1,.rs (nx+1+1) 0 (T.length+1),_,nx+1+1+1) (au eH) ⟨oM,?_⟩ oM);dsimp only;rw[Fa];refine .inr ⟨nx+1+1,oG,oG,oS,(aj _ _ _).trans ?_⟩;rw[List.flatMap_append];simp;rfl
     .have ala:lf t=false:=by simpa using h
      show aq _ _ _ _ _ _ _ _ _;refine ab ?_;refine aa (bf (t+1,x,m2,nx+1) (au eH) ⟨oM,?_⟩ oM);dsimp only;rw[C0 hf,ala];simpa using Xu
    .have bm:t=l.length:=by
      have:¬ (t:Int)<l.length:=by simpa using h
      omega
     subst bm;exact⟨x,m,nx,nx,aZ _,au eH,J⟩
   .rintro s ⟨x,m,al,Jq,Ac,hg,J⟩;generalize kU l lf to l.length=T at*
    have oJ:∃ m2 ij,aH prog s ⟨ax [(13,ba T)],m2,ij⟩:=by
     rcases J with⟨M,g2,rfl⟩|⟨r,M,g2,rfl,g3⟩
     .have OR:T=[]:=List.length_eq_zero_iff.1 M;subst OR;refine⟨m,Jq,hg.trans (.og _ _ _ _ _ (fun t=>?_) fun i=>.inl rfl)⟩;by_cases h:t=13
      .subst h;exact B7
      .have e:ax [(13,D.z)] t=ax [(13,ba [])] t:=by simp[ax,h]
       rw[e];exact fun _ _ _ _ h=>h
     .exact⟨_,_,hg.trans (mi (i:=r) (e:=48) g3 (l:=[(13,ba T)]) ⟨jR (by rw[pA,JZ]),trivial⟩)⟩
    obtain⟨m2,ij,dU⟩:=oJ;refine⟨_,dU,ag ?_⟩;refine ay ?_;exact aa (bG (gG rfl rfl rfl))
 .rw[if_neg he]
  have Ax:(oc l keep).length=4/\(oc l keep).all D.one=true:=by
   unfold oc;split<;>exact⟨rfl,rfl⟩
  obtain⟨kD,FA⟩:∃ kD,kD=oc l keep:=⟨_,rfl⟩
  rw[<- FA] at sP Ax;generalize keepE l keep=err at*
  obtain⟨x1,x2,x3,x4,rfl⟩:∃ a b c d,kD=[a,b,c,d]:=by
   match kD,Ax.1 with
   |[a,b,c,d],_=>exact⟨a,b,c,d,rfl⟩
  refine ab ?_;refine cl sP ?_;refine aY ?_;refine bQ (fM rfl rfl rfl rfl) aK (cw t86 xR ⟨rfl,oS⟩ Ax.2) ?_;refine SS ?_;refine aa (az (ag ?_));refine ab ?_;refine aa (cA rfl (fun h=>az (ag ?_)) fun h=>absurd (by simpa using h) he);refine ay ?_;exact aa (yN (bG (bA (gG rfl rfl rfl))))
theorem xW{c:List ByteArray}:aB prog 21 [bP c] (B (uW c)):=by
 refine mh Wf.he (.cons (gS _) .nil) fun M=>?_;have hlen:=(M (bP c) oS).sl.1;unfold maxLen at hlen;refine bj Wf (.cons (gS _) .nil) (Tr.s _) ?_;rw[alg];refine ws ?_;refine SS ?_;refine aa (az (aw ?_));refine SS ?_
 refine aa (bZ (fun s=>(∃ nx,aH prog s ⟨ax [(0,bP c)],fun _=>none,nx⟩)/\c.all (fun x=>decide (x.size<=130))=true) (jh (α:=Nat) (fun k=>⟨ax [(0,bP c),(3,I k)],fun _=>none,0⟩)
  (fun k=>k<=c.length/\(c.take k).all (fun x=>decide (x.size<=130))=true) (fun k=>c.length - k) 0 (au eH) ⟨oG,rfl⟩ ?_) ?_)
 .rintro k ⟨hk,C⟩;refine aY ?_;refine aa ⟨_,rfl,fun h=>?_,fun h=>?_⟩
  .have af:k<c.length:=by simpa using h
   obtain⟨x,hx⟩:∃ x,c[k]? =some x:=⟨_,aL af⟩
   refine ws ?_;refine cz ?_;refine aa (aQ rfl (fun hp=>ag ?_) fun hp=>cP ?_)
   .have hb:uW c=false:=by
     unfold uW
     have:c.all (fun x=>decide (x.size<=130))=false:=by
      rw[Bool.eq_false_iff];intro ht;have:=bS.1 ht x (bu hx);simp at this hp;omega
     rw[this];rfl
    rw[hb];refine SS ?_;exact aa (bG (bY (bA (aD rfl rfl))))
   .have hb:decide (x.size<=130)=true:=by
     simp at hp ⊢;omega
    show aq _ _ _ _ _ _ _ _ _;refine ay ?_;exact aa (bf (k+1) (au eH) ⟨oG,ur hx C hb⟩ oG)
  .have U:¬ k<c.length:=by simpa using h
   rw[dq oG] at C;exact⟨⟨0,au eH⟩,C⟩
 .rintro s ⟨⟨nx,hg⟩,C⟩
  have hb:uW c=(decide (c.length<=12)||(decide (60<c.length)&&decide (c.length<=62))):=by
   unfold uW;rw[C,Bool.true_and]
  rw[hb];refine⟨_,hg,ag ?_⟩;by_cases J:c.length<=12
  .have zu:decide ((c.length:Int)<=12)=true:=decide_eq_true oG;rw[decide_eq_true J,Bool.true_or]
   (first|refine av (cY (v:=.sl _ _) rfl) aK trivial ?_|refine av (cY (v:=.rs _ _ _) rfl) aK trivial ?_|refine av (cY (v:=.z) rfl) aK trivial ?_)
   (first|refine av (Ek rfl) aK lZ ?_|refine av (yL rfl rfl) aK lZ ?_|refine av (Hv rfl) aK lZ ?_)
   (first|refine av (HD rfl rfl zu) aK rfl ?_|refine av (Ei rfl rfl) aK rfl ?_)
   refine av (cY (v:=.s (.bool _)) rfl) aK trivial ?_
   (first|refine bc rfl rfl (cY (v:=.sl _ _) rfl) (fun hc=>⟨(by repeat' (first|exact trivial|exact hc|exact rfl|refine And.intro ?_ ?_)),trivial⟩) ?_|refine bc rfl rfl (cY (v:=.rs _ _ _) rfl) (fun hc=>⟨(by repeat' (first|exact trivial|exact hc|exact rfl|refine And.intro ?_ ?_)),trivial⟩) ?_|refine bc rfl rfl (cY (v:=.z) rfl) (fun hc=>⟨(by repeat' (first|exact trivial|exact hc|exact rfl|refine And.intro ?_ ?_)),trivial⟩) ?_)
   (first|refine bc rfl rfl (Ek rfl) (fun hc=>⟨(by repeat' (first|exact trivial|exact hc|exact rfl|refine And.intro ?_ ?_)),lZ⟩) ?_|refine bc rfl rfl (yL rfl rfl) (fun hc=>⟨(by repeat' (first|exact trivial|exact hc|exact rfl|refine And.intro ?_ ?_)),lZ⟩) ?_|refine bc rfl rfl (Hv rfl) (fun hc=>⟨(by repeat' (first|exact trivial|exact hc|exact rfl|refine And.intro ?_ ?_)),lZ⟩) ?_)
   (first|refine bc rfl rfl (LS rfl rfl vy) (fun hc=>⟨(by repeat' (first|exact trivial|exact hc|exact rfl|refine And.intro ?_ ?_)),rfl⟩) ?_|refine bc rfl rfl (H3 rfl rfl) (fun hc=>⟨(by repeat' (first|exact trivial|exact hc|exact rfl|refine And.intro ?_ ?_)),rfl⟩) ?_)
   (first|refine bc rfl rfl (cY (v:=.s (.bool _)) rfl) (fun hc=>⟨(by repeat' (first|exact trivial|exact hc|exact rfl|refine And.intro ?_ ?_)),trivial⟩) ?_)
   (first|refine bc rfl rfl (cY (v:=.sl _ _) rfl) (fun hc=>⟨(by repeat' (first|exact trivial|exact hc|exact rfl|refine And.intro ?_ ?_)),trivial⟩) ?_|refine bc rfl rfl (cY (v:=.rs _ _ _) rfl) (fun hc=>⟨(by repeat' (first|exact trivial|exact hc|exact rfl|refine And.intro ?_ ?_)),trivial⟩) ?_|refine bc rfl rfl (cY (v:=.z) rfl) (fun hc=>⟨(by repeat' (first|exact trivial|exact hc|exact rfl|refine And.intro ?_ ?_)),trivial⟩) ?_)
   (first|refine bc rfl rfl (Ek rfl) (fun hc=>⟨(by repeat' (first|exact trivial|exact hc|exact rfl|refine And.intro ?_ ?_)),lZ⟩) ?_|refine bc rfl rfl (yL rfl rfl) (fun hc=>⟨(by repeat' (first|exact trivial|exact hc|exact rfl|refine And.intro ?_ ?_)),lZ⟩) ?_|refine bc rfl rfl (Hv rfl) (fun hc=>⟨(by repeat' (first|exact trivial|exact hc|exact rfl|refine And.intro ?_ ?_)),lZ⟩) ?_)
   (first|refine bc rfl rfl (HD rfl rfl zu) (fun hc=>⟨(by repeat' (first|exact trivial|exact hc|exact rfl|refine And.intro ?_ ?_)),rfl⟩) ?_|refine bc rfl rfl (Ei rfl rfl) (fun hc=>⟨(by repeat' (first|exact trivial|exact hc|exact rfl|refine And.intro ?_ ?_)),rfl⟩) ?_)
   (first|refine Dl rfl rfl rfl rfl (by first|exact fun _=>trivial|exact fun _=>rfl|exact fun hc=>hc) (by first|exact fun _=>trivial|exact fun _=>rfl|exact fun hc=>hc) ?_|refine Dm rfl rfl rfl rfl (by first|exact fun _=>trivial|exact fun _=>rfl|exact fun hc=>hc) (by first|exact fun _=>trivial|exact fun _=>rfl|exact fun hc=>hc) ?_|refine Dw rfl rfl rfl rfl rfl (by first|exact fun _=>trivial|exact fun _=>rfl|exact fun hc=>hc) (fun hc h=>by first|exact trivial|exact rfl|exact hc|(show Eq _ _;rw[hc,h];rfl)|(show Eq _ _;rw[h,hc];rfl)|(show Eq _ _;simp[hc,h];done)|(show Eq _ _;simp_all;done)) (fun hc h=>by first|exact trivial|exact rfl|exact hc|(show Eq _ _;rw[hc,h];rfl)|(show Eq _ _;rw[h,hc];rfl)|(show Eq _ _;simp[hc,h];done)|(show Eq _ _;simp_all;done)) ?_)
   (first|refine KL rfl rfl (by first|exact trivial|exact rfl) ?_|refine KM rfl rfl (by first|exact trivial|exact rfl) ?_|refine Lg rfl rfl rfl (fun h=>by first|exact trivial|exact rfl|exact h|(show Eq _ _;rw[h];rfl)|(show Eq _ _;simp[h];done)|(show Eq _ _;simp_all;done)) (fun h=>by first|exact trivial|exact rfl|exact h|(show Eq _ _;rw[h];rfl)|(show Eq _ _;simp[h];done)|(show Eq _ _;simp_all;done)) ?_)
   refine av (jS (v:=.s (.bool _)) rfl) aK trivial ?_;exact aa (aD rfl rfl)
  .have zu:decide ((c.length:Int)<=12)=false:=decide_eq_false oG;have e2:decide ((60:Int)<c.length)=decide (60<c.length):=decide_eq_decide.2 oG;have e3:decide ((c.length:Int)<=62)=decide (c.length<=62):=decide_eq_decide.2 oG;rw[decide_eq_false J,Bool.false_or, <- e2, <- e3];refine ab ?_;refine av (HD rfl rfl zu) ak rfl ?_;refine bh ?_;refine ab ?_;refine aa (aD rfl ?_);show B _=B _;congr 1;cases decide ((60:Int)<c.length)<;>rfl
theorem xX{l:List ai}:aB prog 13 [ba l] (B (tR l)):=by
 refine mh Wg.he (.cons (iU l) .nil) fun ez=>?_;have hlen:=(ez (ba l) oS).sl.1;unfold maxLen at hlen;refine bj Wg (.cons (iU l) .nil) (Tr.s _) ?_;rw[alh];refine ws ?_;refine SS ?_;refine aa (az (aw ?_));refine SS ?_
 refine aa (bZ (fun s=>(∃ nx,aH prog s ⟨ax [(0,ba l)],fun _=>none,nx⟩)/\l.all xt=true) (jh (α:=Nat×Nat) (fun s=>⟨ax [(0,ba l),(3,I s.1)],fun _=>none,s.2⟩)
  (fun s=>s.1<=l.length/\(l.take s.1).all xt=true) (fun s=>l.length - s.1) (0,0) (au eH) ⟨Nat.zero_le _,rfl⟩ ?_) ?_)
 .rintro⟨t,nx⟩ ⟨ht,J⟩;dsimp only at ht J ⊢;refine aY ?_;refine aa ⟨_,rfl,fun h=>?_,fun h=>?_⟩
  .have sR:t<l.length:=by simpa using h
   clear h;obtain⟨f,hf⟩:∃ f,l[t]? =some f:=⟨_,aL sR⟩
   have U:xt f=false->tR l=false:=fun hb=>by
    unfold tR;rw[DK (bu hf) hb];rfl
   refine aw ?_;refine bw ?_;refine bQ (fM (cs':=aR f) rfl rfl (aj _ _ _) rfl) aK (cw t48 pA oS rfl) ?_;refine aa (bH (eX (i:=nx) (l:=[(0,ba l),(3,I t),(4,.pt (aR f))]) (aj _ _ _) ⟨rfl,rfl,kY,trivial⟩) (az (ag ?_)));refine bh ?_;refine bh ?_;refine ik ?_;refine bc rfl rfl (LI rfl) (fun hc=>⟨ak,V.h⟩) ?_;refine ab ?_;have hd:EP f=_:=(Xv (decide (12<(f.blocks.length:Int))) (decide (20<(f.aO.length:Int))) (decide (10<(f.bK.length:Int))) (decide (8<(f.signals.length:Int))) (decide (130<(f.name.size:Int)))).symm;refine aa (cA rfl (fun h=>?_) fun h=>cm (az (aw ?_)))
   .have hb:EP f=true:=hd.trans h;refine az (ag ?_);refine SS ?_;refine aa (dG (bY (bA (aD (d:=B false) rfl ?_))));rw[U (by unfold xt;rw[hb];rfl)]
   have hH:EP f=false:=hd.trans h;clear hd h
   have Vb:f.blocks.length<=100000/\f.signals.length<=100000:=by
    unfold EP at hH;simp only[Bool.or_eq_false_iff,decide_eq_false_iff_not] at hH;omega
   refine SS ?_
   refine aa (bZ (fun s=>aH prog s ⟨ax [(0,ba l),(3,I t),(4,.pt (aR f))],fun _=>none,nx+1⟩/\f.signals.all (fun s=> !Cd s)=true) (jh (α:=Nat) (fun k=>⟨ax [(0,ba l),(3,I t),(4,.pt (aR f)),(5,I k)],fun _=>none,nx+1⟩)
    (fun k=>k<=f.signals.length/\(f.signals.take k).all (fun s=> !Cd s)=true) (fun k=>f.signals.length - k) 0 (au eH) ⟨Nat.zero_le _,rfl⟩ ?_) ?_)
   .rintro k ⟨hk,hinv⟩;refine bw ?_;refine aa ⟨_,rfl,fun h=>?_,fun h=>?_⟩
    .have af:k<f.signals.length:=by simpa using h
     obtain⟨x,hx⟩:∃ x,f.signals[k]? =some x:=⟨_,aL af⟩
     refine ws ?_;refine ik ?_;refine aa (aQ rfl (fun hp=>ag ?_) fun hp=>cP ?_)
     .have hp:Cd x=true:=hp;refine SS ?_;refine aa (bG (bY (bA (bY (bA (aD (d:=B false) rfl ?_))))));rw[U (by unfold xt;rw[DK (p:=fun s=> !Cd s) (bu hx) (by rw[hp];rfl)];simp)]
     .have hp:Cd x=false:=hp;show aq _ _ _ _ _ _ _ _ _;refine ay ?_;exact aa (bf (k+1) (au eH) ⟨oG,ur hx hinv (by rw[hp];rfl)⟩ oG)
    .have M:¬ k<f.signals.length:=by simpa using h
     rw[dq oG] at hinv;exact⟨au eH,hinv⟩
   rintro s ⟨hg,ali⟩;refine⟨_,hg,aw ?_⟩;refine SS ?_
   refine aa (jh (α:=Nat×Nat) (fun s=>⟨ax [(0,ba l),(3,I t),(4,.pt (aR f)),(6,I s.1)],fun _=>none,s.2⟩)
    (fun s=>s.1<=f.blocks.length/\(f.blocks.take s.1).all zA=true) (fun s=>f.blocks.length - s.1) (0,nx+1) (au eH) ⟨Nat.zero_le _,rfl⟩ ?_)
   rintro⟨k,ny⟩ ⟨hk,hinv⟩;dsimp only at hk hinv ⊢;refine bw ?_;refine aa ⟨_,rfl,fun h=>?_,fun h=>?_⟩
   .have af:k<f.blocks.length:=by simpa using h
    clear h;obtain⟨x,hx⟩:∃ x,f.blocks[k]? =some x:=⟨_,aL af⟩
    have X:zA x=false->tR l=false:=fun hb=>U (by unfold xt;rw[DK (bu hx) hb];simp);refine aw ?_;refine ik ?_;refine aa (bH (eX (i:=ny) (l:=[(0,ba l),(3,I t),(4,.pt (aR f)),(6,I k),(7,.pt (bU x))]) (aj _ _ _) ⟨rfl,rfl,rfl,rfl,kY,trivial⟩) (az (ag ?_)));refine bh ?_;refine bh ?_;refine aY ?_;refine bc rfl rfl (LI rfl) (fun hc=>⟨ak,V.h⟩) ?_;refine du ?_;refine ab ?_;have hd:EQ x=_:=(Xv (decide (8<(x.ins.length:Int))) (decide (8<(x.fin.aP.length:Int))) (decide (8<(x.fin.args.length:Int))) (decide (130<(x.fin.name.size:Int))) (decide (8<(x.fin.ins.args.length:Int)))).symm;refine aa (cA rfl (fun h=>?_) fun h=>cm (az (aw ?_)))
    .have hb:EQ x=true:=hd.trans h;refine az (ag ?_);refine SS ?_;refine aa (dG (bY (bY (bA (aD (d:=B false) rfl ?_)))));rw[X (by unfold zA;rw[hb];rfl)]
    have hK:EQ x=false:=hd.trans h;clear hd h
    have eN:x.ins.length<=100000/\x.fin.aP.length<=100000:=by
     unfold EQ at hK;simp only[Bool.or_eq_false_iff,decide_eq_false_iff_not] at hK;omega
    refine SS ?_
    refine aa (bZ (fun s=>aH prog s ⟨ax [(0,ba l),(3,I t),(4,.pt (aR f)),(6,I k),(7,.pt (bU x))],fun _=>none,ny+1⟩/\x.ins.all (fun y=> !Cc y)=true) (jh (α:=Nat) (fun j=>⟨ax [(0,ba l),(3,I t),(4,.pt (aR f)),(6,I k),(7,.pt (bU x)),(8,I j)],fun _=>none,ny+1⟩)
     (fun j=>j<=x.ins.length/\(x.ins.take j).all (fun y=> !Cc y)=true) (fun j=>x.ins.length - j) 0 (au eH) ⟨Nat.zero_le _,rfl⟩ ?_) ?_)
    .rintro j ⟨hj,C⟩;refine bw ?_;refine aa ⟨_,rfl,fun h=>?_,fun h=>?_⟩
     .have cZ:j<x.ins.length:=by simpa using h
      obtain⟨y,hy⟩:∃ y,x.ins[j]? =some y:=⟨_,aL cZ⟩
      refine ws ?_;refine du ?_;refine aa (aQ rfl (fun hp=>ag ?_) fun hp=>cP ?_)
      .have hp:Cc y=true:=hp;refine SS ?_;refine aa (bG (bY (bA (bY (bY (bA (aD (d:=B false) rfl ?_)))))));rw[X (by unfold zA;rw[DK (p:=fun y=> !Cc y) (bu hy) (by rw[hp];rfl)];simp)]
      .have hp:Cc y=false:=hp;show aq _ _ _ _ _ _ _ _ _;refine ay ?_;exact aa (bf (j+1) (au eH) ⟨oG,ur hy C (by rw[hp];rfl)⟩ oG)
     .have M:¬ j<x.ins.length:=by simpa using h
      rw[dq oG] at C;exact⟨au eH,C⟩
    rintro s ⟨hg,IK⟩;refine⟨_,hg,aw ?_⟩;refine SS ?_
    refine aa (jh (α:=Nat) (fun j=>⟨ax [(0,ba l),(3,I t),(4,.pt (aR f)),(6,I k),(7,.pt (bU x)),(9,I j)],fun _=>none,ny+1⟩)
     (fun j=>j<=x.fin.aP.length/\(x.fin.aP.take j).all (fun y=> !ER y)=true) (fun j=>x.fin.aP.length - j) 0 (au eH) ⟨Nat.zero_le _,rfl⟩ ?_)
    rintro j ⟨hj,C⟩;refine cz ?_;refine aa ⟨_,rfl,fun h=>?_,fun h=>?_⟩
    .have cZ:j<x.fin.aP.length:=by simpa using h
     obtain⟨y,hy⟩:∃ y,x.fin.aP[j]? =some y:=⟨_,aL cZ⟩
     refine ws ?_;refine bh ?_;refine aa (aQ rfl (fun hp=>ag ?_) fun hp=>cP ?_)
     .have hp:ER y=true:=hp;refine SS ?_;refine aa (bG (bY (bY (bY (bA (aD (d:=B false) rfl ?_))))));rw[X (by unfold zA;rw[DK (p:=fun w=> !ER w) (bu hy) (by rw[hp];rfl)];simp)]
     .have hp:ER y=false:=hp;show aq _ _ _ _ _ _ _ _ _;refine ay ?_;exact aa (bf (j+1) (au eH) ⟨oG,ur hy C (by rw[hp];rfl)⟩ oG)
    .have M:¬ j<x.fin.aP.length:=by simpa using h
     rw[dq oG] at C;show aq _ _ _ _ _ _ _ _ _;refine ay ?_;refine aa (bf (k+1,ny+1) (au eH) ⟨oM,ur hx hinv ?_⟩ oM);unfold zA;rw[hK,IK,C];rfl
   .have M:¬ k<f.blocks.length:=by simpa using h
    rw[dq oG] at hinv;show aq _ _ _ _ _ _ _ _ _;refine ay ?_;refine aa (bf (t+1,ny) (au eH) ⟨oM,ur hf J ?_⟩ oM);unfold xt;rw[hH,ali,hinv];rfl
  .have M:¬ t<l.length:=by simpa using h
   rw[dq oG] at J;exact⟨⟨nx,au eH⟩,J⟩
 .rintro s ⟨⟨nx,hg⟩,J⟩
  have hb:tR l=(decide ((l.length:Int)<=10)||(decide (60<(l.length:Int))&&decide ((l.length:Int)<=63))):=by
   unfold tR;rw[J,Bool.true_and]
  rw[hb];refine⟨_,hg,ag ?_⟩;refine bh ?_;refine bw ?_;refine aa (aD rfl ?_);show B _=B _;congr 1;cases decide ((l.length:Int)<=10)<;>cases decide ((60:Int)<l.length)<;>rfl
theorem wl{a b:List Int}:aB prog 72 [aT a,aT b] (B (decide (a=b))):=by
 have J:∀ x∈[aT a,aT b],Tr x:=.cons (di _) (.cons (di _) .nil);refine mh Wh.he J fun M=>?_;have hlen:=(M (aT a) oS).sl.1;unfold maxLen at hlen;refine bj Wh J (Tr.s _) ?_;rw[alj];refine ws ?_;refine SS ?_;refine aa (az (ag ?_));refine bw ?_;refine aa (cA rfl (fun h=>?_) fun h=>cm (az (aw ?_)))
 .refine az (ag ?_);refine SS ?_;refine aa (dG (aD (d:=B false) rfl ?_));have C:a≠b:=fun e=>by subst e;simp at h
  rw[decide_eq_false C]
 have l6:a.length=b.length:=by
  have:¬ ((a.length:Int)≠(b.length:Int)):=by simpa using h
  omega
 clear h;refine SS ?_
 refine aa (bZ (fun s=>aH prog s ⟨ax [],fun _=>none,0⟩/\a=b) (jh (α:=Nat) (fun k=>⟨ax [(0,aT a),(1,aT b),(5,I k)],fun _=>none,0⟩)
  (fun k=>k<=a.length/\∀ j,j<k->a[j]? =b[j]?) (fun k=>a.length - k) 0 (au eH) ⟨oG,fun j hj=>by omega⟩ ?_) ?_)
 .rintro k ⟨hk,hinv⟩;refine aY ?_;refine aa ⟨_,rfl,fun h=>?_,fun h=>?_⟩
  .have af:k<a.length:=by simpa using h
   have hx:a[k]? =some a[k]:=aL af;have hy:b[k]? =some b[k]:=aL oG;generalize a[k]=x at hx;generalize b[k]=y at hy;refine dV acW ?_;refine bh ?_;refine cq cx (aQ rfl (fun hp=>?_) fun hp=>?_)
   .refine ws ?_;refine SS ?_;refine aa (bG (bY (bA (aD (d:=B false) rfl ?_))))
    have C:a≠b:=fun e=>by
     subst e;rw[hx] at hy;cases hy;simp at hp
    rw[decide_eq_false C]
   .refine cP ?_;refine ay ?_;refine aa (bf (k+1) (au eH) ⟨oG,fun j hj=>?_⟩ oG);by_cases e:j=k
    .subst e;rw[hx,hy];congr 1;simpa using hp
    .exact hinv j oG
  .have X:¬ k<a.length:=by simpa using h
   refine⟨fN (l:=[]) trivial,List.ext_getElem? fun j=>?_⟩;by_cases hj:j<k
   .exact hinv j hj
   .rw[List.getElem?_eq_none oG,List.getElem?_eq_none oG]
 .rintro s ⟨hg,U⟩;refine⟨_,hg,ag ?_⟩;refine SS ?_;refine aa (aD (d:=B true) rfl ?_);rw[decide_eq_true U]
theorem CQ{a b:List Int}:aB prog 39 [aT a,aT b] (B (decide (a=b))):=by
 have C:∀ x∈[aT a,aT b],Tr x:=.cons (di _) (.cons (di _) .nil);have wl:=wl (a:=a) (b:=b);refine bj alk C (Tr.s _) ?_;rw[alm];refine ws ?_;refine SS ?_;refine er ?_;refine ab ?_;refine cl wl ?_;refine SS ?_;exact aa (aD rfl rfl)
theorem FC{a b:List (List Int)}:aB prog 20 [bX a,bX b] (B (decide (a=b))):=by
 have J:∀ x∈[bX a,bX b],Tr x:=.cons (uA _) (.cons (uA _) .nil);refine mh Wi.he J fun M=>?_;have hlen:=(M (bX a) oS).sl.1;unfold maxLen at hlen;refine bj Wi J (Tr.s _) ?_;rw[aln];refine ws ?_;refine SS ?_;refine aa (az (ag ?_));refine bw ?_;refine aa (cA rfl (fun h=>?_) fun h=>cm (az (aw ?_)))
 .refine az (ag ?_);refine SS ?_;refine aa (dG (aD (d:=B false) rfl ?_));have C:a≠b:=fun e=>by subst e;simp at h
  rw[decide_eq_false C]
 have l6:a.length=b.length:=by
  have:¬ ((a.length:Int)≠(b.length:Int)):=by simpa using h
  omega
 clear h;refine SS ?_
 refine aa (bZ (fun s=>aH prog s ⟨ax [],fun _=>none,0⟩/\a=b) (jh (α:=Nat) (fun k=>⟨ax [(0,bX a),(1,bX b),(5,I k)],fun _=>none,0⟩)
  (fun k=>k<=a.length/\∀ j,j<k->a[j]? =b[j]?) (fun k=>a.length - k) 0 (au eH) ⟨oG,fun j hj=>by omega⟩ ?_) ?_)
 .rintro k ⟨hk,hinv⟩;refine aY ?_;refine aa ⟨_,rfl,fun h=>?_,fun h=>?_⟩
  .have af:k<a.length:=by simpa using h
   have hx:a[k]? =some a[k]:=aL af;have hy:b[k]? =some b[k]:=aL oG;generalize a[k]=x at hx;generalize b[k]=y at hy;have CQ:=CQ (a:=x) (b:=y);refine dV acX ?_;refine du ?_;refine cl CQ ?_;refine SS ?_;refine cq cx (aQ rfl (fun hp=>?_) fun hp=>?_)
   .refine ws ?_;refine SS ?_;refine aa (bG (bY (bA (aD (d:=B false) rfl ?_))))
    have C:a≠b:=fun e=>by
     subst e;rw[hx] at hy;cases hy;simp at hp
    rw[decide_eq_false C]
   .refine cP ?_;refine ay ?_;refine aa (bf (k+1) (au eH) ⟨oG,fun j hj=>?_⟩ oG);by_cases e:j=k
    .subst e;rw[hx,hy];congr 1;simpa using hp
    .exact hinv j oG
  .have X:¬ k<a.length:=by simpa using h
   refine⟨fN (l:=[]) trivial,List.ext_getElem? fun j=>?_⟩;by_cases hj:j<k
   .exact hinv j hj
   .rw[List.getElem?_eq_none oG,List.getElem?_eq_none oG]
 .rintro s ⟨hg,U⟩;refine⟨_,hg,ag ?_⟩;refine SS ?_;refine aa (aD (d:=B true) rfl ?_);rw[decide_eq_true U]
theorem Wj{l:List (List Int)}:aB prog 20 [bX l,bX l] (B true):=by
 have:=FC (a:=l) (b:=l)
 rwa[decide_eq_true rfl] at this
theorem OS{a b:List ByteArray}:aB prog 27 [bP a,bP b] (B (decide (a=b))):=by
 have J:∀ x∈[bP a,bP b],Tr x:=.cons (gS _) (.cons (gS _) .nil);refine mh Wl.he J fun M=>?_;have hlen:=(M (bP a) oS).sl.1;unfold maxLen at hlen;refine bj Wl J (Tr.s _) ?_;rw[alo];refine ws ?_;refine SS ?_;refine aa (az (ag ?_));refine bw ?_;refine aa (cA rfl (fun h=>?_) fun h=>cm (az (aw ?_)))
 .refine az (ag ?_);refine SS ?_;refine aa (dG (aD (d:=B false) rfl ?_));have C:a≠b:=fun e=>by subst e;simp at h
  rw[decide_eq_false C]
 have l6:a.length=b.length:=by
  have:¬ ((a.length:Int)≠(b.length:Int)):=by simpa using h
  omega
 clear h;refine SS ?_
 refine aa (bZ (fun s=>aH prog s ⟨ax [],fun _=>none,0⟩/\a=b) (jh (α:=Nat) (fun k=>⟨ax [(0,bP a),(1,bP b),(5,I k)],fun _=>none,0⟩)
  (fun k=>k<=a.length/\∀ j,j<k->a[j]? =b[j]?) (fun k=>a.length - k) 0 (au eH) ⟨oG,fun j hj=>by omega⟩ ?_) ?_)
 .rintro k ⟨hk,hinv⟩;refine aY ?_;refine aa ⟨_,rfl,fun h=>?_,fun h=>?_⟩
  .have af:k<a.length:=by simpa using h
   have hx:a[k]? =some a[k]:=aL af;have hy:b[k]? =some b[k]:=aL oG;generalize a[k]=x at hx;generalize b[k]=y at hy;refine dV acY ?_;refine bh ?_;refine cq cx (aQ rfl (fun hp=>?_) fun hp=>?_)
   .refine ws ?_;refine SS ?_;refine aa (bG (bY (bA (aD (d:=B false) rfl ?_))))
    have C:a≠b:=fun e=>by
     subst e;rw[hx] at hy;cases hy;have hp:(!(x.toList==x.toList))=true:=hp;simp at hp
    rw[decide_eq_false C]
   .refine cP ?_;refine ay ?_;refine aa (bf (k+1) (au eH) ⟨oG,fun j hj=>?_⟩ oG);by_cases e:j=k
    .subst e;rw[hx,hy];congr 1;exact GJ hp
    .exact hinv j oG
  .have X:¬ k<a.length:=by simpa using h
   refine⟨fN (l:=[]) trivial,List.ext_getElem? fun j=>?_⟩;by_cases hj:j<k
   .exact hinv j hj
   .rw[List.getElem?_eq_none oG,List.getElem?_eq_none oG]
 .rintro s ⟨hg,U⟩;refine⟨_,hg,ag ?_⟩;refine SS ?_;refine aa (aD (d:=B true) rfl ?_);rw[decide_eq_true U]
theorem Jt{l:List Int}(hl:l.length<=1000000):aB prog 95 [ir l] (aT (l.map gw)):=by
 refine bj alG (.cons (oW l) .nil) (di _) ?_;rw[alH];refine ws ?_;refine SS ?_;refine aa (aw ?_);refine SS ?_;refine aa ⟨_,.rW _ _ _ 3 3 rfl,az (aw ?_)⟩;refine SS ?_
 refine aa (bZ (fun s=>∃ r nx,aH prog s ⟨ax [(3,.rs r 0 l.length)],br [(r,.cells ((l.map gw).map I) 3)],nx⟩) (jh (α:=Nat×Nat×Nat)
  (fun s=>⟨ax [(0,ir l),(3,.rs s.2.1 0 s.1),(4,I s.1)],br [(s.2.1,.cells (((l.take s.1).map gw).map I) 3)],s.2.2⟩)
  (fun s=>s.1<=l.length/\s.2.1<s.2.2) (fun s=>l.length - s.1) (0,0,1)
  (cn eH eH) ⟨Nat.zero_le _,oC⟩ ?_) ?_)
 .rintro⟨k,r,nx⟩ ⟨hk,hr⟩;dsimp only at hk hr ⊢;refine aY ?_;refine aa ⟨_,rfl,fun h=>?_,fun h=>?_⟩
  .have af:k<l.length:=by simpa using h
   clear h;obtain⟨x,hx⟩:∃ x,l[k]? =some x:=⟨_,aL af⟩
   have C:(l.take (k+1)).map gw=(l.take k).map gw++[gw x]:=by rw[List.take_add_one,hx,List.map_append];rfl
   have M:((l.take k).map gw).length=k:=by simp;omega
   generalize (l.take k).map gw=cs at*
   have ap:br [(r,Row.cells (cs.map I) 3)] r=some (.cells (cs.map I) 3):=by simp[br]
   refine lF ?_;refine bh ?_;refine aa ?_;show aq _ _ _ _ _ _ _ _ _;refine ay ?_;refine aa (bf (k+1,nx+1,nx+1+1) ?_ ⟨oM,oM⟩ oM);dsimp only;rw[C];refine cn eH ⟨(aj _ _ _).trans ?_,trivial⟩;simp;rfl
  .have J:¬ k<l.length:=by simpa using h
   have:k=l.length:=by omega
   subst this;rw[List.take_length];exact⟨r,nx,au eH⟩
 .rintro s ⟨r,nx,hg⟩;refine⟨_,hg,aw ?_⟩;refine ab ?_;refine aa (bH (eX (i:=r) (cs:=(l.map gw).map I) (e:=3) (by simp[br]) (l:=[(2,aT (l.map gw))]) ⟨?_,trivial⟩) (aD rfl rfl));exact(jR (by rw[c3];simp)).trans oS
theorem Xz{x y:cv}:aB prog 96 [.agg (cg x),.agg (cg y)] (B (BQ x y)):=by
 refine bj alI (.cons (.agg (uI x)) (.cons (.agg (uI y)) .nil)) (Tr.s _) ?_;rw[alJ];refine aw ?_;refine ay ?_;refine aa (bH (dA [(0,cg x,54),(1,cg y,54)] eH (l:=[(2,.pt (cg x)),(3,.pt (cg y))]) eH) (ag ?_));refine bh ?_;refine bh ?_;refine bh ?_;refine bh ?_;refine ab ?_;refine gc wl ?_;refine ab ?_;refine aa (aD rfl ?_);show B _=B _;congr 1;rw[ac9];simp only[alF,Bool.and_assoc]
theorem aex(w v:gh):oq (gF w) (gF v)=some ([.string w.name,.int .i64 w.to],[.string v.name,.int .i64 v.to]):=rfl
theorem alK:vd prog 79=some [2,0]:=kr
theorem alL:prog.eqGuardType prog.depth 79=false:=kr
noncomputable def zg(w v:gh):Bool:= @decide (w=v) (Classical.propDecidable _)
theorem ac'(w v:gh):gn [.string w.name,.int .i64 w.to] [.string v.name,.int .i64 v.to]=zg w v:=by
 rw[Bool.eq_iff_iff];unfold zg;cases w with|mk a b=>cases v with|mk c d=>
 simp only[gn,pY,Bool.and_true,aW,beq_iff_eq,decide_eq_true_eq,gh.mk.injEq,true_and,beq_self_eq_true];constructor
 .rintro⟨h,rfl⟩;exact⟨rZ h,rfl⟩
 .rintro⟨rfl,rfl⟩;exact⟨rfl,rfl⟩
theorem OX{f g:ai}(h1:f.aO.length<=1000000)(h2:f.bK.length<=1000000)(h3:g.aO.length<=1000000)(h4:g.bK.length<=1000000):aB prog 62 [.agg (aR f),.agg (aR g)] (B (ze f g)):=by
 have ka:=Jt h1;have kb:=Jt h3;have kc:=Jt h2;have XA:=Jt h4;have kab:=wl (a:=f.aO.map gw) (b:=g.aO.map gw);have kcd:=wl (a:=f.bK.map gw) (b:=g.bK.map gw);refine mh Wn.he (.cons (.agg (kL f)) (.cons (.agg (kL g)) .nil)) fun ez=>?_;refine bj Wn (.cons (.agg (kL f)) (.cons (.agg (kL g)) .nil)) (Tr.s _) ?_;rw[alM];have gO:=ac8 (f:=f) (g:=g);have nv:gm f=gm g->ze f g=true:=Kl.2
 have EY:f.name=g.name->f.iter=g.iter->f.args=g.args->f.result=g.result->f.aO.map gw=g.aO.map gw->f.bK.map gw=g.bK.map gw->f.signals=g.signals->f.blocks=g.blocks->gm f=gm g:=fun a b c d e x y zQ=>by
  unfold gm;rw[e,x];cases f;cases g;simp_all
 have X:gm f=gm g->f.name=g.name/\f.iter=g.iter/\f.args=g.args/\f.result=g.result/\f.aO.map gw=g.aO.map gw/\f.bK.map gw=g.bK.map gw/\f.signals=g.signals/\f.blocks=g.blocks:=fun e=>by
  unfold gm at e;simp only[ai.mk.injEq] at e;exact e
 generalize ze f g=sb at*
 refine aw ?_;refine ay ?_;refine aa (bH (dA [(0,aR f,48),(1,aR g,48)] eH (l:=[(2,.pt (aR f)),(3,.pt (aR g))]) eH) (az (dV ada ?_)));refine du ?_;refine ab ?_;refine bc rfl rfl (ae4 rfl rfl) (fun hc=>⟨ak,V.h⟩) ?_;refine bh ?_;refine bh ?_;refine pL rfl rfl rfl (fun hc=>⟨(by repeat' (first|exact trivial|exact hc|exact rfl|refine And.intro ?_ ?_)),ka⟩) ?_;refine ab ?_;refine pL rfl rfl rfl (fun hc=>⟨(by repeat' (first|exact trivial|exact hc|exact rfl|refine And.intro ?_ ?_)),kb⟩) ?_;refine gc wl ?_;refine bw ?_;refine pL rfl rfl rfl (fun hc=>⟨(by repeat' (first|exact trivial|exact hc|exact rfl|refine And.intro ?_ ?_)),kc⟩) ?_;refine ab ?_;refine pL rfl rfl rfl (fun hc=>⟨(by repeat' (first|exact trivial|exact hc|exact rfl|refine And.intro ?_ ?_)),XA⟩) ?_;refine gc wl ?_;refine bh ?_;refine bh ?_;refine ab ?_;refine cq cx (cA rfl (fun h=>?_) fun h=>cm (az (aw ?_)))
 .refine az (ag ?_);refine SS ?_;refine aa (dG (aD (d:=B false) rfl ?_));rw[gO fun e=>?_];obtain⟨e1,e2,e3,e4,e5,e6,e7,e8⟩:=X e;revert h;rw[e1,e2,e3,e4,e5,e6,e7,e8];simp
 simp only[Xy,Bool.or_eq_false_iff] at h;obtain⟨⟨⟨⟨⟨⟨⟨n1,n2⟩,n3⟩,n4⟩,n5⟩,n6⟩,n7⟩,n8⟩:=h;have e1:=GJ n1;have e2:f.iter=g.iter:=by simpa using n2
 have e3:f.args=g.args:=by simpa using n3
 have e4:f.result=g.result:=by simpa using n4
 have e5:f.aO.map gw=g.aO.map gw:=by simpa using n5
 have e6:f.bK.map gw=g.bK.map gw:=by simpa using n6
 have l7:f.signals.length=g.signals.length:=by
  have:¬ ((f.signals.length:Int)≠g.signals.length):=by simpa using n7
  omega
 have l8:f.blocks.length=g.blocks.length:=by
  have:¬ ((f.blocks.length:Int)≠g.blocks.length):=by simpa using n8
  omega
 clear n1 n2 n3 n4 n5 n6 n7 n8;have ig:=ez (.agg (aR f)) oS;have hrs:=(ig.agg (bP f.signals) (by simp[aR])).sl.1;have U:=(ig.agg (cG f.blocks) (by simp[aR])).sl;have alN:=U.1
 have alO:∀ x∈f.blocks,x.ins.length<=9223372036854775807/\x.fin.aP.length<=9223372036854775807:=fun x hx=>by
  have hm:∀ d∈bU x,Real d:=fun d hd=>U.2 d (List.mem_flatMap.2 ⟨x,hx,hd⟩);have q1:=(hm (kx x.ins) (by simp[bU])).sl.1;have q2:=(hm (lG x.fin.aP) (by simp[bU,bC])).sl.1;unfold maxLen at q1 q2;omega
 unfold maxLen at hrs alN;clear U ig ez ka kb kc XA kab kcd;refine SS ?_
 refine aa (bZ (fun s=>aH prog s ⟨ax [(2,.pt (aR f)),(3,.pt (aR g))],fun _=>none,2⟩/\f.signals=g.signals) (jh (α:=Nat) (fun k=>⟨ax [(2,.pt (aR f)),(3,.pt (aR g)),(5,I k)],fun _=>none,2⟩)
  (fun k=>k<=f.signals.length/\∀ j,j<k->f.signals[j]? =g.signals[j]?) (fun k=>f.signals.length - k) 0 (au eH) ⟨Nat.zero_le _,fun j hj=>by omega⟩ ?_) ?_)
 .rintro k ⟨hk,hinv⟩;refine bw ?_;refine aa ⟨_,rfl,fun h=>?_,fun h=>?_⟩
  .have af:k<f.signals.length:=by simpa using h
   obtain⟨x,hx⟩:∃ x,f.signals[k]? =some x:=⟨_,aL af⟩
   obtain⟨y,hy⟩:∃ y,g.signals[k]? =some y:=⟨_,aL oG⟩
   refine dV adb ?_;refine bh ?_;refine ab ?_;refine cq cx (aQ rfl (fun hp=>ag ?_) fun hp=>cP ?_)
   .refine SS ?_;refine aa (bG (bY (bA (aD (d:=B false) rfl ?_))));rw[gO fun e=>?_];obtain⟨_,_,_,_,_,_,e7,_⟩:=X e;rw[e7,hy] at hx;cases hx;have hp:(!(x.toList==x.toList))=true:=hp;simp at hp
   .show aq _ _ _ _ _ _ _ _ _;refine ay ?_;refine aa (bf (k+1) (au eH) ⟨oG,fun j hj=>?_⟩ oG);by_cases e:j=k
    .subst e;rw[hx,hy];congr 1;exact GJ hp
    .exact hinv j oG
  .have bm:¬ k<f.signals.length:=by simpa using h
   refine⟨au eH,List.ext_getElem? fun j=>?_⟩;by_cases hj:j<k
   .exact hinv j hj
   .rw[List.getElem?_eq_none oG,List.getElem?_eq_none oG]
 rintro s ⟨hg,e7⟩;refine⟨_,hg,az (aw ?_)⟩;refine SS ?_
 refine aa (bZ (fun s=>(∃ nx,aH prog s ⟨ax [],fun _=>none,nx⟩)/\f.blocks=g.blocks) (jh (α:=Nat×Nat) (fun s=>⟨ax [(2,.pt (aR f)),(3,.pt (aR g)),(6,I s.1)],fun _=>none,s.2⟩)
  (fun s=>s.1<=f.blocks.length/\∀ j,j<s.1->f.blocks[j]? =g.blocks[j]?) (fun s=>f.blocks.length - s.1) (0,2) (au eH) ⟨Nat.zero_le _,fun j hj=>by dsimp only at hj;omega⟩ ?_) ?_)
 .rintro⟨k,nx⟩ ⟨hk,hinv⟩;dsimp only at hk hinv ⊢;refine bw ?_;refine aa ⟨_,rfl,fun h=>?_,fun h=>?_⟩
  .have af:k<f.blocks.length:=by simpa using h
   clear h;obtain⟨x,hx⟩:∃ x,f.blocks[k]? =some x:=⟨_,aL af⟩
   obtain⟨y,hy⟩:∃ y,g.blocks[k]? =some y:=⟨_,aL oG⟩
   obtain⟨hxi,hxw⟩:=alO x (bu hx)
   have M:(x=y->False)->sb=false:=fun aC=>gO fun e=>by
    obtain⟨_,_,_,_,_,_,_,e8⟩:=X e;rw[e8,hy] at hx;cases hx;exact aC rfl
   refine ws ?_;refine ik ?_;refine er ?_;refine ik ?_;refine aa (az (ag ?_));refine bw ?_;refine aa (cA rfl (fun h=>?_) fun h=>cm (az (aw ?_)))
   .refine az (ag ?_);refine SS ?_;refine aa (dG (bY (bA (aD (d:=B false) rfl ?_))));rw[M fun e=>?_];subst e;simp at h
   have li:x.ins.length=y.ins.length:=by
    have:¬ ((x.ins.length:Int)≠y.ins.length):=by simpa using h
    omega
   clear h;refine SS ?_
   refine aa (bZ (fun s=>aH prog s ⟨ax [(2,.pt (aR f)),(3,.pt (aR g)),(6,I k)],fun _=>none,nx⟩/\x.ins=y.ins) (jh (α:=Nat) (fun j=>⟨ax [(2,.pt (aR f)),(3,.pt (aR g)),(6,I k),(7,kx x.ins),(8,kx y.ins),(9,I j)],fun _=>none,nx⟩)
    (fun j=>j<=x.ins.length/\∀ i,i<j->x.ins[i]? =y.ins[i]?) (fun j=>x.ins.length - j) 0 (au eH) ⟨Nat.zero_le _,fun j hj=>by omega⟩ ?_) ?_)
   .rintro j ⟨hj,C⟩;refine aY ?_;refine aa ⟨_,rfl,fun h=>?_,fun h=>?_⟩
    .have cZ:j<x.ins.length:=by simpa using h
     obtain⟨u,hu⟩:∃ u,x.ins[j]? =some u:=⟨_,aL cZ⟩
     obtain⟨v,hv⟩:∃ v,y.ins[j]? =some v:=⟨_,aL oG⟩
     refine dV abm ?_;refine du ?_;refine cl Xz ?_;refine SS ?_;refine cq cx (aQ rfl (fun hp=>ag ?_) fun hp=>cP ?_)
     .refine SS ?_;refine aa (bG (bY (bA (bY (bA (aD (d:=B false) rfl ?_))))));rw[M fun e=>?_];subst e;rw[hv] at hu;cases hu;have hp:(!(BQ u u))=true:=hp;rw[Ds.2 rfl] at hp;cases hp
     .have hp:(!(BQ u v))=false:=hp;show aq _ _ _ _ _ _ _ _ _;refine ay ?_;refine aa (bf (j+1) (au eH) ⟨oG,fun i hi=>?_⟩ oG);by_cases e:i=j
      .subst e;rw[hu,hv];congr 1;exact Ds.1 (by simpa using hp)
      .exact C i oG
    .have bm:¬ j<x.ins.length:=by simpa using h
     refine⟨au eH,List.ext_getElem? fun i=>?_⟩;by_cases hi:i<j
     .exact C i hi
     .rw[List.getElem?_eq_none oG,List.getElem?_eq_none oG]
   rintro s ⟨hg,ao7⟩;refine⟨_,hg,aw ?_⟩;refine du ?_;refine aa (bH (eX (i:=nx) (l:=[(2,.pt (aR f)),(3,.pt (aR g)),(6,I k),(10,.pt (bC x.fin))]) (aj _ _ _) ⟨rfl,rfl,rfl,kY,trivial⟩) (aw ?_));refine du ?_;refine aa (bH (eX (i:=nx+1) (l:=[(2,.pt (aR f)),(3,.pt (aR g)),(6,I k),(10,.pt (bC x.fin)),(11,.pt (bC y.fin))]) (aj _ _ _) ⟨rfl,rfl,rfl,rfl,kY,trivial⟩) (az (ag ?_)));refine bh ?_;refine bh ?_;refine bh ?_;refine bh ?_;refine bh ?_;refine bc rfl rfl (TO rfl rfl) (fun hc=>⟨ak,trivial⟩) ?_;refine cz ?_;refine gc Xz ?_;refine ik ?_;refine gc wl ?_;refine bh ?_;refine ab ?_;refine aa (cA rfl (fun h=>?_) fun h=>cm (aw ?_))
   .refine az (ag ?_);refine SS ?_;refine aa (dG (bY (bA (aD (d:=B false) rfl ?_))));rw[M fun e=>?_];subst e;revert h;simp[Ds.2]
   simp only[Xy,Bool.or_eq_false_iff] at h;obtain⟨⟨⟨⟨⟨⟨⟨⟨⟨m1,m2⟩,m3⟩,m4⟩,m5⟩,m6⟩,m7⟩,m8⟩,m9⟩,J⟩:=h
   have lw:x.fin.aP.length=y.fin.aP.length:=by
    have:¬ ((x.fin.aP.length:Int)≠y.fin.aP.length):=by simpa using J
    omega
   have EM:x.fin.aP=y.fin.aP->x=y:=fun hw=>by
    have q1:x.fin.kind=y.fin.kind:=by simpa using m1
    have q2:x.fin.a=y.fin.a:=by simpa using m2
    have q3:x.fin.b=y.fin.b:=by simpa using m3
    have q4:x.fin.to=y.fin.to:=by simpa using m4
    have q5:x.fin.fY=y.fin.fY:=by simpa using m5
    have q6:x.fin.others=y.fin.others:=by simpa using m6
    have q7:=GJ m7;have q8:x.fin.ins=y.fin.ins:=Ds.1 (by simpa using m8);have q9:x.fin.args=y.fin.args:=by simpa using m9
    rcases x with⟨xi,xf⟩
    rcases y with⟨yi,yf⟩
    cases xf;cases yf;simp_all
   clear m1 m2 m3 m4 m5 m6 m7 m8 m9 J;refine SS ?_
   refine aa (jh (α:=Nat) (fun j=>⟨ax [(2,.pt (aR f)),(3,.pt (aR g)),(6,I k),(10,.pt (bC x.fin)),(11,.pt (bC y.fin)),(12,I j)],fun _=>none,nx+1+1⟩)
    (fun j=>j<=x.fin.aP.length/\∀ i,i<j->x.fin.aP[i]? =y.fin.aP[i]?) (fun j=>x.fin.aP.length - j) 0 (au eH) ⟨Nat.zero_le _,fun j hj=>by omega⟩ ?_)
   rintro j ⟨hj,C⟩;refine bw ?_;refine aa ⟨_,rfl,fun h=>?_,fun h=>?_⟩
   .have cZ:j<x.fin.aP.length:=by simpa using h
    obtain⟨u,hu⟩:∃ u,x.fin.aP[j]? =some u:=⟨_,aL cZ⟩
    obtain⟨v,hv⟩:∃ v,y.fin.aP[j]? =some v:=⟨_,aL oG⟩
    refine dV abn ?_;refine du ?_;refine ab ?_;refine av (Mu (c:= !(zg u v)) rfl rfl alK (aex u v) (by rw[ac'])) aK ⟨rfl,alL⟩ ?_;refine cq cx (aQ rfl (fun hp=>ag ?_) fun hp=>cP ?_)
    .refine SS ?_;refine aa (bG (bY (bY (bA (aD (d:=B false) rfl ?_)))));rw[M fun e=>?_];subst e;rw[hv] at hu;cases hu;have hp:(!(zg u u))=true:=hp;simp[zg] at hp
    .have hp:(!(zg u v))=false:=hp;show aq _ _ _ _ _ _ _ _ _;refine ay ?_;refine aa (bf (j+1) (au eH) ⟨oG,fun i hi=>?_⟩ oG);by_cases e:i=j
     .subst e;rw[hu,hv];congr 1;simpa[zg] using hp
     .exact C i oG
   .have bm:¬ j<x.fin.aP.length:=by simpa using h
    have OZ:x=y:=EM (List.ext_getElem? fun i=>by
     by_cases hi:i<j
     .exact C i hi
     .rw[List.getElem?_eq_none oG,List.getElem?_eq_none oG])
    show aq _ _ _ _ _ _ _ _ _;refine ay ?_;refine aa (bf (k+1,nx+1+1) (au eH) ⟨oM,fun i hi=>?_⟩ oM);dsimp only at hi;by_cases e:i=k
    .subst e;rw[hx,hy,OZ]
    .exact hinv i oG
  .have bm:¬ k<f.blocks.length:=by simpa using h
   refine⟨⟨nx,au trivial⟩,List.ext_getElem? fun j=>?_⟩;by_cases hj:j<k
   .exact hinv j hj
   .rw[List.getElem?_eq_none oG,List.getElem?_eq_none oG]
 .rintro s ⟨⟨nx,hg⟩,e8⟩;refine⟨_,hg,ag ?_⟩;refine SS ?_;refine aa (aD (d:=B true) rfl ?_);rw[nv (EY e1 e2 e3 e4 e5 e6 e7 e8)]
end Go.Proofs.Tryz.K
end
namespace Go.Argus
open Go.Abs
abbrev pV:Sh:=.int .i64
abbrev EX:Sh:=.int .u8
abbrev EC:Sh:=.pair EX (.pair pV (.pair pV (.pair pV (.pair pV (.pair (.sl pV) .unit)))))
abbrev HW:Sh:=.pair .str (.pair pV .unit)
abbrev Ij:Sh:=.pair EX (.pair pV (.pair pV (.pair pV (.pair pV (.pair .str (.pair EC (.pair (.sl pV) (.pair (.sl HW) (.pair pV .unit)))))))))
abbrev Hi:Sh:=.pair (.sl EC) (.pair Ij .unit)
abbrev wN:Sh:=.pair .str (.pair .bool (.pair pV (.pair EX (.pair (.sl EX) (.pair (.sl EX) (.pair (.sl .str) (.pair (.sl Hi) .unit)))))))
def MK(x:EC.val):cv:=⟨x.1,x.2.1,x.2.2.1,x.2.2.2.1,x.2.2.2.2.1,x.2.2.2.2.2.1⟩
def Uk(x:HW.val):gh:=⟨x.1,x.2.1⟩
def Vo(x:Ij.val):End:=⟨x.1,x.2.1,x.2.2.1,x.2.2.2.1,x.2.2.2.2.1,x.2.2.2.2.2.1,MK x.2.2.2.2.2.2.1,x.2.2.2.2.2.2.2.1,List.map Uk x.2.2.2.2.2.2.2.2.1,x.2.2.2.2.2.2.2.2.2.1⟩
def Ty(x:Hi.val):bE:=⟨List.map MK x.1,Vo x.2.1⟩
def Ul(x:wN.val):ai:=⟨x.1,x.2.1,x.2.2.1,x.2.2.2.1,x.2.2.2.2.1,x.2.2.2.2.2.1,x.2.2.2.2.2.2.1,List.map Ty x.2.2.2.2.2.2.2.1⟩
theorem HX{k:IntKind}(l:List Int):D.sl (List.flatMap (Sh.enc (.int k)) l) l.length=.sl (l.map fun n=>.s (.int k n)) l.length:=congrArg (D.sl · l.length) (KX (fun n=>D.s (.int k n)) l)
theorem Um(l:List ByteArray):D.sl (List.flatMap (Sh.enc .str) l) l.length=bP l:=congrArg (D.sl · l.length) (KX S l)
theorem Ik{s:Sh}{β:Type}{g:β->List D}{h:s.val->β}(he:∀ x,s.enc x=g (h x))(l:List s.val):D.sl (List.flatMap s.enc l) l.length=.sl ((l.map h).flatMap g) (l.map h).length:=by
 rw[QA he l,List.length_map]
theorem c1'{α β:Type}(f:α->β){a a':α}(h:a=a'):f a=f a':=by rw[h]
theorem xS{α β γ:Type}(f:α->β->γ){a a':α}{b C:β}(h:a=a')(h2:b=C):f a b=f a' C:=by rw[h,h2]
theorem c3'{α β γ δ:Type}(f:α->β->γ->δ){a a':α}{b C:β}{c J:γ}(h:a=a')(h2:b=C)(M:c=J):f a b c=f a' C J:=by rw[h,h2,M]
theorem c4'{α β γ δ ε:Type}(f:α->β->γ->δ->ε){a a':α}{b C:β}{c J:γ}{d d':δ}(h:a=a')(h2:b=C)(M:c=J)(U:d=d'):f a b c d=f a' C J d':=by rw[h,h2,M,U]
theorem Tz(x:EC.val):EC.enc x=cg (MK x):=
 c1' (fun q=>[U8 x.1,I x.2.1,I x.2.2.1,I x.2.2.2.1,I x.2.2.2.2.1,q]) (HX (k:=.i64) x.2.2.2.2.2.1)
theorem adx(x:HW.val):HW.enc x=gF (Uk x):=rfl
theorem aeP(x:Ij.val):Ij.enc x=bC (Vo x):=
 c3' (fun a b c=>[U8 x.1,I x.2.1,I x.2.2.1,I x.2.2.2.1,I x.2.2.2.2.1,S x.2.2.2.2.2.1]++(a++[b,c,I x.2.2.2.2.2.2.2.2.2.1])) (Tz x.2.2.2.2.2.2.1) (HX (k:=.i64) x.2.2.2.2.2.2.2.1) (Ik adx x.2.2.2.2.2.2.2.2.1)
theorem abJ(x:Hi.val):Hi.enc x=bU (Ty x):=by
 have:=xS (fun a b=>a::(b++[])) (Ik Tz x.1) (aeP x.2.1);refine Eq.trans this ?_;rw[List.append_nil];rfl
theorem abK(x:wN.val):wN.enc x=aR (Ul x):=
 c4' (fun a b c d=>[S x.1,B x.2.1,I x.2.2.1,U8 x.2.2.2.1,a,b,c,d]) (HX (k:=.u8) x.2.2.2.2.1) (HX (k:=.u8) x.2.2.2.2.2.1) (Um x.2.2.2.2.2.2.1) (Ik abJ x.2.2.2.2.2.2.2.1)
theorem abB(l:List wN.val):(Sh.sl wN).arg l=ba (l.map Ul):=Ik abK l
theorem adt(l:List ByteArray):(Sh.sl .str).arg l=bP l:=Um l
end Go.Argus
namespace Go.Proofs.YtnagfmlifobdiaaGreatDoor
open Go.Abs Go.Argus
set_option maxRecDepth 100000
theorem amg:ownKnob Tryz.prog.godebug=none:=kr
theorem laidOut:laidOutB Tryz.prog=true:=kr
theorem aiJ: Tryz.prog.underlying 4=some .bool:=kr
noncomputable abbrev xd:List (String×DataW Unit):=Rows.shareTellsRow.laid
def Un:List Int:=[1,10,100,1000,10000,100000,1000000,10000000,100000000,1000000000,10000000000,100000000000,1000000000000,10000000000000,100000000000000,1000000000000000,10000000000000000,100000000000000000,1000000000000000000,10000000000000000000]
theorem aab:∃ C,(C,DataW.agg (Un.map fun n=>DataW.lit (.int .u64 n)))∈xd/\ Tryz.prog.globalNamed C=some 0:=⟨_,.tail _ (.tail _ (.head _)),by kernel_rfl⟩
theorem QB(w:World):laidMetH Tryz.prog xd w=laidMet Tryz.prog xd w:=MakeChecks.laidMetH_plain _ _ _ kr
theorem aeN{W:World}(h:laidMetH Tryz.prog xd W):FB (fun b=>b=0) W/\EB (fun b=>b=0) W:=by
 rw[QB] at h;obtain⟨J,hm,hg⟩:=aab;obtain⟨ty,ht⟩:=aac (t:=200) (e:=199) h hm hg kr kr kr kr kr oC;refine⟨⟨fun b hb=>?_,fun t C=>?_⟩,fun b o u hb hu=>?_⟩
 .subst hb;exact(Array.getElem?_eq_some_iff.1 ht).1
 .simp only[vu,List.mem_singleton] at C;subst C;exact⟨rfl,ty,_,ht⟩
 .subst hb;unfold World.cell? at hu;rw[ht] at hu;simp only at hu;have hu:((Un.map (Value.int .u64 ·)).toArray)[o]? =some u:=hu;rw[List.getElem?_toArray,List.getElem?_map] at hu;obtain⟨n,_,rfl⟩:=cU.1 hu;exact⟨n,rfl⟩
def aml:DataW Unit->Value
 | .lit (.int k n)=>.int k n
 |_=>undef
def amm:DataW Unit->Array Value
 | .agg ps=>(ps.map aml).toArray
 |_=> #[]
noncomputable def Rp(os:Os):World:=
 let C:=World.holding Tryz.prog os ⟨#[], #[],[]⟩
 let f (d:DataW Unit):Obj->Obj:=fun
     | .cells _ t frozen=>.cells (amm d) t frozen
     |o=>o
 { C with heap:=((C.heap.modify 0 (f Rows.laid_internal_strconv_uint64pow10)).modify 2 (f Rows.laid_math_bits_deBruijn32tab)).modify 3 (f Rows.laid_math_bits_deBruijn64tab) }
theorem YB(os:Os)(args:Array Value):laidMetH Tryz.prog xd ((Rp os).forCall (fun _ _=>0) ⟨#[],args,[]⟩).memory:=by
 rw[QB];exact laidMet_of_run' 8 kr kr
end Go.Proofs.YtnagfmlifobdiaaGreatDoor
section
open Go Go.Abs Go.Proofs Go.Argus
namespace Go.Proofs.Tryz.K
set_option maxRecDepth 100000
theorem aeu:keepE dK [sE]=0:=by
 unfold keepE;rw[ql]
 kernel_rfl
theorem aev:keepE dK [sB]=0:=by
 unfold keepE;rw[ql]
 kernel_rfl
noncomputable def OT:List (FuncId×Func×Code):=[(42, Tryz.f42,T8),(81, Tryz.f81,T9)]
theorem afv:∀ x∈OT,lX prog x.1 x.2.1 x.2.2:=fun x hx=>by
 simp only[OT,List.mem_cons,List.not_mem_nil,or_false] at hx;rcases hx with rfl|rfl
 .exact alp
 .exact alq
noncomputable def cxS:Ctx:=⟨fun f=>(OT.find? fun x=>Nat.beq x.1 f).map (·.2),fun _ _ _=>none,fun _ _=>none⟩
theorem T':cxS.Ok prog:=⟨mixed,fun f fn c h=>by
 obtain⟨x,hx,he⟩:=cU.1 h;have h0:=List.find?_some hx;have h1:x.1=f:=Nat.eq_of_beq_eq_true h0;have:=afv x (List.mem_of_find?_eq_some hx);rw[h1,he] at this
 exact this,fun _ _ _ _ h=>oH,fun _ _ _ h=>oH⟩
def alr(x:Argus.End):List D:=[U8 x.kind,I x.a,I x.b,I x.to,I x.fY,S x.name,U8 0,I 0,I 0,I 0,I 0,.z,.z,.z,I x.others]
def Xw(f:ai):List D:=[S f.name,B false,I 0,U8 0,.z,.z,.z,.sl (f.blocks.flatMap fun b=>.z::alr b.fin) f.blocks.length]
theorem OU:aB prog 42 [] (ba dK):=by
 have h:kW prog 42 [] (dK.flatMap Xw) 5 48:=(FY T' (TT T' 1000) (args:=[]) oS).2 _ _ _ kr;have ht:Tr (.sl ((dK.flatMap Xw).take (5*prog.cellsOf 48)) 5):=qq (n:=12) kr;exact aaw (h.afb ht) fun F β w v hv=>Ex 20 kr hv
theorem oO{f:FuncId}{rds:List Nat}{args C:List D}{r:D}{m:Mem}{nx:Nat}(hc:aB prog f C r)(h:iE (cJ prog m 12) args=some (C,rds)):fP prog f args m nx (fun d m' J=>d=r/\m'=less rds m/\J=nx):=
 aav (CX h fun _ hi=>hi) hc
theorem Ua{s:ByteArray}{env:Env}{x y:Operand}{m:Mem}{nx:Nat}{t p:TypeId}(hx:(opd env x).core=S s)(hy:(opd env y).core=S s):Ef prog (.binOp .eql t x y p) env m nx ⟨True,B true,[],[],0⟩:=by
 have h:=Hr (P:=prog) (env:=env) (m:=m) (nx:=nx) (t:=t) (p:=p) hx hy
 rwa[show(s.toList==s.toList)=true by simp] at h
theorem wm:aB prog 15 [] (B true):=by
 have hl:dK.length<=1000:=by decide
 have kq:aB prog 16 [ba dK] (.aM [bX [[0,1],[2],[3],[4]],I 0]):=by
  have:=kq (l:=dK) hl;rw[ac0,ql] at this;exact this
 have J:aB prog 18 [ba dK,bX [[0],[1],[2],[3],[4]]] (.aM [B true,I 0]):=by
  have:=Xl (l:=dK) (c:=[[0],[1],[2],[3],[4]]) hl oC oC;rw[ac1,ql] at this;exact this
 have M:aB prog 18 [ba dK,bX [[0,1,2],[3],[4]]] (.aM [B false,I 0]):=by
  have:=Xl (l:=dK) (c:=[[0,1,2],[3],[4]]) hl oC oC;rw[ac2,ql] at this;exact this
 have U:aB prog 35 [ba dK,I 0,I 4] (.aM [aT [0,0],B true,I 0]):=by
  have:=ry (l:=dK) (a:=0) (b:=4) hl;rw[ac3] at this;exact this
 have X:aB prog 35 [ba dK,I 0,I 1] (.aM [.z,B false,I 0]):=by
  have:=ry (l:=dK) (a:=0) (b:=1) hl;rw[ac4] at this;exact this
 have alx:aB prog 35 [ba dK,I 3,I 0] (.aM [aT [],B true,I 0]):=by
  have:=ry (l:=dK) (a:=3) (b:=0) hl;rw[ac5] at this;exact this
 have sQ:aB prog 22 [ba dK,bP [sE]] (.aM [ba vr,I 0]):=by
  have:=sQ (l:=dK) (keep:=[sE]) hl;rw[aeu,if_pos rfl,ZV] at this;exact this
 have OO:aB prog 24 [ba dK,bP [sB]] (.aM [bP [sB,sB,sC,sD,sE],I 0]):=by
  have:=OO (l:=dK) (keep:=[sB]) hl;rw[aev,if_pos rfl,ZW] at this;exact this
 have OU:=OU;refine bj aly .nil (Tr.s _) ?_;rw[alz];refine ws ?_;refine SS ?_;refine er ?_;refine cl OU ?_;refine SS ?_;refine er ?_;refine SS ?_;refine cl kq ?_;refine bw ?_;refine aa (aw ?_);refine ik ?_;refine gI (oO (rds:=[5,0,1,2,3,4]) J kr) rfl aK fun d m' C hp=>?_;obtain⟨rfl,rfl,rfl⟩:=hp;refine bw ?_;refine aa ⟨_,fN (l:=[(1,ba dK),(2,bX [[0,1],[2],[3],[4]]),(3,I 0),(4,B true),(5,I 0)]) eH,aw ?_⟩;refine bw ?_;refine gI (oO (rds:=[9,6,7,8]) M kr) rfl aK fun d m' C hp=>?_;obtain⟨rfl,rfl,rfl⟩:=hp;refine bw ?_;refine aa ⟨_,fN (l:=[(1,ba dK),(2,bX [[0,1],[2],[3],[4]]),(3,I 0),(4,B true),(5,I 0),(6,B false),(7,I 0)]) eH,ag ?_⟩;have ry:=U;refine SS ?_;refine cl ry ?_;refine ik ?_;clear ry;refine er ?_;have ry:=X;refine SS ?_;refine cl ry ?_;refine ik ?_;clear ry;refine er ?_;have ry:=alx;refine SS ?_;refine cl ry ?_;refine ik ?_;clear ry;refine aa (aw ?_);refine ab ?_;refine gI (oO (rds:=[10]) sQ kr) rfl aK fun d m' C hp=>?_;obtain⟨rfl,rfl,rfl⟩:=hp;refine bw ?_;refine aa ⟨_,fN (l:=[(1,ba dK),(2,bX [[0,1],[2],[3],[4]]),(3,I 0),(4,B true),(5,I 0),(6,B false),(7,I 0),(8,aT [0,0]),(9,B true),(10,I 0),(12,B false),(13,I 0),(14,aT []),(15,B true),(16,I 0),(17,ba vr),(18,I 0)]) eH,aw ?_⟩;refine ab ?_;refine gI (oO (rds:=[11]) OO kr) rfl aK fun d m' C hp=>?_;obtain⟨rfl,rfl,rfl⟩:=hp;refine bw ?_;refine aa ⟨_,fN (l:=[(2,bX [[0,1],[2],[3],[4]]),(3,I 0),(4,B true),(5,I 0),(6,B false),(7,I 0),(8,aT [0,0]),(9,B true),(10,I 0),(12,B false),(13,I 0),(14,aT []),(15,B true),(16,I 0),(17,ba vr),(18,I 0),(19,bP [sB,sB,sC,sD,sE]),(20,I 0)]) eH,az (ag ?_)⟩;refine bh ?_;refine bh ?_;refine bh ?_;refine ay ?_;refine aa (tD (cm (aw ?_)));have FC:aB prog 20 [bX [[0,1],[2],[3],[4]],bX [[0,1],[2],[3],[4]]] (B true):=Wj;have CQ:aB prog 39 [aT [0,0],aT [0,0]] (B true):=CQ (a:=[0,0]) (b:=[0,0])
 have OS:aB prog 27 [bP [sB,sB,sC,sD,sE],bP [sB,sB,sC,sD,sE]] (B true):=by
  have:=OS (a:=[sB,sB,sC,sD,sE]) (b:=[sB,sB,sC,sD,sE])
  rwa[decide_eq_true rfl] at this
 refine cz ?_;refine gI (oO (rds:=[16,12,13,14,15]) FC kr) rfl aK fun d m' C hp=>?_;obtain⟨rfl,rfl,rfl⟩:=hp;refine bh ?_;refine LR rfl rfl (uw (cs:=[_,_]) V.h V.h V.h rfl rfl) ak ⟨rfl,oC,V.h,oC⟩ ?_;refine tx (rds:=[17]) CQ rfl rfl rfl rfl (CX (n:=12) (r:=[17]) kr fun _ hi=>hi) aK ?_;refine bh ?_;refine du ?_;refine aa ⟨_,fN (l:=[(17,ba vr),(19,bP [sB,sB,sC,sD,sE]),(21,B true)]) eH,ag ?_⟩;refine du ?_;refine bc rfl rfl (rX (l:=vr) (i:=0) (z:=jl sA sA) rfl rfl Jr pA (sU) rfl) (fun hc=>⟨(by repeat' (first|exact trivial|exact hc|exact rfl|refine And.intro ?_ ?_)),rY (l:=vr) (i:=0) (z:=jl sA sA) IJ (sU) rfl⟩) ?_;refine ab ?_;refine bc rfl rfl (rX (l:=(jl sA sA).blocks) (i:=0) (z:=⟨[],LY sA⟩) rfl rfl OE Jb (wx) rfl) (fun hc=>⟨(by repeat' (first|exact trivial|exact hc|exact rfl|refine And.intro ?_ ?_)),rY (l:=(jl sA sA).blocks) (i:=0) (z:=⟨[],LY sA⟩) Nj (wx) rfl⟩) ?_;refine ay ?_;refine bc (v:=B true) rfl rfl (Ua (s:=sA) rfl rfl) (fun hc=>⟨(by repeat' (first|exact trivial|exact hc|exact rfl|refine And.intro ?_ ?_)),trivial⟩) ?_;refine ay ?_;refine bc rfl rfl (rX (l:=vr) (i:=3) (z:=jl sE sC) rfl rfl Jr pA (sU) rfl) (fun hc=>⟨(by repeat' (first|exact trivial|exact hc|exact rfl|refine And.intro ?_ ?_)),rY (l:=vr) (i:=3) (z:=jl sE sC) IJ (sU) rfl⟩) ?_;refine ab ?_;refine bc (v:=B true) rfl rfl (Ua (s:=sE) rfl rfl) (fun hc=>⟨(by repeat' (first|exact trivial|exact hc|exact rfl|refine And.intro ?_ ?_)),trivial⟩) ?_;refine ay ?_;refine LR rfl rfl (uw V.h V.h V.h rfl rfl) ak ⟨rfl,oC,V.h,oC⟩ ?_;refine tx (rds:=[18]) OS rfl rfl rfl rfl (CX (n:=12) (r:=[18]) kr fun _ hi=>hi) aK ?_;refine ab ?_;exact aa (aD rfl rfl)
end Go.Proofs.Tryz.K
end
namespace Go.Proofs.Tryz.K
open Go.Abs
theorem adf:bT (Z gJ 20)=some []:=kr
theorem sk6:gJ=(S1 (G1 gJ 0) (S1 (S1 (G1 gJ 1) (C1 22 (S1 (G1 gJ 2) .ret) K1)) (S1 (G1 gJ 3) (S1 (S1 (G1 gJ 4) (C1 31 (S1 (G1 gJ 5) .ret) K1)) (S1 (G1 gJ 6) (S1 (G1 gJ 7) (S1 (S1 (G1 gJ 8) (C1 67 (S1 (G1 gJ 9) .ret) K1)) (S1 (S1 (G1 gJ 10) (B1 0 (.loop (S1 (S1 (G1 gJ 11) (C1 71 K1 (X1 0))) (S1 (B1 1 (S1 (G1 gJ 13) (B1 2 (.loop (S1 (S1 (G1 gJ 14) (C1 88 K1 (X1 2))) (S1 (B1 3 (S1 (G1 gJ 16) (S1 (S1 (G1 gJ 17) (B1 4 (.loop (S1 (S1 (G1 gJ 18) (C1 94 K1 (X1 4))) (S1 (B1 5 (G2 gJ 20)) (G1 gJ 19)))))) (S1 (G1 gJ 21) (C1 117 (S1 (G1 gJ 22) .ret) K1))))) (G1 gJ 15))))))) (G1 gJ 12)))))) (S1 (G1 gJ 23) .ret))))))))):=kr
theorem sk7:pc=(S1 (G1 pc 0) (S1 (S1 (G1 pc 1) (C1 26 (S1 (G1 pc 2) .ret) K1)) (S1 (G1 pc 3) (S1 (S1 (G1 pc 4) (C1 34 (S1 (G1 pc 5) .ret) K1)) (S1 (G1 pc 6) (S1 (G1 pc 7) (S1 (G1 pc 8) (S1 (S1 (G1 pc 9) (C1 50 (S1 (G1 pc 10) .ret) K1)) (S1 (G1 pc 11) .ret))))))))):=kr
end Go.Proofs.Tryz.K
section
open Go Go.Abs Go.Proofs Go.Argus
namespace Go.Argus
open Go.Proofs.Tryz.K (keepE)
structure Hd(f g:ai):Prop where
 iter:f.iter=g.iter
 args:f.args=g.args
 wo:f.result=g.result
 aO:f.aO=g.aO
theorem adH{f g:ai}(hf:ep f=0)(hg:ep g=0)(h:iy f=iy g):Hd f g:=by
 have:=(abQ hf hg).1 h;unfold qJ eS at this;simp only[ai.mk.injEq] at this;exact⟨this.2.1,this.2.2.1,this.2.2.2.1,this.2.2.2.2.1⟩
structure MC(l:List ai)(keep:List ByteArray):Prop where
 ok:keepE l keep=0
namespace MC
variable{l:List ai}{keep:List ByteArray}
abbrev clq(l:List ai):List Nat:=eT l
abbrev kp(l:List ai)(keep:List ByteArray):Nat->Bool:=iS l keep
abbrev lf(l:List ai)(keep:List ByteArray):Nat->Bool:=gl (eT l) (iS l keep)
abbrev bs(l:List ai)(keep:List ByteArray):Nat->Nat:=j3 (eT l) (iS l keep)
abbrev to(l:List ai)(keep:List ByteArray):ByteArray->ByteArray:=su (mV l (fun i=>fe l (bs l keep i)) l.length)
abbrev pos(l:List ai)(keep:List ByteArray):Nat->Nat:=ln (lf l keep)
theorem mz(h:MC l keep):jV l:=Go.Argus.mz (Go.Proofs.Tryz.K.Ls h.ok).1
theorem len(l:List ai):(clq l).length=l.length:=pG l
theorem get(_:MC l keep){i:Nat}{f:ai}(hl:lf l keep i=true)(hf:l[i]? =some f):(bL l keep)[pos l keep i]? =some (eS f f.name (to l keep)):=
 QG (aZ _) (bI.1 hf).1 hl hf
theorem ye(_:MC l keep){j:Nat}{g:ai}(hg:(bL l keep)[j]? =some g):∃ i f,i<l.length/\lf l keep i=true/\l[i]? =some f/\pos l keep i=j/\g=eS f f.name (to l keep):=P5 (aZ _) hg
theorem XX(h:MC l keep){i:Nat}(hi:i<l.length):to l keep (fe l i)=fe l (bs l keep i):=TD h.mz.nodup _ (aZ _) hi
theorem sw(l:List ai)(keep:List ByteArray){i:Nat}(hi:i<l.length):bs l keep i<l.length/\(clq l).getD (bs l keep i) 0=(clq l).getD i 0/\lf l keep (bs l keep i)=true:=by
 have:=SE (clq:=eT l) (kp:=iS l keep) (i:=i) (by rw[pG];exact hi);rw[pG] at this;exact this
theorem call(h:MC l keep){f:ai}(hf:f∈l){s:ByteArray}(hs:s∈dP f.blocks):∃ t g b,iR l s=t/\t<l.length/\l[t]? =some g/\g.name=s/\l[bs l keep t]? =some b/\to l keep s=b.name/\Hd b g:=by
 have C:=h.mz;have hm:=C.known hf hs;obtain⟨g,hg,J⟩:=jV.Vc hm;have ht:=Up hm;obtain⟨h1,h2,h3⟩:=sw l keep ht;obtain⟨b,hb⟩:∃ b,l[bs l keep (iR l s)]? =some b:=⟨_,aL h1⟩
 refine⟨_,g,b,rfl,ht,hg,J,hb,?_,?_⟩
 .have e:=h.XX ht;rw[uP hg,J] at e;rw[e];exact uP hb
 .refine adH (C.nJ b (bu hb)) (C.nJ g (bu hg)) ?_;have M:=FQ (zd l) C.pq;have:=M.sh _ _ (by rw[gf];exact h1) (by rw[gf];exact ht) h2;have e1:(bp l)[bs l keep (iR l s)]? =some (iy b):=by unfold bp;rw[List.getElem?_map,hb];rfl
  have e2:(bp l)[iR l s]? =some (iy g):=by unfold bp;rw[List.getElem?_map,hg];rfl
  refine(A1 e1 e2).1 ?_;have U:bs l keep (iR l s)<(bl (bp l)).length:=by simp[bp];exact h1
  have X:iR l s<(bl (bp l)).length:=by simp[bp];exact ht
  rw[dQ (d:=0) U,dQ (d:=0) X];exact congrArg some this
theorem sgl(h:MC l keep){i j:Nat}{f g:ai}(hi:l[i]? =some f)(hj:l[j]? =some g)(e:f.name=g.name):i=j:=by
 have h1:(ff l)[i]? =some f.name:=by simp[hi]
 have h2:(ff l)[j]? =some f.name:=by simp[hj,e]
 exact(List.getElem?_inj (bI.1 h1).1 h.mz.nodup).1 (h1.trans h2.symm)
theorem XZ(h:MC l keep){f:ai}(hf:f∈l):nU f.name=true:=by
 have:=Go.Argus.checked (h.mz.nJ f hf);unfold lL rR at this;simp only[aW] at this;exact this.1.1
theorem J4{f:ai}{b:bE}(hb:b∈f.blocks)(hc:eI b=true):b.fin.name∈dP f.blocks:=by
 unfold dP;exact List.mem_map.2 ⟨b,List.mem_filter.2 ⟨hb,hc⟩,rfl⟩
theorem TE(h:MC l keep):(ff (bL l keep)).Nodup:=by
 rw[List.nodup_iff_pairwise_ne,List.pairwise_iff_getElem];intro a b ha hb iT;have C:a<(bL l keep).length:=by simpa using ha
 have J:b<(bL l keep).length:=by simpa using hb
 obtain⟨i,f,h1,h2,X,h4,h5⟩:=h.ye (aL C);obtain⟨j,g,g1,g2,M,g4,U⟩:=h.ye (aL J);intro e
 have e1:(ff (bL l keep))[a]=f.name:=by
  simp only[List.getElem_map];rw[h5];rfl
 have e2:(ff (bL l keep))[b]=g.name:=by
  simp only[List.getElem_map];rw[U];rfl
 have:=h.sgl X M (by rw[<- e1, <- e2,e]);subst this;omega
theorem D9(h:MC l keep):jV (bL l keep):=by
 have X:=h.mz
 have hlen:(bL l keep).length<=l.length:=by
  rw[show(bL l keep).length=_ from AK (aZ _)];unfold ln;exact Nat.le_trans (List.length_filter_le _ _) oS
 refine⟨by have:=X.len;omega,fun g hg=>?_,fun k hk=>?_,fun g hg=>?_⟩
 .obtain⟨j,hj⟩:=dN hg;obtain⟨i,f,h1,h2,U,h4,rfl⟩:=h.ye hj;have J:=bu U;refine TF (X.nJ f J) (h.XZ J) fun b hb hc=>?_;obtain⟨t,q,r,_,_,_,_,M,g6,_⟩:=h.call J (J4 hb hc);rw[g6];exact h.XZ (bu M)
 .obtain⟨i,f,h1,h2,U,h4,h5⟩:=h.ye (aL (show k<(bL l keep).length by omega));obtain⟨j,g,g1,g2,g3,g4,M⟩:=h.ye (aL hk)
  have ly:i<j:=by
   rcases Nat.lt_trichotomy i j with e|e|e
   .exact e
   .subst e;omega
   .have:pos l keep j<pos l keep i:=DP e g2;omega
  have:=X.less ly g1;rw[yj U,yj g3] at this;rw[yj (aL (show k<(bL l keep).length by omega)),yj (aL hk),h5,M];exact this
 .obtain⟨j,hj⟩:=dN hg;obtain⟨i,f,h1,h2,U,h4,rfl⟩:=h.ye hj;have J:=bu U;have FK:=X.calls f J
  have BP:∀ b∈f.blocks,eI b=true->∃ q r,findF l b.fin.name=some q/\findF (bL l keep) (to l keep b.fin.name)=some r/\Hd r q:=fun b hb hc=>by
   obtain⟨t,q,r,e1,g2,g3,g4,M,g6,g7⟩:=h.call J (J4 hb hc);have hq:=Rz X.nodup g3;rw[g4] at hq;have amn:=sw l keep g2;have hr:=Rz h.TE (h.get amn.2.2 M);rw[g6];exact⟨q,_,hq,hr,g7.iter,g7.args,g7.wo,g7.aO⟩
  refine bS.2 fun b' fu=>?_;obtain⟨b,hb,rfl⟩:=List.mem_map.1 fu;have C:=bS.1 FK b hb;unfold jg at C ⊢;rw[Hm];by_cases k6:b.fin.kind=6
  .rw[if_pos k6] at C ⊢;have hc:eI b=true:=by unfold eI;simp[k6]
   obtain⟨q,r,hq,hr,hh⟩:=BP b hb hc;unfold wY at C ⊢;rw[hq] at C;have e:bM (to l keep) b={ b with fin:={ b.fin with name:=to l keep b.fin.name } }:=by unfold bM;rw[if_pos hc]
   rw[e];simp only[hr];unfold nZ vj at C ⊢;rw[hh.iter,hh.args,hh.wo,hh.aO];exact C
  .rw[if_neg k6] at C ⊢;by_cases k7:b.fin.kind=7
   .rw[if_pos k7] at C ⊢;have hc:eI b=true:=by unfold eI;simp[k7]
    obtain⟨q,r,hq,hr,hh⟩:=BP b hb hc;unfold wZ at C ⊢;rw[hq] at C;have e:bM (to l keep) b={ b with fin:={ b.fin with name:=to l keep b.fin.name } }:=by unfold bM;rw[if_pos hc]
    rw[e];simp only[hr];unfold nZ vj at C ⊢;rw[hh.iter,hh.args,hh.aO];exact C
   .rw[if_neg k7] at C ⊢;by_cases k8:b.fin.kind=8
    .rw[if_pos k8] at C ⊢;have hc:eI b=false:=by unfold eI;simp[k6,k7]
     have e:bM (to l keep) b=b:=by unfold bM;rw[if_neg (by rw[hc];simp)]
     rw[e];unfold vm vD at C ⊢
     have qX:(f.blocks.map (bM (to l keep))).find? (n9 b.fin.a)=(f.blocks.find? (n9 b.fin.a)).map (bM (to l keep)):=by
      have ho:∀ x:bE,n9 b.fin.a (bM (to l keep) x)=n9 b.fin.a x:=fun x=>by
       unfold n9 bM;split<;>rfl
      induction f.blocks with
      |nil=>rfl
      |cons x xs ih=>
       rw[List.map_cons,List.find?_cons,List.find?_cons,ho,ih];cases n9 b.fin.a x<;>rfl
     show(match (match (f.blocks.map (bM (to l keep))).find? (n9 b.fin.a) with
      |some b=>findF (bL l keep) b.fin.name
      |none=>none) with
      |none=>true
      |some g=> !(o5 f.aO b.fin.b !=g.result))=true
     rw[qX];cases hx:f.blocks.find? (n9 b.fin.a) with
     |none=>rfl
     |some x=>
      rw[hx] at C;have iQ:=List.mem_of_find?_eq_some hx;have gR:=List.find?_some hx
      have Ad:eI x=true:=by
       unfold n9 at gR;simp only[aW,decide_eq_true_eq] at gR;unfold eI;simp[gR.1]
      obtain⟨q,r,hq,hr,hh⟩:=BP x iQ Ad;have e:bM (to l keep) x={ x with fin:={ x.fin with name:=to l keep x.fin.name } }:=by unfold bM;rw[if_pos Ad]
      simp only[Option.map_some,e,hr];simp only[hq] at C;rw[hh.wo];exact C
    .rw[if_neg k8]
end MC
namespace MC
variable{l:List ai}{keep:List ByteArray}
abbrev eQ(l:List ai)(keep:List ByteArray):List Nat:=eT (bL l keep)
theorem mL(h:MC l keep){i:Nat}(hi:i<l.length)(hl:lf l keep i=true):pos l keep i<(bL l keep).length:=by
 obtain⟨f,hf⟩:∃ f,l[i]? =some f:=⟨_,aL hi⟩
 exact(bI.1 (h.get hl hf)).1
theorem Ur{l:List ai}{i j:Nat}{f g:ai}(hi:l[i]? =some f)(hj:l[j]? =some g):(cE l).getD i 0=(cE l).getD j 0↔iy f=iy g:=by
 have e1:(bp l)[i]? =some (iy f):=by unfold bp;rw[List.getElem?_map,hi];rfl
 have e2:(bp l)[j]? =some (iy g):=by unfold bp;rw[List.getElem?_map,hj];rfl
 have h1:=(bI.1 hi).1;have h2:=(bI.1 hj).1;rw[<- A1 e1 e2];unfold cE;rw[dQ (l:=bl (bp l)) (d:=0) (by simp[bp];exact h1),dQ (l:=bl (bp l)) (d:=0) (by simp[bp];exact h2)];exact⟨fun h=>congrArg some h,fun h=>Option.some.inj h⟩
theorem JA(h:MC l keep){i:Nat}(hi:i<l.length)(hl:lf l keep i=true):(aV (bL l keep)).getD (pos l keep i) []=((aV l).getD i []).map fun t=>pos l keep (bs l keep t):=by
 obtain⟨f,hf⟩:∃ f,l[i]? =some f:=⟨_,aL hi⟩
 rw[A2 (h.get hl hf),A2 hf];show(dP (f.blocks.map (bM _))).map _=_;rw[PE,List.map_map,List.map_map];refine List.map_congr_left fun s hs=>?_;obtain⟨t,q,b,e1,U,g3,g4,X,J,_⟩:=h.call (bu hf) hs;subst e1;show iR (bL l keep) (to l keep s)=pos l keep (bs l keep (iR l s));obtain⟨k1,k2,k3⟩:=sw l keep U;have hg:=h.get k3 X
 have jH:fa (ff (bL l keep)) (to l keep s)=true:=by
  rw[KY,J];exact List.mem_map.2 ⟨_,bu hg,rfl⟩
 obtain⟨z,hz,C⟩:=jV.Vc jH;have M:(ff (bL l keep))[iR (bL l keep) (to l keep s)]? =some b.name:=by rw[List.getElem?_map,hz, <- J, <- C];rfl
 have q2:(ff (bL l keep))[pos l keep (bs l keep (iR l s))]? =some b.name:=by rw[List.getElem?_map,hg];rfl
 exact(List.getElem?_inj (bI.1 M).1 h.TE).1 (M.trans q2.symm)
theorem X0(h:MC l keep){i j:Nat}(hi:i<l.length)(hj:j<l.length)(C:lf l keep i=true)(J:lf l keep j=true):(cE (bL l keep)).getD (pos l keep i) 0=(cE (bL l keep)).getD (pos l keep j) 0↔(cE l).getD i 0=(cE l).getD j 0:=by
 obtain⟨f,hf⟩:∃ f,l[i]? =some f:=⟨_,aL hi⟩
 obtain⟨g,hg⟩:∃ g,l[j]? =some g:=⟨_,aL hj⟩
 rw[Ur (h.get C hf) (h.get J hg),Ur hf hg,QJ,QJ]
noncomputable def zl(l:List ai)(keep:List ByteArray)(j:Nat):Nat:= @dite Nat (∃ i,i<l.length/\lf l keep i=true/\pos l keep i=j) (Classical.propDecidable _) (fun h=>Classical.choose h) fun _=>0
theorem yr{i:Nat}(hi:i<l.length)(hl:lf l keep i=true):zl l keep (pos l keep i)=i:=by
 have he:∃ k,k<l.length/\lf l keep k=true/\pos l keep k=pos l keep i:=⟨i,hi,hl,rfl⟩
 unfold zl;rw[dif_pos he];have:=Classical.choose_spec he;exact adG this.2.1 hl this.2.2
theorem uQ(h:MC l keep){j:Nat}(hj:j<(bL l keep).length):∃ i,i<l.length/\lf l keep i=true/\pos l keep i=j:=by
 obtain⟨i,f,h1,h2,J,C,_⟩:=h.ye (aL hj);exact⟨i,h1,h2,C⟩
theorem down(h:MC l keep){i j:Nat}(hi:i<l.length)(hj:j<l.length)(li:lf l keep i=true)(lj:lf l keep j=true)(e:(clq l).getD i 0=(clq l).getD j 0):(eQ l keep).getD (pos l keep i) 0=(eQ l keep).getD (pos l keep j) 0:=by
 have X:=h.mz;have hM:=h.D9;have U:=FQ (zd l) X.pq;refine YP (zd _) hM.pq (d:=fun x=>(clq l).getD (zl l keep x) 0) ⟨fun a b ha hb J=>?_,fun a b ha hb J=>?_⟩ (by rw[gf];exact h.mL hi li) (by rw[gf];exact h.mL hj lj) ?_
 .rw[gf] at ha hb;obtain⟨x,x1,x2,rfl⟩:=h.uQ ha;obtain⟨y,C,M,rfl⟩:=h.uQ hb;rw[yr x1 x2,yr C M] at J;exact(h.X0 x1 C x2 M).2 (U.sh x y (by rw[gf];exact x1) (by rw[gf];exact C) J)
 .rw[gf] at ha hb;obtain⟨x,x1,x2,rfl⟩:=h.uQ ha;obtain⟨y,C,M,rfl⟩:=h.uQ hb;rw[yr x1 x2,yr C M] at J;rw[h.JA x1 x2,h.JA C M,List.map_map,List.map_map]
  have hd:∀ z,∀ t∈(aV l).getD z [],((fun x=>(clq l).getD (zl l keep x) 0) ∘ fun t=>pos l keep (bs l keep t)) t=(clq l).getD t 0:=fun z t ht=>by
   have sR:=X.pq z t ht;rw[gf] at sR;obtain⟨k1,k2,k3⟩:=sw l keep sR;show(clq l).getD (zl l keep (pos l keep (bs l keep t))) 0=_;rw[yr k1 k3,k2]
  rw[List.map_congr_left (hd x),List.map_congr_left (hd y)];exact U.ca x y (by rw[gf];exact x1) (by rw[gf];exact C) J
 .show(clq l).getD (zl l keep (pos l keep i)) 0=(clq l).getD (zl l keep (pos l keep j)) 0;rw[yr hi li,yr hj lj];exact e
theorem X2(h:MC l keep){i j:Nat}(hi:i<l.length)(hj:j<l.length)(li:lf l keep i=true)(lj:lf l keep j=true)(e:(eQ l keep).getD (pos l keep i) 0=(eQ l keep).getD (pos l keep j) 0):(clq l).getD i 0=(clq l).getD j 0:=by
 have U:=h.mz;have hM:=h.D9;have M:=FQ (zd l) U.pq;have X3:=FQ (zd (bL l keep)) hM.pq
 have hb:∀ {t:Nat},t<l.length->lf l keep t=true->(eQ l keep).getD (pos l keep t) 0=(eQ l keep).getD (pos l keep (bs l keep t)) 0:=fun {t} ht lt=>by
  obtain⟨k1,k2,k3⟩:=sw l keep ht;exact h.down ht k1 lt k3 k2.symm
 refine YC (zd l) U.pq (R:=fun t u=>(eQ l keep).getD (pos l keep (bs l keep t)) 0=(eQ l keep).getD (pos l keep (bs l keep u)) 0) (fun a b ha J X=>?_) (fun a b ha J X=>?_) (by rw[gf];exact hi) (by rw[gf];exact hj) ?_
 .rw[gf] at ha J;obtain⟨a1,a2,a3⟩:=sw l keep ha;obtain⟨b1,b2,b3⟩:=sw l keep J;have h1:=X3.sh _ _ (by rw[gf];exact h.mL a1 a3) (by rw[gf];exact h.mL b1 b3) X;have h2:=(h.X0 a1 b1 a3 b3).1 h1;have h3:=M.sh _ _ (by rw[gf];exact a1) (by rw[gf];exact ha) a2;have h4:=M.sh _ _ (by rw[gf];exact b1) (by rw[gf];exact J) b2;rw[<- h3, <- h4,h2]
 .rw[gf] at ha J;obtain⟨a1,a2,a3⟩:=sw l keep ha;obtain⟨b1,b2,b3⟩:=sw l keep J;have h1:=X3.ca _ _ (by rw[gf];exact h.mL a1 a3) (by rw[gf];exact h.mL b1 b3) X;rw[h.JA a1 a3,h.JA b1 b3,List.map_map,List.map_map] at h1;have ea:=M.ca _ _ (by rw[gf];exact a1) (by rw[gf];exact ha) a2;have eb:=M.ca _ _ (by rw[gf];exact b1) (by rw[gf];exact J) b2
  have vY:∀ {x y:List Nat},(∀ t∈x,t<l.length)->(∀ t∈y,t<l.length)->x.map (fun t=>(clq l).getD t 0)=y.map (fun t=>(clq l).getD t 0)->x.map (bs l keep)=y.map (bs l keep):=fun {x y} _ _ OZ=>
   Hn (n:=l.length) (d:=fun t=>(clq l).getD t 0) (e:=bs l keep) (fun i j _ _ ly=>aeR ly) ‹_› ‹_› OZ
  have C:∀ z,∀ t∈(aV l).getD z [],t<l.length:=fun z t ht=>by
   have:=U.pq z t ht
   rwa[gf] at this
  have ga:=vY (C _) (C _) ea;have gb:=vY (C _) (C _) eb
  have h2:((aV l).getD a []).map (fun t=>(eQ l keep).getD (pos l keep (bs l keep t)) 0)=((aV l).getD b []).map fun t=>(eQ l keep).getD (pos l keep (bs l keep t)) 0:=by
   have q:∀ x:List Nat,x.map (fun t=>(eQ l keep).getD (pos l keep (bs l keep t)) 0)=(x.map (bs l keep)).map fun t=>(eQ l keep).getD (pos l keep t) 0:=fun x=>by rw[List.map_map];rfl
   rw[q,q, <- ga, <- gb, <- q, <- q];exact h1
  have hlen:((aV l).getD a []).length=((aV l).getD b []).length:=by
   have:=congrArg List.length h2;simpa using this
  revert h2 hlen;generalize (aV l).getD a []=xa;generalize (aV l).getD b []=xb;intro h2 hlen;refine⟨hlen,fun k hk=>?_⟩;have e1:(xa.map (fun t=>(eQ l keep).getD (pos l keep (bs l keep t)) 0))[k]? =(xb.map fun t=>(eQ l keep).getD (pos l keep (bs l keep t)) 0)[k]? :=by rw[h2]
  rw[List.getElem?_map,List.getElem?_map,aL hk,aL (show k<xb.length by omega)] at e1;rw[rP (aL hk),rP (aL (show k<xb.length by omega))];exact Option.some.inj e1
 .show(eQ l keep).getD (pos l keep (bs l keep i)) 0=(eQ l keep).getD (pos l keep (bs l keep j)) 0;rw[<- hb hi li, <- hb hj lj];exact e
theorem Pq(h:MC l keep){i:Nat}(hi:i<l.length)(hl:lf l keep i=true):iS (bL l keep) keep (pos l keep i)=kp l keep i:=by
 obtain⟨f,hf⟩:∃ f,l[i]? =some f:=⟨_,aL hi⟩
 unfold kp iS
 have e1:((bL l keep).map fun f:ai=>f.name).getD (pos l keep i) (⟨#[]⟩:ByteArray)=f.name:=by
  have q:=uP (h.get hl hf);exact q
 have e2:(l.map fun f:ai=>f.name).getD i (⟨#[]⟩:ByteArray)=f.name:=uP hf;rw[e1,e2]
theorem twins(h:MC l keep){i j:Nat}(hi:i<l.length)(hj:j<l.length)(C:lf l keep i=true)(J:lf l keep j=true)(e:(eQ l keep).getD (pos l keep i) 0=(eQ l keep).getD (pos l keep j) 0)(aC:i≠j):kp l keep i=true:=by
 cases hk:kp l keep i with
 |true=>rfl
 |false=>
  have ec:=h.X2 hi hj C J e;obtain⟨h1,h2⟩:=QI C hk;have M:=h1 j (by rw[pG];exact hj) ec.symm;obtain⟨X,g2⟩:=QI J M.1;have U:=X i (by rw[pG];exact hi) ec;have:=M.2;have:=U.2;omega
theorem aiT(h:MC l keep){i:Nat}(hi:i<l.length)(hl:lf l keep i=true):gl (eQ l keep) (iS (bL l keep) keep) (pos l keep i)=true:=by
 unfold gl;rw[h.Pq hi hl];cases hk:kp l keep i with
 |true=>rfl
 |false=>
  rw[Bool.false_or,aW,Bool.not_eq_true',beq_iff_eq];have af:=h.mL hi hl
  have J:∀ j∈bz (eQ l keep) ((eQ l keep).getD (pos l keep i) 0),j=pos l keep i:=fun j hj=>by
   obtain⟨M,U⟩:=iV.1 hj;rw[pG] at M;obtain⟨x,x1,x2,rfl⟩:=h.uQ M;by_cases C:i=x
   .rw[C]
   .have:=h.twins hi x1 hl x2 U.symm C;rw[hk] at this;cases this
  have C:=Uq (clq:=eQ l keep) (i:=pos l keep i) (by rw[pG];exact af);refine⟨?_,J _ (Sz C)⟩;rw[List.any_eq_false];intro j hj;rw[J j hj,h.Pq hi hl,hk];simp
theorem aiU(h:MC l keep){t:Nat}(ht:t<l.length):j3 (eQ l keep) (iS (bL l keep) keep) (pos l keep (bs l keep t))=pos l keep (bs l keep t):=by
 obtain⟨b1,b2,b3⟩:=sw l keep ht;have af:=h.mL b1 b3;obtain⟨c1,c2,c3⟩:=SE (clq:=eQ l keep) (kp:=iS (bL l keep) keep) (i:=pos l keep (bs l keep t)) (by rw[pG];exact af);rw[pG] at c1;obtain⟨x,x1,x2,hx⟩:=h.uQ c1;by_cases C:bs l keep t=x
 .rw[<- hx, <- C]
 .exfalso;rw[<- hx] at c2;have X:=h.twins b1 x1 b3 x2 c2.symm C;have M:=h.twins x1 b1 x2 b3 c2 (Ne.symm C);have J:=h.X2 x1 b1 x2 b3 c2;have U:=(QH (clq:=clq l) (kp:=kp l keep) (i:=t) (j:=x) (by rw[pG];exact x1) (J.trans b2) M).2;have U:bs l keep t<=x:=U;have l2:=(QH (clq:=eQ l keep) (kp:=iS (bL l keep) keep) (i:=pos l keep (bs l keep t)) (j:=pos l keep (bs l keep t)) (by rw[pG];exact af) rfl (by rw[h.Pq b1 b3];exact X)).2;rw[<- hx] at l2;have:bs l keep t<x:=by omega
  have:pos l keep (bs l keep t)<pos l keep x:=DP this b3;omega
theorem Vd(h:MC l keep):keepE (bL l keep) keep=0:=by
 have U:=PU h.D9;have C:=h.ok;unfold keepE at C ⊢;rw[if_neg (by rw[U];simp)];split at C
 .rename_i q;exact absurd C q
 .split at C
  .cases C
  .rename_i q1 X;rw[if_neg X];split at C
   .rename_i q3;rw[if_pos];refine bS.2 fun s hs=>?_;have:=bS.1 q3 s hs;obtain⟨f,hf,J⟩:=List.any_eq_true.1 this;obtain⟨i,hi⟩:=dN hf
    have M:kp l keep i=true:=by
     have e:(l.map fun f:ai=>f.name).getD i (⟨#[]⟩:ByteArray)=f.name:=uP hi;unfold kp iS;rw[e];exact List.any_eq_true.2 ⟨s,hs,J⟩
    have hl:lf l keep i=true:=by
     show gl _ _ i=true;unfold gl;have:iS l keep i=true:=M;rw[this];rfl
    exact List.any_eq_true.2 ⟨_,bu (h.get hl hi),J⟩
   .cases C
theorem again(h:MC l keep):bL (bL l keep) keep=bL l keep:=by
 have h2:MC (bL l keep) keep:=⟨h.Vd⟩
 have hlen:(bL (bL l keep) keep).length=ln (lf (bL l keep) keep) (bL l keep).length:=AK (aZ _)
 have J:∀ j,j<(bL l keep).length->lf (bL l keep) keep j=true:=fun j hj=>by
  obtain⟨i,i1,i2,rfl⟩:=h.uQ hj;exact h.aiT i1 i2
 have X:∀ j,j<=(bL l keep).length->ln (lf (bL l keep) keep) j=j:=fun j=>by
  induction j with
  |zero=>intro _;rfl
  |succ j ih=>
   intro hj;rw[Gd,ih oG,J j oG,if_pos rfl]
 refine List.ext_getElem? fun j=>?_;by_cases hj:j<(bL l keep).length
 .obtain⟨i,f,f1,f2,f3,f4,f5⟩:=h.ye (aL hj);have hg:=h2.get (J j hj) (aL hj);rw[show pos (bL l keep) keep j=j from X j oG] at hg;rw[hg,aL hj];congr 1;have l9:=bu f3;rw[f5];show eS (eS f f.name (to l keep)) f.name (to (bL l keep) keep)=eS f f.name (to l keep);unfold eS;simp only[ai.mk.injEq,true_and];rw[List.map_map];refine List.map_congr_left fun b hb=>?_;show bM _ (bM _ b)=bM _ b;by_cases hc:eI b=true
  .have mU:eI (bM (to l keep) b)=true:=by rw[TG];exact hc
   have e1:bM (to l keep) b={ b with fin:={ b.fin with name:=to l keep b.fin.name } }:=by unfold bM;rw[if_pos hc]
   have e2:bM (to (bL l keep) keep) (bM (to l keep) b)={ b with fin:={ b.fin with name:=to (bL l keep) keep (to l keep b.fin.name) } }:=by
    rw[show bM (to (bL l keep) keep) (bM (to l keep) b)={ bM (to l keep) b with fin:={ (bM (to l keep) b).fin with name:=to (bL l keep) keep (bM (to l keep) b).fin.name } } from by rw[bM.eq_def (to (bL l keep) keep),if_pos mU]];rw[e1]
   rw[e2,e1];congr 2;obtain⟨t,q,r,_,M,_,_,g5,g6,_⟩:=h.call l9 (J4 hb hc);obtain⟨k1,k2,k3⟩:=sw l keep M;have hr:=h.get k3 g5;have af:=h.mL k1 k3;have U:=h2.XX af
   have C:fe (bL l keep) (pos l keep (bs l keep t))=r.name:=by
    have q:=uP hr;exact q
   rw[C] at U;rw[g6,U]
   have Fk:fe (bL l keep) (bs (bL l keep) keep (pos l keep (bs l keep t)))=r.name:=by
    show fe (bL l keep) (j3 (eQ l keep) (iS (bL l keep) keep) (pos l keep (bs l keep t)))=r.name;rw[h.aiU M];exact C
   rw[Fk]
  .have e1:bM (to l keep) b=b:=by unfold bM;rw[if_neg hc]
   rw[e1];unfold bM;rw[if_neg hc]
 .rw[List.getElem?_eq_none (by rw[hlen,X _ (aZ _)];omega),List.getElem?_eq_none oG]
theorem shorter(l:List ai)(keep:List ByteArray):(bL l keep).length<=l.length:=by
 rw[show(bL l keep).length=_ from AK (aZ _)];unfold ln;exact Nat.le_trans (List.length_filter_le _ _) oS
theorem aey(h:MC l keep){x:List Int}(hx:x∈nw (bL l keep))(h2:1<x.length){n:Int}(hn:n∈x):∃ i g,n=(i:Nat)/\(bL l keep)[i]? =some g/\(keep.any fun s=>g.name.toList==s.toList)=true:=by
 obtain⟨k,hk⟩:=dN hx
 have gC:k<(bt (eQ l keep)).length:=by
  have:=(bI.1 hk).1;unfold nw at this
  rwa[KQ] at this
 unfold nw at hk;rw[Sd gC] at hk;cases hk;obtain⟨i,hi,rfl⟩:=List.mem_map.1 hn
 have M:∀ {i},i∈(range (eQ l keep).length).filter (fun i=>(eQ l keep).getD i 0==k)->i<(bL l keep).length/\(eQ l keep).getD i 0=k:=fun {i} h=>by
  have:=abS.1 h
  rwa[pG] at this
 have C:=Kt (eQ l keep).length fun i=>(eQ l keep).getD i 0==k
 obtain⟨j,hj,aC⟩:∃ j,j∈(range (eQ l keep).length).filter (fun i=>(eQ l keep).getD i 0==k)/\j≠i:=by
  generalize (range (eQ l keep).length).filter (fun i=>(eQ l keep).getD i 0==k)=y at*
  match y,h2,C,hi with
  |[],h2,_,_=>simp[ao] at h2
  |[a],h2,_,_=>simp[ao] at h2
  |a::b::z,_,C,hi=>
   have iT:a<b:=(List.pairwise_cons.1 C).1 b oS;by_cases e:a=i
   .exact⟨b,oS,oG⟩
   .exact⟨a,oS,e⟩
 obtain⟨i1,i2⟩:=M hi;obtain⟨j1,j2⟩:=M hj;obtain⟨p,U,X,J⟩:=h.uQ i1;obtain⟨q,q1,q2,q3⟩:=h.uQ j1;have hk:=h.twins U q1 X q2 (by rw[J,q3,i2,j2]) (fun e=>aC (by rw[<- q3, <- J,e]));obtain⟨f,hf⟩:∃ f,l[p]? =some f:=⟨_,aL U⟩
 have hg:=h.get X hf;rw[J] at hg;refine⟨i,_,rfl,hg,?_⟩;have e:(l.map fun f:ai=>f.name).getD p (⟨#[]⟩:ByteArray)=f.name:=uP hf;have hk:iS l keep p=true:=hk;unfold iS at hk;rw[e] at hk;exact hk
end MC
end Go.Argus
namespace Go.Proofs.Tryz.K
theorem O0{a b:List ai}(ha:Jv a)(hb:Jv b):aB prog 26 [ba a,ba b] (B (BR a b)):=by
 have M:∀ x∈[ba a,ba b],Tr x:=.cons (iU _) (.cons (iU _) .nil);refine mh Wo.he M fun ez=>?_;have hlen:=(ez (ba a) oS).sl.1;unfold maxLen at hlen;refine bj Wo M (Tr.s _) ?_;rw[alP]
 have U:(a.map gm=b.map gm->False)->BR a b=false:=fun h=>by
  rw[Bool.eq_false_iff];intro e;exact h (Km.1 e)
 have nv:a.map gm=b.map gm->BR a b=true:=Km.2;generalize BR a b=sl at*
 refine ws ?_;refine SS ?_;refine aa (az (ag ?_));refine bw ?_;refine aa (cA rfl (fun h=>?_) fun h=>cm (az (aw ?_)))
 .refine az (ag ?_);refine SS ?_;refine aa (dG (aD (d:=B false) rfl ?_));rw[U fun e=>?_];have e2:a.length=b.length:=by simpa using congrArg List.length e
  rw[e2] at h;simp at h
 have l6:a.length=b.length:=by
  have:¬ ((a.length:Int)≠(b.length:Int)):=by simpa using h
  omega
 clear h;refine SS ?_
 refine aa (bZ (fun s=>aH prog s ⟨ax [],fun _=>none,0⟩/\a.map gm=b.map gm) (jh (α:=Nat) (fun k=>⟨ax [(0,ba a),(1,ba b),(5,I k)],fun _=>none,0⟩)
  (fun k=>k<=a.length/\∀ j:Nat,j<k->(a.map gm)[j]? =(b.map gm)[j]?) (fun k=>a.length - k) 0 (au eH) ⟨oG,fun j hj=>by omega⟩ ?_) ?_)
 .rintro k ⟨hk,hinv⟩;refine aY ?_;refine aa ⟨_,rfl,fun h=>?_,fun h=>?_⟩
  .have af:k<a.length:=by simpa using h
   obtain⟨x,hx⟩:∃ x,a[k]? =some x:=⟨_,aL af⟩
   obtain⟨y,hy⟩:∃ y,b[k]? =some y:=⟨_,aL oG⟩
   have X:=ha x (bu hx);have J:=hb y (bu hy);have OX:=OX (f:=x) (g:=y) X.1 X.2 J.1 J.2;have C:=Kl (f:=x) (g:=y);generalize ze x y=sb at*
   refine dV ade ?_;refine du ?_;refine cl OX ?_;refine SS ?_;refine cq cx (aQ rfl (fun hp=>?_) fun hp=>?_)
   .refine ws ?_;refine SS ?_;refine aa (bG (bY (bA (aD (d:=B false) rfl ?_))));rw[U fun e=>?_];have e2:(a.map gm)[k]? =(b.map gm)[k]? :=by rw[e]
    rw[List.getElem?_map,List.getElem?_map,hx,hy] at e2;have e3:=C.2 (Option.some.inj e2);have hp:(!sb)=true:=hp;rw[e3] at hp;cases hp
   .have hp:(!sb)=false:=hp;refine cP ?_;refine ay ?_;refine aa (bf (k+1) (au eH) ⟨oG,fun j hj=>?_⟩ oG);by_cases e:j=k
    .subst e;rw[List.getElem?_map,List.getElem?_map,hx,hy];exact congrArg some (C.1 (by simpa using hp))
    .exact hinv j oG
  .have bm:¬ k<a.length:=by simpa using h
   refine⟨fN (l:=[]) trivial,List.ext_getElem? fun j=>?_⟩;by_cases hj:j<k
   .exact hinv j hj
   .rw[List.getElem?_eq_none oP,List.getElem?_eq_none oP]
 .rintro s ⟨hg,iT⟩;refine⟨_,hg,ag ?_⟩;refine SS ?_;refine aa (aD (d:=B true) rfl ?_);rw[nv iT]
theorem alQ{a:List ai}(ha:Jv a):aB prog 26 [ba a,ba a] (B true):=by
 have:=O0 ha ha
 rwa[Km.2 rfl] at this
theorem k6{l:List ai}{keep:List ByteArray}:aB prog 6 [ba l,bP keep] (B true):=by
 have xX:=xX (l:=l);have xW:=xW (c:=keep);refine bj ok6 (.cons (iU l) (.cons (gS keep) .nil)) (Tr.s _) ?_;rw[sk6];have me:=Tj (l:=l)
 have mb:uW keep=true->keep.length<=62:=fun h=>by
  unfold uW at h;simp only[aW,Bool.or_eq_true,decide_eq_true_eq] at h;omega
 generalize tR l=fw at*
 generalize uW keep=sb at*
 refine ws ?_;refine SS ?_;refine aa (az (ag ?_));refine SS ?_;refine cl xX ?_;refine ay ?_;refine gc xW ?_;refine ab ?_;refine aa (cA rfl (fun h=>az (ag ?_)) fun h=>cm (ag ?_))
 .refine cl wm ?_;refine SS ?_;exact aa (dG (aD rfl rfl))
 have hb:fw=true/\sb=true:=by
  revert h;cases fw<;>cases sb<;>simp
 obtain⟨rfl,rfl⟩:=hb;clear h xX xW;have me:=me rfl;have mb:=mb rfl;have M:=fun l (hl:l.length<=1000)=>Go.Proofs.Tryz.K.sQ (l:=l) (keep:=keep) hl;have sQ:=M l oG;have tU:keepE l keep=0->MC l keep:=fun h=>⟨h⟩
 by_cases he:keepE l keep=0
 .have J:=tU he;rw[he,if_pos rfl] at sQ;have aoH:=MC.shorter l keep;have Wp:=M (bL l keep) oG;rw[J.Vd,if_pos rfl,J.again] at Wp;have kq:=Go.Proofs.Tryz.K.kq (l:=bL l keep) oG;have X:=PU J.D9;have OP:qg (bL l keep)=bX (nw (bL l keep)):=if_pos X;rw[X,OP] at kq;have O0:=alQ J.D9.cmp;have U:=fun {x} (hx:x∈nw (bL l keep)) h2 {n} (hn:n∈x)=>J.aey hx h2 hn;have Vb:=ac6 (l:=bL l keep) oG;clear OP X J tU he M;generalize nw (bL l keep)=C at*
  generalize bL l keep=m at*
  refine ab ?_;refine cl sQ ?_;refine bw ?_;refine aa (az (ag ?_));refine ab ?_;refine aa (tD (cm (ag ?_)));have sQ:=Wp;refine ab ?_;refine cl sQ ?_;refine bw ?_;refine er ?_;refine SS ?_;refine cl kq ?_;refine bw ?_;refine aa (az (ag ?_));refine bh ?_;refine gc O0 ?_;refine bh ?_;refine aa (cA rfl (fun h=>?_) fun _=>cm (az (aw ?_)))
  .exfalso;revert h;simp;omega
  refine SS ?_
  refine aa (bZ (fun s=>∃ nx,aH prog s ⟨ax [],fun _=>none,nx⟩) (jh (α:=Nat) (fun k=>⟨ax [(1,bP keep),(5,ba m),(9,bX C),(11,I k)],fun _=>none,0⟩)
   (fun k=>k<=C.length) (fun k=>C.length - k) 0 (au eH) (Nat.zero_le _) ?_) ?_)
  .rintro k hk;refine aY ?_;refine aa ⟨_,rfl,fun h=>?_,fun h=>?_⟩
   .have af:k<C.length:=by simpa using h
    clear h;obtain⟨x,hx⟩:∃ x,C[k]? =some x:=⟨_,aL af⟩
    have iQ:=bu hx;have xH:=Vb.2 x iQ;refine aw ?_;refine SS ?_
    refine aa (jh (α:=Nat) (fun i=>⟨ax [(1,bP keep),(5,ba m),(9,bX C),(11,I k),(12,I i)],fun _=>none,0⟩)
     (fun i=>i<=x.length) (fun i=>x.length - i) 0 (au eH) (Nat.zero_le _) ?_)
    rintro i hi;refine bh ?_;refine cz ?_;refine aa ⟨_,rfl,fun h=>?_,fun h=>?_⟩
    .have hh:i<x.length/\1<x.length:=by
      revert h;by_cases h1:(i:Int)<x.length
      .rw[decide_eq_true h1];intro h;have h:decide ((1:Int)<x.length)=true:=h;simp at h;omega
      .rw[decide_eq_false h1];intro h;cases h
     obtain⟨eN,h1x⟩:=hh;clear h;obtain⟨n,hn⟩:∃ n,x[i]? =some n:=⟨_,aL eN⟩
     obtain⟨q,g,rfl,hq,hkq⟩:=U iQ h1x (bu hn);refine ws ?_;refine SS ?_;refine aa (az (aw ?_));refine SS ?_
     refine aa (bZ (fun s=>aH prog s ⟨ax [(1,bP keep),(5,ba m),(9,bX C),(11,I k),(12,I i),(13,B true)],fun _=>none,0⟩) (jh (α:=Nat) (fun j=>⟨ax [(1,bP keep),(5,ba m),(9,bX C),(11,I k),(12,I i),(13,B ((keep.take j).any fun s=>s.toList==g.name.toList)),(14,I j)],fun _=>none,0⟩)
      (fun j=>j<=keep.length) (fun j=>keep.length - j) 0 (au eH) (Nat.zero_le _) ?_) ?_)
     .rintro j hj;refine aY ?_;refine aa ⟨_,rfl,fun h=>?_,fun h=>?_⟩
      .have cZ:j<keep.length:=by simpa using h
       clear h;obtain⟨s,hs⟩:∃ s,keep[j]? =some s:=⟨_,aL cZ⟩
       have eP:((keep.take (j+1)).any fun s=>s.toList==g.name.toList)=(((keep.take j).any fun s=>s.toList==g.name.toList)||(s.toList==g.name.toList)):=by
        rw[List.take_add_one,hs,List.any_append];simp
       generalize ((keep.take j).any fun s=>s.toList==g.name.toList)=th at*
       refine A8 adf ?_;refine bh ?_;refine bw ?_;refine bc rfl rfl (rX rfl rfl V.h V.h (sU) oN) (fun hc=>⟨ak,(rY V.h (sU) oN)⟩) ?_;refine ab ?_;refine bc rfl rfl (Hr rfl rfl) (fun hc=>⟨ak,trivial⟩) ?_;refine ab ?_;refine cq cx ?_;show aq _ _ _ _ _ _ _ _ _;refine ay ?_;refine aa (bf (j+1) (au ⟨rfl,rfl,rfl,rfl,rfl,?_,rfl,trivial⟩) oG oG);rw[eP];cases th<;>rfl
      .have bm:¬ j<keep.length:=by simpa using h
       refine au ⟨rfl,rfl,rfl,rfl,rfl,?_,trivial⟩;rw[dq oG];refine congrArg (fun b=>B b) ?_
       have:(keep.any fun s=>s.toList==g.name.toList)=keep.any fun s=>g.name.toList==s.toList:=by
        congr 1;funext s;exact Bool.eq_iff_iff.2 ⟨fun h=>by simp at h ⊢;exact h.symm,fun h=>by simp at h ⊢;exact h.symm⟩
       exact this.trans hkq
     .rintro s hg;refine⟨_,hg,ag ?_⟩;refine ab ?_;refine aa (H' (cP ?_));show aq _ _ _ _ _ _ _ _ _;refine ay ?_;exact aa (bf (i+1) (au eH) oG oG)
    .show aq _ _ _ _ _ _ _ _ _;refine ay ?_;exact aa (bf (k+1) (au eH) oG oG)
   .exact⟨0,au trivial⟩
  .rintro s ⟨nx,hg⟩;refine⟨_,hg,ag ?_⟩;refine cl wm ?_;refine SS ?_;exact aa (aD rfl rfl)
 .rw[if_neg he] at sQ;generalize keepE l keep=e at*
  have tL:(e !=0)=true:=by simpa using he
  refine ab ?_;refine cl sQ ?_;refine bw ?_;refine aa (az (ag ?_));refine ab ?_;refine aa (wX (az (ag ?_)));refine cl wm ?_;refine SS ?_;refine alS ?_;refine alT ?_;refine ay ?_;exact aa (dG (aD rfl rfl))
end Go.Proofs.Tryz.K
end
