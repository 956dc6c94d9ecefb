/- Part 9. -/
import Derived.Test.YtnagfmlifobdiaaGreatDoorShareApart8
import Derived.Lib.Strings
import Derived.RecoverIn
set_option linter.all false
set_option maxHeartbeats 0
set_option maxRecDepth 10000
noncomputable section
namespace Go.Abs
open List
def Qp:∀ (f i j:Nat),i+1<2 ^ f->j+1<2 ^ f->Aj f i=Aj f j->i=j
 |0,i,j,hi,_,_=>by simp at hi
 |f+1,i,j,hi,hj,h=>by
  have h2:2 ^ (f+1)=2*2 ^ f:=by rw[Nat.pow_succ];omega
  simp[Aj,Bool.cond_eq_ite,Nat.beq_eq] at h;by_cases J:i=0<;>by_cases M:j=0
  .omega
  .rw[bi J,ai M] at h;split at h<;>cases h
  .rw[ai J,bi M] at h;split at h<;>cases h
  .rw[ai J,ai M] at h;by_cases i1:i % 2=1<;>by_cases C:j % 2=1
   .rw[bi i1,bi C] at h;have:=Qp f (i / 2) (j / 2) oG oG (cons.inj h).2;omega
   .rw[bi i1,ai C] at h;cases h
   .rw[ai i1,bi C] at h;cases h
   .rw[ai i1,ai C] at h;have:=Qp f (i / 2 - 1) (j / 2 - 1) oG oG (cons.inj h).2;omega
def CL{α:Type}:∀ p:List Bool,zj p (T.leaf:T α)=none
 |[]=>rfl
 |_::_=>rfl
def X9{α:Type}(v:Option α):∀ (p q:List Bool) (t:T α),zj q (Gx v p t)=if q=p then v else zj q t
 |[],[],t=>by cases t<;>rfl
 |[],b::q,t=>by
  cases t with
  |leaf=>cases b<;>simp[reduceCtorEq,if_false]<;>exact CL q
  |node u l r=>rfl
 |b::p,[],t=>by cases t<;>cases b<;>rfl
 |b::p,c::q,t=>by
  have ih:=λt=>X9 v p q t;cases t with
  |leaf=>
   cases b<;>cases c
   .show zj q (Gx v p .leaf)=_;rw[ih,CL];simp;rfl
   .show zj q .leaf=_;rw[CL];simp;rfl
   .show zj q .leaf=_;rw[CL];simp;rfl
   .show zj q (Gx v p .leaf)=_;rw[ih,CL];simp;rfl
  |node u l r=>
   cases b<;>cases c
   .show zj q (Gx v p r)=_;rw[ih];simp;rfl
   .simp;rfl
   .simp;rfl
   .show zj q (Gx v p l)=_;rw[ih];simp;rfl
def K8:∀ (f i:Nat),(i+1<2 ^ f->(Aj f i).length<f)/\(2 ^ f<=i+1->(Aj f i).length=f)
 |0,i=>⟨λh=>by simp at h,λ_=>rfl⟩
 |f+1,i=>by
  have h2:2 ^ (f+1)=2*2 ^ f:=by rw[Nat.pow_succ];omega
  have hp:0<2 ^ f:=Nat.two_pow_pos f;simp[Aj,Bool.cond_eq_ite,Nat.beq_eq];by_cases C:i=0
  .rw[bi C];exact⟨λ_=>by simp,λh=>by omega⟩
  .rw[ai C];split
   .let⟨a,b⟩:=K8 f (i / 2);exact⟨λh=>by have:=a oG;simp;omega,λh=>by have:=b oG;simp;omega⟩
   .let⟨a,b⟩:=K8 f (i / 2 - 1);exact⟨λh=>by have:=a oG;simp;omega,λh=>by have:=b oG;simp;omega⟩
def T.Rz{α:Type}{t C:T α}{i:Nat}{v:Option α}(h:t.put i v=some C)(j:Nat):C.get j=if j=i then v else t.get j:=by
 unfold T.put at h;cases hb:Nat.blt i 1000000 with
 |false=>rw[hb] at h;cases h
 |true=>
  rw[hb] at h;simp only[cond_true,bg] at h;subst h;have hi:i<1000000:=by simpa using hb
  unfold T.get;rw[X9];by_cases e:j=i
  .subst e;simp
  .have J:bits j≠bits i:=λh=>by
    have hl:(bits i).length<20:=(K8 20 i).1 oG;rcases Nat.lt_or_ge (j+1) (2 ^ 20) with h1|h1
    .exact e (Qp 20 j i h1 oG h)
    .have:(bits j).length=20:=(K8 20 j).2 h1;rw[h] at this;omega
   rw[ai e,ai J]
def tO:∀ (n:Nat) (l:List D),pf n l=true↔n<=l.length
 |0,l=>by show true=true↔_;simp
 |n+1,[]=>by
  show false=true↔_;simp
 |n+1,d::l=>by
  show pf n l=true↔_;rw[tO n l];simp
def Bo:∀ (n:Nat) (l:List D),zl n l=true↔l.length=n
 |0,[]=>by show true=true↔_;simp
 |0,d::l=>by show false=true↔_;simp
 |n+1,[]=>by show false=true↔_;simp
 |n+1,d::l=>by
  show zl n l=true↔_;rw[Bo n l];simp
def Zc:∀ (n:Nat) (l:List D),Ta n l=l.drop n
 |0,l=>rfl
 |n+1,[]=>rfl
 |n+1,d::l=>by show Ta n l=_;rw[Zc n l];rfl
def wH(l:List D)(n:Nat):vI l n=l.drop n:=Zc n l
def CO:∀ (n:Nat) (l:List D),F9 n l=l.take n
 |0,l=>by show []=_;simp
 |n+1,[]=>rfl
 |n+1,d::l=>by show d::F9 n l=_;rw[CO n l];rfl
def H7(P:Program)(t:TypeId)(cs:List D):Dz P t cs=mB P t cs:=by
 rw[Dz,mB,CO];cases bX P t with
 |true=>rfl
 |false=>cases cs<;>rfl
def MU(a b:Int):tz a b=decide (a<b):=by
 rw[Bool.eq_iff_iff];cases a<;>cases b<;>simp[tz]<;>omega
def abK(a b:Int):Er a b=(a==b):=by
 rw[Bool.eq_iff_iff];cases a<;>cases b<;>simp[Er]<;>omega
def Fk(k k':IntKind)(h:k9 k k'=true):k=k':=by cases k<;>cases k'<;>first|rfl|cases h
def ala(k:IntKind)(n:Int)(h:OF k n=true):k.wrap n=n:=by
 unfold OF at h;split at h
 .exact IntWalk.i64_in _ (by simp at h ⊢;omega)
 .exact IntWalk.i64_in _ (by simp at h;omega)
 .exact IntWalk.u8_in _ (by simp at h ⊢;omega)
 .exact IntWalk.u64_in _ (by simp at h ⊢;omega)
 .cases h
def Zd(k:IntKind)(n:Int):DA k n=k.wrap n:=by
 unfold DA;cases h:OF k n with
 |true=>exact(ala k n h).symm
 |false=>rfl
def MV:∀ (a b:List UInt8),Hg a b=(a==b)
 |[],[]=>rfl
 |[],_::_=>rfl
 |_::_,[]=>rfl
 |a::aS,b::bs=>by
  show(Nat.beq a.toNat b.toNat&&Hg aS bs)=(a==b&&aS==bs)
  rw[MV aS bs];congr 1;rw[Bool.eq_iff_iff];simp[UInt8.toNat_inj]
def Sp:∀ (a b:List UInt8),J' a b=Op.bytesLess a b
 |[],[]=>rfl
 |_::_,[]=>rfl
 |[],_::_=>rfl
 |a::aS,b::bs=>by
  show(Nat.blt a.toNat b.toNat||(Nat.beq a.toNat b.toNat&&J' aS bs))=(decide (a<b)||(a==b&&Op.bytesLess aS bs))
  rw[Sp aS bs];congr 1
  .rw[Bool.eq_iff_iff];simp[UInt8.lt_iff_toNat_lt]
  .congr 1;rw[Bool.eq_iff_iff];simp[UInt8.toNat_inj]
def QY:∀ (i:Nat) (l:List Nat),Gb i l=true↔i∉l
 |i,[]=>by simp[Gb]
 |i,j::l=>by
  simp only[Gb,aJ,Bool.not_eq_true',QY i l,mem_cons,not_or];rw[<- Bool.not_eq_true,Nat.beq_eq];exact⟨λh=>⟨λe=>h.1 e.symm,h.2⟩,λh=>⟨λe=>h.1 e.symm,h.2⟩⟩
def K9(P:Program)(t:TypeId):∀ es:List (Value×D),FM P t es=es.all λe=>ew P t e.1
 |[]=>rfl
 |e::es=>by simp[FM,K9 P t es]
def aat:∀ (l:List D) (n:Nat) (d:D),Ub l n=some d->n<l.length/\l.getD n .u=d
 |[],n,d,h=>by cases n<;>cases h
 |x::l,0,d,h=>by cases h;simp
 |x::l,n+1,d,h=>by
  let⟨h1,h2⟩:=aat l n d h;exact⟨by simp;omega,s0 h2⟩
def parts_eq(ρ:Operand->D):∀ l:List (Nat×Operand),parts ρ l=l.map λq=>(q.1,ρ q.2)
 |[]=>rfl
 |q::l=>by simp[parts,parts_eq ρ l]
def Lp{place:Nat->Option (Nat×Nat)}:∀ (l:List (Nat×D)) (cells cs:List D),Ga place cells l=some cs->mC place cells l=some cs
 |[],cells,cs,h=>h
 |(i,d)::rest,cells,cs,h=>by
  simp[Ga] at h;simp[mC];cases hp:place i with
  |none=>rw[hp] at h;cases h
  |some q=>
   let⟨off,size⟩:=q;rw[hp] at h;simp only at h ⊢;cases hb:(zl size d.cells&&pf (off+size) cells)&&d.cells.all D.one with
   |false=>rw[hb] at h;cases h
   |true=>
    rw[hb] at h;simp[aJ,Bo,tO] at hb;rw[bi ⟨hb.1.1,hb.1.2,hb.2⟩];exact Lp rest _ cs h
def Xz:∀ {ds:List D} {l:List Int},Nj ds=some l->ds=tT l
 |[],l,h=>by cases h;rfl
 |d::ds,l,h=>by
  unfold Nj at h;split at h
  .rename_i hd;cases hd
  .rename_i n C hd;cases hd;split at h
   .rename_i J h';cases h;rw[Xz h'];rfl
   .cases h
  .cases h
def Ze{P:Program}{t:TypeId}(h:OG P t=true):Ee P t:=by
 unfold OG at h;simp[aJ,Nat.beq_eq] at h;let⟨⟨h1,h2⟩,C⟩:=h;refine⟨h1,?_,C⟩;split at h2
 .assumption
 .cases h2
def E3(b:ByteArray):b.data.toList.length=b.size:=by rw[Array.length_toList];rfl
section
inductive gm(P:Program)(o:Op)(ρ:Operand->D)(m:Mem)(nx:Nat):cy->Prop
 |a (e:eC) (h:bw P o ρ m nx=some e) (hp:e.pre):gm P o ρ m nx ⟨e.val,e.bF,e.rd,e.new⟩
 |n (e:eC) (h:ez P ρ m nx o e):gm P o ρ m nx ⟨e.val,e.bF,e.rd,e.new⟩
def cv(t:T Row):Mem:=λi=>t.get i
variable{b:Bool}{d:D}{i n:Nat}{r:Row}{rd:List Nat}{a:Operand}{t:TypeId}{x:Operand}{ps:Array (Nat×Operand)}{op:BinOp}{y:Operand}{ty:TypeId}{k:Nat}{c:Call}{xs:List Operand}{ts:List TypeId}
section
variable{P:Program}{o:Op}{ρ:Operand->D}{m:T Row}{nx:Nat}{p:cy}
def ig(h:jT b d=some p):b=true/\p=⟨d,[],[],0⟩:=by
 cases b with
 |true=>exact⟨rfl,(Option.some.inj h).symm⟩
 |false=>cases h
def vj(h:uJ b d i=some p):b=true/\p=⟨d,[],[i],0⟩:=by
 cases b with
 |true=>exact⟨rfl,(Option.some.inj h).symm⟩
 |false=>cases h
def zN(h:zk b n d r rd=some p):b=true/\p=⟨d,[(n,some r)],rd,1⟩:=by
 cases b with
 |true=>exact⟨rfl,(Option.some.inj h).symm⟩
 |false=>cases h
def Lq(h:J9 b i r=some p):b=true/\p=⟨.bu [],[(i,some r)],[i],0⟩:=by
 cases b with
 |true=>exact⟨rfl,(Option.some.inj h).symm⟩
 |false=>cases h
def H8{α:Type _}{x e:α}(h:(bif b then some x else none)=some e):b=true/\e=x:=by
 cases b with
 |true=>exact⟨rfl,(Option.some.inj h).symm⟩
 |false=>cases h
def gm.of{pre:Prop}{val:D}{bF:List (Nat×Option Row)}{new:Nat}(h:bw P o ρ (cv m) nx=some ⟨pre,val,bF,rd,new⟩)(hp:pre)(he:p=⟨val,bF,rd,new⟩):gm P o ρ (cv m) nx p:=he▸ .a ⟨pre,val,bF,rd,new⟩ h hp
def gm.nw{e:eC}(h:ez P ρ (cv m) nx o e)(he:p=⟨e.val,e.bF,e.rd,e.new⟩):gm P o ρ (cv m) nx p:=he▸ .n e h
def alb{c b:Operand}(h:Tb c a b P ρ m nx=some p):gm P (.pick c a b) ρ (cv m) nx p:=by
 unfold Tb at h;split at h
 .rename_i hc;split at h
  .rename_i v ha;cases h;refine .of (by simp only[bw,hc,D.core,D.iw];rfl) ?_ (by simp[ha,D.core,D.iw]);simp[ha,D.ask,D.core,D.iw]
  .cases h
 .rename_i hc;split at h
  .rename_i v hb;cases h;refine .of (by simp only[bw,hc,D.core,D.iw];rfl) ?_ (by simp[hb,D.core,D.iw]);simp[hb,D.ask,D.core,D.iw]
  .cases h
 .cases h
def ai3(h:Se t P ρ m nx=some p):gm P (.alloc t) ρ (cv m) nx p:=by
 unfold Se at h;cases hb:BU t with
 |true=>
  rw[hb] at h;simp[cond_true] at h;split at h
  .rename_i hz;let⟨h1,h2⟩:=zN h;exact .nw (.Dd t hb h1 hz) h2
  .cases h
 |false=>
  rw[hb] at h;simp[cond_false] at h;let⟨h1,h2⟩:=zN h;exact .of rfl h1 h2
def anq(h:T6 t x P ρ m nx=some p):gm P (.box t x) ρ (cv m) nx p:=by
 unfold T6 at h;cases hb:BU t with
 |true=>
  rw[hb] at h;simp[cond_true] at h;split at h
  .rename_i d hx;let⟨h1,h2⟩:=zN h;simp[aJ,Nat.beq_eq] at h1;exact .nw (.DN t x d hb hx h1.1 h1.2) h2
  .cases h
 |false=>
  rw[hb] at h;simp[cond_false] at h;let⟨h1,h2⟩:=zN h;exact .of rfl h1 h2
def ai4(h:Sg t ps P ρ m nx=some p):gm P (.build t ps) ρ (cv m) nx p:=by
 unfold Sg at h
 have agg:∀ {b:Bool} {o:Option (List D)},Tc b o=some p->b=true/\∃ cs,o=some cs/\p=⟨.agg cs,[],[],0⟩:=λ{b o} h=>by
  cases o with
  |none=>cases h
  |some cs=>exact⟨(ig h).1,cs,rfl,(ig h).2⟩
 split at h
 .rename_i fs hu;let⟨h1,cs,h2,J⟩:=agg h;simp[aJ] at h1;have C:=Lp _ _ _ h2;rw[parts_eq] at C
  have e:Sf P fs=λi=>(fs[i]?).map λf=>(f.offset,P.cellsOf f.type):=by
   funext i;unfold Sf;cases fs[i]? <;>rfl
  rw[e] at C;refine .of (by simp only[bw,hu,C,Option.map_some];rfl) ?_ J;exact h1
 .rename_i n e hu;let⟨h1,cs,h2,J⟩:=agg h;simp[aJ] at h1;have C:=Lp _ _ _ h2;rw[parts_eq] at C;refine .of (by simp[bw,hu,C,Option.map_some];rfl) ?_ J;exact h1
 .cases h
def agu(h:PK t n ps P ρ m nx=some p):gm P (.buildSlice t n ps) ρ (cv m) nx p:=by
 unfold PK acA at h;split at h
 .rename_i cs h2;let⟨h1,J⟩:=zN h;simp[aJ,Nat.ble_eq] at h1;have C:=Lp _ _ _ h2;rw[parts_eq] at C;refine .of (by simp[bw,C,Option.map_some];rfl) ?_ J;exact⟨h1.2,h1.1.2.1,h1.1.1,h1.1.2.2⟩
 .cases h
def alc(h:Td t a P ρ m nx=some p):gm P (.load t a) ρ (cv m) nx p:=by
 unfold Td at h;split at h
 .rename_i cs ha;let⟨h1,h2⟩:=ig h;simp[aJ,tO] at h1;rw[H7] at h2;refine .of (by simp[bw,ha];rfl) ?_ h2;exact h1
 .rename_i i off ha;split at h
  .rename_i cs e hm;have hm:cv m i=some (.cells cs e):=hm;let⟨h1,h2⟩:=vj h;simp[aJ,tO] at h1;rw[H7,wH] at h2;refine .of (by simp[bw,ha,hm];rfl) ?_ h2;exact h1
  .rename_i u x T hm;let⟨h1,h2⟩:=vj h;simp[aJ,Nat.beq_eq,Bool.not_eq_true'] at h1;obtain⟨rfl,C,J⟩:=h1;exact .nw (.Dv t a i u x T ha hm C J) h2
  .cases h
 .cases h
def ai5(h:Si t a x P ρ m nx=some p):gm P (.store t a x) ρ (cv m) nx p:=by
 unfold Si at h;split at h
 .rename_i i off ha;split at h
  .rename_i cs e hm;have hm:cv m i=some (.cells cs e):=hm;let⟨h1,h2⟩:=Lq h;simp[aJ,tO,Bo] at h1;refine .of (by simp[bw,ha,hm];rfl) ?_ h2;exact⟨h1.1.1,h1.1.2,h1.2.1,h1.2.2⟩
  .rename_i u y T hm;let⟨h1,h2⟩:=Lq h;simp[aJ,Nat.beq_eq,Bool.not_eq_true'] at h1;obtain⟨rfl,C,J,M⟩:=h1;exact .nw (.Bu t a x i u y T ha hm C J M) h2
  .cases h
 .cases h
def agN(h:Qo x P ρ m nx=some p):gm P (.nilCheck x) ρ (cv m) nx p:=by
 unfold Qo at h;split at h
 .rename_i cs hx;cases h;refine .of (by simp only[bw,hx];rfl) ?_ rfl;exact trivial
 .rename_i i off hx;split at h
  .rename_i r hm;have hm:cv m i=some r:=hm;cases h;refine .of (by simp only[bw,hx,hm];rfl) ?_ rfl;exact trivial
  .cases h
 .cases h
def ald(h1:y≠ .const (.slice none 0 0))(h2:y≠ .const (.pointer none)):p6 P (cv m) op t d y=none:=by
 unfold p6;split
 .exact absurd rfl h1
 .exact absurd rfl h2
 .exact absurd rfl h2
 .rfl
def Ft{e:D}{q:Prop}(h1:y≠ .const (.slice none 0 0))(h2:y≠ .const (.pointer none))(h:s7 P op t (ρ x) (ρ y)=some (q,e))(hq:q)(hp:p=⟨e,[],[],0⟩):
 gm P (.binOp op t x y ty) ρ (cv m) nx p:=
 .of (pre:=q) (by simp[bw,ald h1 h2,h,Option.map_some]) hq hp
def nlt(a b:Int):(!decide (b<a))=decide (a<=b):=by
 rw[Bool.eq_iff_iff];simp
def anr{k k':IntKind}{a b:Int}(h:T7 op k k' a b=some p):∃ q v,rM op (.int k a) (.int k' b)=some (q,v)/\q/\p=⟨.s v,[],[],0⟩:=by
 have hs:∀ {c:Bool} {n:Int},sI c k n=some p->c=true/\p=⟨.s (.int k n),[],[],0⟩:=λh=>ig h;have hb:∀ {c v:Bool},sB c v=some p->c=true/\p=⟨.s (.bool v),[],[],0⟩:=λh=>ig h;have ne:∀ {c d:Bool},(c&& !d)=true->c=true/\d=false:=λh=>s0 h
 cases op<;>simp[T7,Zd,MU,abK,nlt] at h
 case shl=>
  obtain⟨h1,rfl⟩:=hs h;exact⟨_,_,rfl,s0 h1,rfl⟩
 case shr=>
  obtain⟨h1,rfl⟩:=hs h;exact⟨_,_,rfl,s0 h1,rfl⟩
 case quo=>
  obtain⟨h1,rfl⟩:=hs h;let⟨h2,C⟩:=ne h1;exact⟨_,_,rfl,⟨Fk _ _ h2,s0 C⟩,rfl⟩
 case rem=>
  obtain⟨h1,rfl⟩:=hs h;let⟨h2,C⟩:=ne h1;exact⟨_,_,rfl,⟨Fk _ _ h2,s0 C⟩,rfl⟩
 all_goals first
  |(obtain⟨h1,rfl⟩:=hs h;exact⟨_,_,rfl,Fk _ _ h1,rfl⟩)
  |(obtain⟨h1,rfl⟩:=hb h;exact⟨_,_,rfl,Fk _ _ h1,rfl⟩)
def ans{a b:ByteArray}(hx:ρ x=.s (.string a))(hy:ρ y=.s (.string b))(h1:y≠ .const (.slice none 0 0))(h2:y≠ .const (.pointer none))(h:T8 op a.data.toList b.data.toList=some p):
 gm P (.binOp op t x y ty) ρ (cv m) nx p:=by
 have hb:∀ {v:Bool},sB true v=some p->p=⟨.s (.bool v),[],[],0⟩:=λh=>(ig h).2
 have fin:∀ {v:Bool},rM op (.string a) (.string b)=some (True,.bool v)->p=⟨.s (.bool v),[],[],0⟩->gm P (.binOp op t x y ty) ρ (cv m) nx p:=λ{v} hv hp=>
  Ft h1 h2 (q:=True) (e:=.s (.bool v)) (by rw[hx,hy];simp[s7,hv,Option.map_some]) aa hp
 unfold T8 at h;split at h
 .exact fin (by simp only[rM,ByteArray.toList_eq, <- MV]) (hb h)
 .exact fin (by simp only[rM,ByteArray.toList_eq, <- MV]) (hb h)
 .exact fin (by simp[rM,ByteArray.toList_eq, <- Sp]) (hb h)
 .exact fin (by simp[rM,ByteArray.toList_eq, <- Sp]) (hb h)
 .let⟨C,J⟩:=ig h
  have e:(⟨⟨a.data.toList++b.data.toList⟩⟩:ByteArray)=a++b:=by
   apply ByteArray.ext;simp only[ByteArray.data_append];apply Array.ext';simp
  rw[e] at J;simp[Nat.ble_eq,E3] at C;exact .nw (.add t ty x y a b hx hy C) J
 .cases h
def ant(h:T' op t x y P ρ m nx=some p):gm P (.binOp op t x y ty) ρ (cv m) nx p:=by
 have U:∀ {b:Bool},T9 op=some b->op=if b then .eql else .neq:=λ{b} h=>by
  cases op<;>simp[T9,bg,reduceCtorEq] at h<;>subst h<;>rfl
 unfold T' at h;split at h
 ·
   split at h
   .rename_i b hb;have M:=U hb;unfold acC at h;split at h
    .rename_i hx;let⟨h1,h2⟩:=ig h;exact .nw (.DO b op t ty x M hx h1) (by rw[h2];cases b<;>rfl)
    .rename_i i off n hx;split at h
     .rename_i cs e hm;let⟨h1,h2⟩:=vj h;simp[aJ,Nat.blt_eq] at h1;exact .nw (.DP b op t ty x i off n cs e M hx hm h1.2 h1.1) (by rw[h2];cases b<;>rfl)
     .cases h
    .rename_i es n hx;cases b with
     |false=>cases h
     |true=>
      simp only[if_true] at M;subst M;let⟨h1,h2⟩:=ig h;refine .of (by simp only[bw,p6,hx];rfl) ?_ ?_
      .exact h1
      .exact(by rw[h2];cases n<;>rfl)
    .cases h
   .cases h
 .cases h
 .rename_i h1 h2;have h1:y≠ .const (.slice none 0 0):=λe=>h1 e;have h2:y≠ .const (.pointer none):=λe=>h2 e;unfold acB at h;split at h
  .rename_i k a k' b hx hy;let⟨q,v,C,J,X⟩:=anr h;exact Ft h1 h2 (by rw[hx,hy];simp[s7,C,Option.map_some]) J X
  .rename_i a b hx hy;exact ans hx hy h1 h2 h
  .rename_i a b hx hy;split at h
   .let⟨C,J⟩:=ig h;exact Ft h1 h2 (by rw[hx,hy];rfl) C J
   .let⟨C,J⟩:=ig h;exact Ft h1 h2 (by rw[hx,hy];rfl) C J
   .cases h
  .rename_i xs ys hx hy;unfold abw at h;split at h
   .rename_i ks q hk hz;let⟨C,J⟩:=ig h;simp[aJ,decide_eq_true_eq,Bool.not_eq_true'] at C;exact Ft h1 h2 (by rw[hx,hy];simp[s7,Dc,hk,hz]) C J
   .rename_i ks q hk hz;let⟨C,J⟩:=ig h;simp[aJ,decide_eq_true_eq,Bool.not_eq_true'] at C;exact Ft h1 h2 (by rw[hx,hy];simp[s7,Dc,hk,hz]) C J
   .cases h
  .cases h
def aoR{op:UnOp}(h:Vb op x P ρ m nx=some p):gm P (.unOp op t x) ρ (cv m) nx p:=by
 unfold Vb at h;split at h
 .rename_i v hx;split at h
  .rename_i r hr;cases h;refine .of (by simp only[bw,hx,hr,Option.map_some];rfl) ?_ rfl;trivial
  .cases h
 .cases h
def ale{src dst:TypeId}(h:Te src dst x P ρ m nx=some p):gm P (.convert src dst x) ρ (cv m) nx p:=by
 unfold Te at h;split at h
 .rename_i k hd;unfold abz at h;split at h
  .rename_i k' n hx;let⟨h1,h2⟩:=ig h;rw[Zd] at h2;refine .of (by simp[bw,hd,hx];rfl) ?_ h2;exact h1
  .cases h
 .rename_i hd;have C:ji P dst=true:=by simp[ji,hd]
  unfold abx at h;split at h
  .rename_i k n hx;split at h
   .rename_i k' hk;let⟨h1,h2⟩:=ig h;simp[aJ,Bool.not_eq_true',MU,decide_eq_false_iff_not,decide_eq_true_eq,Int.not_lt] at h1;exact .nw (.rune src dst x k k' n hx hk C h1.1 h1.2) h2
   .cases h
  .cases h
 .rename_i e hd;split at h
  .rename_i he;unfold aby at h;split at h
   .rename_i b hx;let⟨h1,h2⟩:=ig h;simp[aJ,Nat.ble_eq,E3] at h1 h2;refine .of (by simp[bw,hd,hx,he];rfl) ?_ h2;exact h1
   .cases h
  .cases h
 .cases h
def anu{r:Option Operand}(h:Ua r P ρ m nx=some p):gm P (.makeMap t r) ρ (cv m) nx p:=by
 unfold Ua at h;split at h
 .cases h;refine .of (by simp only[bw];rfl) ?_ rfl;trivial
 .cases h
def alf{l c:Operand}(h:Tf t l c P ρ m nx=some p):gm P (.makeSlice t l c) ρ (cv m) nx p:=by
 unfold Tf at h;split at h
 .rename_i n k hl hc;let⟨h1,h2⟩:=zN h;simp only[aJ,Nat.ble_eq,Nat.beq_eq] at h1;obtain⟨⟨rfl,C⟩,J,M⟩:=h1;refine .of (by simp only[bw,hl,hc];rfl) ?_ h2;refine⟨?_,by first|rfl|trivial,?_,?_,M⟩
  .exact Int.natCast_nonneg n
  .exact Int.ofNat_le.2 C
  .show(P.bytesOf (aT P t):Int)*(n:Int)<=_;rw[<- Int.natCast_mul];exact Int.ofNat_le.2 J
 .cases h
def alg{k:Operand}{ok:Bool}(h:Tg t x k ok P ρ m nx=some p):gm P (.lookup t x k ok) ρ (cv m) nx p:=by
 unfold Tg at h;split at h
 .rename_i key i hk hx;split at h
  .rename_i es hm;have hm:cv m i=some (.map es):=hm;let⟨h1,h2⟩:=vj h;simp[aJ,K9] at h1;refine .of (by simp[bw,ry,hk,hx,hm];rfl) ?_ h2;exact h1
  .cases h
 .rename_i key es hk hx;let⟨h1,h2⟩:=ig h;simp[aJ,K9] at h1;refine .of (by simp[bw,ry,hk,hx];rfl) ?_ h2;exact h1
 .rename_i key hk hx;let⟨h1,h2⟩:=ig h;simp[aJ] at h1;refine .of (by simp[bw,ry,hk,hx];rfl) ?_ h2;exact h1
 .cases h
def aau{k v:Operand}(h:NM t x k v P ρ m nx=some p):gm P (.mapUpdate t x k v) ρ (cv m) nx p/\gm P (.insert t x k v) ρ (cv m) nx p:=by
 unfold NM at h;split at h
 .rename_i key i hk hx;split at h
  .rename_i es hm;have hm:cv m i=some (.map es):=hm;let⟨h1,h2⟩:=Lq h;simp[aJ,K9] at h1;constructor
   .refine .of (by simp[bw,rz,hk,hx,hm];rfl) ?_ h2;exact h1
   .refine .of (by simp[bw,rz,hk,hx,hm];rfl) ?_ h2;exact h1
  .cases h
 .cases h
def LU{o:Option Operand}{d:Nat}(h:vQ ρ o d=some n):gg (o.map ρ) d=some (n:Int):=by
 unfold vQ at h;split at h
 .cases h;rfl
 .rename_i x;split at h
  .rename_i k n' hx;cases h;simp[gg,hx,D.int?]
  .cases h
def Fl{o:Option Operand}(h:vQ ρ o 0=some n):gg (o.map ρ) 0=some (n:Int):=LU h
def ai6{lo hi mx:Option Operand}(h:Sj t x lo hi mx P ρ m nx=some p):gm P (.slice t x lo hi mx) ρ (cv m) nx p:=by
 have RA:∀ {l h:Nat},l<=h->((h:Int) - (l:Int)).toNat=h - l:=λ{l h} _=>by omega
 unfold Sj at h;split at h
 .unfold aar at h;split at h
  .rename_i es n hx;split at h
   .rename_i l hh h1 h2;let⟨C,J⟩:=ig h;simp[aJ,Nat.ble_eq] at C;let⟨M,U,h7⟩:=C;simp[CO,wH] at J;refine .of (val:=.sl ((es.drop (l*P.cellsOf (aT P t))).take ((hh - l)*P.cellsOf (aT P t))) (hh - l)) (pre:=bH P t=true/\(0:Int)<=l/\(l:Int)<=hh/\(hh:Int)<=n) ?_ ?_ J
    .simp[bw,oZ,hx,Fl h1,LU h2,Option.map_none,RA U,eU]
    .exact⟨M,oG,oG,oG⟩
   .cases h
  .rename_i i off n hx;split at h
   .rename_i cs e l hh hm h1 h2;have hm:cv m i=some (.cells cs e):=hm;let⟨C,J⟩:=vj h;simp[aJ,Nat.ble_eq,Nat.beq_eq] at C;let⟨⟨M,h8⟩,U,h7⟩:=C;refine .of (val:=.rs i (off+l*P.cellsOf (aT P t)) (hh - l)) (pre:=(bH P t=true/\P.cellsOf e=P.cellsOf (aT P t))/\(0:Int)<=l/\(l:Int)<=hh/\(hh:Int)<=n) ?_ ?_ J
    .simp[bw,oZ,hx,hm,Fl h1,LU h2,Option.map_none,RA U,eU]
    .exact⟨⟨M,h8⟩,oG,oG,oG⟩
   .cases h
  .rename_i b hx;split at h
   .rename_i l hh h1 h2;let⟨C,J⟩:=ig h;simp[aJ,Nat.ble_eq,E3] at C;let⟨M,U,h7⟩:=C;rw[E3] at h2
    have e:(⟨⟨(b.data.toList.drop l).take (hh - l)⟩⟩:ByteArray)=b.extract l hh:=by
     let⟨⟨bl⟩⟩:=b;apply ByteArray.ext;apply Array.ext';exact(Lib.extract_data (⟨⟨bl⟩⟩:ByteArray) l hh).symm
    rw[e] at J;refine .of (val:=.s (.string (b.extract l hh))) (pre:=ji P t=true/\(0:Int)<=l/\(l:Int)<=hh/\(hh:Int)<=b.size) ?_ ?_ J
    .simp[bw,oZ,hx,Fl h1,LU h2,Option.map_none,eU]
    .exact⟨M,oG,oG,oG⟩
   .cases h
  .rename_i hx;split at h
   .rename_i h1 h2;let⟨C,J⟩:=ig h;exact .nw (.G9 t x lo hi hx (Fl h1) (Fl h2) C) J
   .cases h
  .cases h
 .rename_i c;cases hR:QV P t ρ m (ρ x) lo hi c with
  |some q=>
   rw[hR] at h;cases h;unfold QV at hR;split at hR
   .rename_i i off n hy kk k hx hc;split at hR
    .rename_i cs e X hh hm h2;have hm:cv m i=some (.cells cs e):=hm;cases hb:(Nat.beq hh n&&Nat.beq k n) with
     |true=>
      rw[hb] at hR;simp[cond_true] at hR;obtain⟨C,rfl⟩:=vj hR;simp[aJ,Nat.beq_eq,Bo] at hb C;obtain⟨rfl,rfl⟩:=hb;exact .nw (.Gv t x hy c i off _ cs e X kk hx hm h2 hc C.1 C.2.symm) rfl
     |false=>rw[hb] at hR;cases hR
    .cases hR
   .cases hR
  |none=>
  rw[hR] at h;simp only at h;unfold aaq at h;split at h
  .rename_i es n l hy kk k hx h1 hc;split at h
   .rename_i X hh h2;cases hb:(Nat.beq l 0&&(Nat.beq hh n&&Nat.beq k n)&&lo.isNone) with
    |true=>
     rw[hb] at h;simp[cond_true] at h;let⟨C,J⟩:=ig h;simp[aJ,Nat.beq_eq,Bo,Option.isNone_iff_eq_none] at hb C;obtain⟨⟨rfl,rfl,rfl⟩,rfl⟩:=hb;exact .nw (.cut t x hy c es _ X kk hx h2 hc C.1 C.2.symm) J
    |false=>
     rw[hb] at h;simp[cond_false] at h;let⟨C,J⟩:=ig h;simp[aJ,Nat.ble_eq] at C;let⟨M,U,h7,h8⟩:=C;simp[CO,wH] at J;have uL:gg (some (ρ hy)) n=some (hh:Int):=by simp[gg,h2,D.int?]
     refine .of (val:=.sl ((es.drop (l*P.cellsOf (aT P t))).take ((hh - l)*P.cellsOf (aT P t))) (hh - l)) (pre:=bH P t=true/\((some hy).map ρ).isSome=true/\(0:Int)<=l/\(l:Int)<=hh/\(hh:Int)<=k/\(k:Int)<=n) ?_ ?_ J
     .simp[bw,oZ,hx,Fl h1,uL,Option.map_some,hc,D.int?,RA U,eU,Int.ofNat_eq_natCast]
     .exact⟨M,rfl,oG,oG,oG,oG⟩
   .cases h
  .rename_i hy kk k hx hc;split at h
   .rename_i X hh h2;cases hb:(Nat.beq hh 0&&Nat.beq k 0&&lo.isNone) with
    |true=>
     rw[hb] at h;simp[cond_true] at h;let⟨C,J⟩:=ig h;simp[aJ,Nat.beq_eq,Option.isNone_iff_eq_none] at hb;obtain⟨⟨rfl,rfl⟩,rfl⟩:=hb;exact .nw (.Gu t x hy c X kk hx h2 hc C) J
    |false=>rw[hb] at h;cases h
   .cases h
  .cases h
def agF(h:P4 t x k P ρ m nx=some p):gm P (.fieldAddr t x k) ρ (cv m) nx p:=by
 unfold P4 at h;split at h
 .rename_i off C hf;split at h
  .rename_i cs hx;let⟨h1,h2⟩:=ig h;rw[wH] at h2;refine .of (by simp[bw,hf,hx];rfl) ?_ h2;simpa using h1
  .rename_i i o hx;split at h
   .rename_i r hm;have hm:cv m i=some r:=hm;let⟨h1,h2⟩:=vj h;refine .of (by simp[bw,hf,hx,hm];rfl) ?_ h2;simpa using h1
   .cases h
  .cases h
 .cases h
def agG{i:Operand}(h:P5 t x i P ρ m nx=some p):gm P (.indexAddr t x i) ρ (cv m) nx p:=by
 unfold P5 at h;split at h
 .rename_i es n C k hx hi;let⟨h1,h2⟩:=ig h;simp only[aJ,tO,Nat.blt_eq] at h1;rw[wH] at h2;refine .of (by simp only[bw,hx,hi];rfl) ?_ h2;exact⟨h1.1,oS,by simp only[Int.ofNat_eq_natCast];omega,h1.2.2⟩
 .rename_i j off n C k hx hi;split at h
  .rename_i r hm;have hm:cv m j=some r:=hm;let⟨h1,h2⟩:=vj h;simp only[aJ,Nat.blt_eq] at h1;refine .of (by simp only[bw,hx,hi,hm];rfl) ?_ h2;exact⟨h1.1,oS,by simp only[Int.ofNat_eq_natCast];omega⟩
  .cases h
 .rename_i j off C k hx hi;split at h
  .rename_i r hm;have hm:cv m j=some r:=hm;let⟨h1,h2⟩:=vj h;simp only[aJ,Nat.blt_eq] at h1;refine .of (by simp only[bw,hx,hi,hm];rfl) ?_ h2;exact⟨h1.1,oS,by simp only[Int.ofNat_eq_natCast];omega⟩
  .cases h
 .cases h
def ai7{i:Operand}(h:Sk t x i P ρ m nx=some p):gm P (.index t x i) ρ (cv m) nx p:=by
 unfold Sk at h;split at h
 .rename_i b C k hx hi;let⟨h1,h2⟩:=ig h;simp only[aJ,Nat.blt_eq,E3] at h1;refine .of (by simp only[bw,hx,hi];rfl) ?_ h2;exact⟨h1.1,oS,by simp only[Int.ofNat_eq_natCast];omega⟩
 .rename_i cs C k hx hi;let⟨h1,h2⟩:=ig h;simp only[aJ,Nat.blt_eq,tO] at h1;rw[H7,wH] at h2;refine .of (by simp only[bw,hx,hi];rfl) ?_ h2;exact⟨h1.1,oS,by simp only[Int.ofNat_eq_natCast];omega,h1.2.2⟩
 .cases h
def ahb(h:QW x k P ρ m nx=some p):gm P (.extract x k) ρ (cv m) nx p:=by
 unfold QW at h;split at h
 .rename_i cs hx;split at h
  .rename_i d hd;cases h;let⟨h1,h2⟩:=aat _ _ _ hd;refine .of (by simp only[bw,hx];rfl) ?_ (by rw[h2]);exact h1
  .cases h
 .cases h
def ai8{sz:Nat}{news:List D}(h:Sl m sz d=some (rd,k,news)):∃ q:Prop,mS (cv m) sz d=some (q,rd,k,news)/\q:=by
 unfold Sl at h;split at h
 .rename_i es n;let⟨h1,h2⟩:=H8 h;cases h2;rw[tO] at h1;exact⟨_,by simp[mS,CO],h1⟩
 .cases h;exact⟨True,rfl,aa⟩
 .rename_i i off n;split at h
  .rename_i cs e hm;have hm:cv m i=some (.cells cs e):=hm;let⟨h1,h2⟩:=H8 h;cases h2;rw[tO] at h1;exact⟨_,by simp[mS,hm,CO,wH],h1⟩
  .cases h
 .cases h
def anv{b:Builtin}(hc:c.callee=.builtin b)(hx:c.args.toList=xs)(ht:c.argTypes.toList=ts):c={ callee:=.builtin b,args:=xs.toArray,argTypes:=ts.toArray }:=by
 let⟨C,args,J⟩:=c;simp only at hc hx ht;subst hc hx ht;simp
def Ba{b:Builtin}(hl:ts.length=xs.length):bw P (.call { callee:=.builtin b,args:=xs.toArray,argTypes:=ts.toArray }) ρ (cv m) nx=gz P (cv m) nx b ts.toArray (xs.map ρ):=by
 simp[bw,hl]
def PL{b:Builtin}(hc:c.callee=.builtin b)(h:H6 b c.args c.argTypes P ρ m nx=some p):gm P (.call c) ρ (cv m) nx p:=by
 unfold H6 at h;generalize hx:c.args.toList=xs at h;generalize ht:c.argTypes.toList=ts at h;rw[anv hc hx ht];have b1:∀ {t:TypeId},([t]:List TypeId).toArray.getD 0 0=t:=rfl;have b2:∀ {t u:TypeId},([t,u]:List TypeId).toArray.getD 0 0=t/\([t,u]:List TypeId).toArray.getD 1 0=u:=⟨rfl,rfl⟩
 unfold buK at h;split at h
 ·
   unfold adH at h;split at h
   .rename_i x t;split at h
    .rename_i es n hd;let⟨h1,h2⟩:=ig h;refine .of (by rw[Ba rfl];simp[gz,map_cons,map_nil,o9,hd,b1];rfl) ?_ h2;exact h1
    .rename_i i off n hd;split at h
     .rename_i r hm;have hm:cv m i=some r:=hm;let⟨h1,h2⟩:=vj h;refine .of (by rw[Ba rfl];simp[gz,map_cons,map_nil,o9,hd,hm,b1];rfl) ?_ h2;exact h1
     .cases h
    .rename_i hd;let⟨h1,h2⟩:=ig h;refine .of (by rw[Ba rfl];simp[gz,map_cons,map_nil,o9,hd,b1];rfl) ?_ h2;exact h1
    .rename_i bs hd;let⟨h1,h2⟩:=ig h;rw[E3] at h2;refine .of (by rw[Ba rfl];simp[gz,map_cons,map_nil,o9,hd,b1];rfl) ?_ h2;exact h1
    .rename_i cs hd;let⟨h1,h2⟩:=ig h;refine .of (by rw[Ba rfl];simp[gz,map_cons,map_nil,o9,hd,b1];rfl) ?_ h2;exact h1
    .rename_i i hd;split at h
     .rename_i es hm;let⟨h1,h2⟩:=vj h;exact .nw (.BV _ x t i es rfl hd hm h1) h2
     .cases h
    .cases h
   .cases h
 ·
   unfold aas at h;split at h
   .rename_i s x t u;split at h
    .rename_i bs hd;unfold acD at h;split at h
     .rename_i hs;let⟨h1,h2⟩:=zN h;simp[aJ,Nat.ble_eq] at h1;exact .nw (.Bn _ s x t u bs rfl hs hd (Ze h1.1.1) h1.1.2 h1.2.1 h1.2.2) h2
     .rename_i i off n hs;split at h
      .rename_i cs e hm;obtain⟨h1,rfl⟩:=H8 h;simp[aJ,Nat.ble_eq,Nat.beq_eq,Bo] at h1;obtain⟨⟨rfl,J,M⟩,U,C,X⟩:=h1;exact .nw (.Bt _ s x t u bs i off n cs rfl hs hd hm (Ze J) M U.symm C X) (by rw[wH])
      .cases h
     .cases h
    .rename_i fN;cases Vd:Nat.beq t u with
     |false=>rw[Vd] at h;cases h
     |true=>
     rw[Vd] at h;simp[cond_true] at h;obtain rfl:=Nat.eq_of_beq_eq_true Vd;split at h
     .rename_i rd k news dB;let⟨q,cK,Kc⟩:=ai8 dB
      have hb:∀ {e:Option eC},vt P (cv m) nx t (ρ s) (ρ x)=e->bw P (.call { callee:=.builtin .append,args:=[s,x].toArray,argTypes:=[t,t].toArray }) ρ (cv m) nx=e:=λ{e} he=>by
       rw[Ba rfl];simp[gz,map_cons,map_nil,b2,if_true];exact he
      unfold adI at h;split at h
      .rename_i hs;let⟨h1,h2⟩:=zN h;simp[aJ,Nat.ble_eq,Nat.blt_eq] at h1;refine .of (hb (by simp[vt,cK,hs];rfl)) ?_ h2;exact⟨h1.1,Kc,h1.2.1,h1.2.2.1,h1.2.2.2⟩
      .rename_i es n hs;let⟨h1,h2⟩:=zN h;simp[aJ,Nat.ble_eq,Nat.blt_eq,Bo] at h1;let⟨⟨J,M⟩,⟨U,C⟩,X,h8⟩:=h1;exact .nw (.Du _ s x t es news n k q rd rfl hs cK Kc J M.symm U C X h8) h2
      .rename_i i off n hs;split at h
       .rename_i cs e hm;have hm:cv m i=some (.cells cs e):=hm;obtain⟨h1,rfl⟩:=H8 h;simp only[aJ,Nat.ble_eq,Nat.blt_eq,Nat.beq_eq,Bo,QY] at h1;obtain⟨⟨⟨J,rfl⟩,M,U⟩,⟨C,X⟩,h8⟩:=h1;refine .of (hb (by simp only[vt,cK,hs,hm];rfl)) ?_ (by rw[wH]);exact⟨J,by first|rfl|trivial,Kc,M,U.symm,C,X,h8⟩
       .cases h
      .cases h
     .cases h
   .cases h
 ·
   unfold adJ at h;split at h
   .rename_i x y t u;split at h
    .rename_i k a k' b AH hy';let⟨h1,h2⟩:=ig h;have:=Fk _ _ h1;subst this
     have e:(bif tz b a then b else a)=if b<a then b else a:=by
      rw[MU];by_cases ao:b<a<;>simp[ao]
     rw[e] at h2;refine .of (by rw[Ba rfl];simp only[gz,map_cons,map_nil,AH,hy'];rfl) ?_ h2
     first|rfl|trivial
    .cases h
   .cases h
 ·
   unfold abA at h;split at h
   .rename_i x t;split at h
    .rename_i i off n hd;split at h
     .rename_i cs e hm;have hm:cv m i=some (.cells cs e):=hm;let⟨h1,h2⟩:=Lq h;simp[aJ,Nat.beq_eq,tO] at h1;refine .of (by rw[Ba rfl];simp[gz,map_cons,map_nil,hd,hm,b1];rfl) ?_ h2;exact⟨h1.1,h1.2.2,h1.2.1⟩
     .cases h
    .cases h
   .cases h
 ·
   unfold abB at h;split at h
   .rename_i s t;split at h
    .rename_i i off n hs;split at h
     .rename_i r hm;let⟨h1,h2⟩:=vj h;exact .nw (.BF _ s t i off n r rfl hs hm (s0 h1)) h2
     .cases h
    .cases h
   .cases h
 ·
   unfold acE at h;split at h
   .rename_i x y t u;split at h
    .rename_i i off k0 k hp hn;split at h
     .rename_i cs e hm;split at h
      .rename_i l e' hl he;obtain⟨h1,rfl⟩:=H8 h;simp[aJ,Nat.beq_eq,Nat.blt_eq,Nat.ble_eq,bK,Bool.not_eq_true',MU,decide_eq_false_iff_not,decide_eq_true_eq,Int.not_lt] at h1;obtain⟨⟨rfl,rfl⟩,⟨h2,J⟩,M,U⟩:=h1;have C:=Xz hl;rw[CO,wH] at C;exact .nw (.BW _ x y t u e' l i off cs k0 rfl hp hn hm C (by intro e;rw[e] at h2;simp at h2) he J M U) rfl
      .cases h
     .cases h
    .cases h
   .cases h
 .cases h
def abL(h:OI o P ρ m nx=some p):gm P o ρ (cv m) nx p:=by
 unfold OI at h;split at h
 .cases h;refine .of (by simp only[bw];rfl) ?_ rfl;trivial
 .cases h;refine .of (by simp only[bw];rfl) ?_ rfl;trivial
 .exact alb h
 .exact ai3 h
 .exact anq h
 .exact ai4 h
 .exact agu h
 .exact alc h
 .exact ai5 h
 .exact agN h
 .exact ant h
 .exact aoR h
 .exact ale h
 .cases h;refine .of (by simp only[bw];rfl) ?_ rfl;trivial
 .exact anu h
 .exact alf h
 .exact alg h
 .exact(aau h).1
 .exact(aau h).2
 .exact ai6 h
 .exact agF h
 .exact agG h
 .exact ai7 h
 .exact ahb h
 .rename_i c;unfold acF at h;cases hc:c.callee with
  |builtin b=>rw[hc] at h;exact PL hc h
  |_=>rw[hc] at h;cases h
 .cases h
end
end
section
def lL(t:T D):Env:=λi=>getD t i
def cG(c:dC):St:=⟨lL c.env,cv c.mem,c.nx⟩
def uM(env:Env):Env:=λi=>Cr (env i)
def anw(d:D):(Cr d).ask/\(Cr d).core=Cr d:=by cases d<;>exact⟨aa,rfl⟩
def anx(v:Value):(Ck v).ask/\(Ck v).core=Ck v:=by
 unfold Ck;split<;>exact⟨aa,rfl⟩
def Sq(env:Env)(x:Operand):(opd (uM env) x).ask/\(opd (uM env) x).core=opd (uM env) x:=by
 cases x with
 |tmp t=>exact anw _
 |const v=>exact anx v
 |global g=>exact⟨aa,rfl⟩
 |func f=>exact⟨aa,rfl⟩
def Il(env:Env)(o:Op):asks (uM env) o:=by
 unfold asks;cases o<;>first|exact(Sq env _).1|exact λx _=>(Sq env x).1
def aoS(env:Env)(o:Op):bO (uM env) o=opd (uM env):=by
 unfold bO;cases o<;>first|rfl|(funext x;exact(Sq env x).2)
def H9(t:T D):kq t=opd (uM (lL t)):=by
 funext x;cases x<;>rfl
def LV(t:T D)(o:Op):bO (uM (lL t)) o=kq t:=(aoS _ o).trans (H9 t).symm
variable{d:D}{dst:Option Nat}{ρ:Operand->D}{call:wV}
section
variable{P:Program}{F:Nat->Prop}{ops:Array Oper}{o:Oper}{β:aZ}{w:World}{a:Act}{c c':dC}{p:cy}
def R.un{v:Value}(h:R F β w d v):R F β w (Cr d) v:=by
 cases d with
 |dw=>exact .u v
 |_=>exact h
def jd.un{env:Env}(h:jd F β w env a):jd F β w (uM env) a:=λt=>(h t).un
def LW{m:T Row}{nx:Nat}(h:Gy c dst d m nx=some c'):cG c'=St.put ⟨lL c.env,cv m,nx⟩ dst d:=by
 unfold Gy at h;cases dst with
 |none=>
  simp[Uc,bg] at h;subst h;rfl
 |some i=>
  simp[Uc] at h;split at h
  .rename_i t ht;cases h
   have e:lL t=up (lL c.env) i d:=by
    funext j;simp[lL,getD,T.Rz ht,CM];by_cases hj:j=i<;>simp[hj]
   simp[cG,St.put,e]
  .cases h
def Fm{m m':T Row}{i:Nat}{r:Option Row}(h:m.put i r=some m'):cv m'=up (cv m) i r:=by
 funext j;simp[cv,T.Rz h,CM]
def Zf:∀ {us:List (Nat×Option Row)} {m m':T Row},Jt m us=some m'->cv m'=dx (cv m) us
 |[],m,m',h=>by simp[Jt,bg] at h;subst h;rfl
 |(i,r)::us,m,m',h=>by
  simp[Jt] at h;cases hp:m.put i r with
  |none=>rw[hp] at h;cases h
  |some C=>
   rw[hp] at h;simp only at h;rw[Zf h,Fm hp];rfl
def aav(h:NN c dst p=some c'):cG c'=St.put ⟨lL c.env,dx (cv c.mem) p.bF,c.nx+p.new⟩ dst p.val:=by
 unfold NN at h;split at h
 .rename_i m hm;rw[LW h,Zf hm]
 .cases h
def acL{st:St}(U:iI ops o st true)(h:cy.Ok P #[] { o with guard:=none } ⟨uM st.env,st.mem,st.nx⟩ p):cy.Ok P ops o st p:=by
 intro F β w a m env N he C hm hr hn M r n QX K J
 have h1:=h F β w a m (uM env) N (λt ht=>by
  have:t∈o.looksAt ops:=mem_append_left _ (by simpa[Oper.looksAt] using ht);show Cr (env t)=Cr (st.env t)
  rw[he t this]) C.un hm hr hn M r n QX K J
 unfold o5 at h1 ⊢;rw[U F β w a env he C,bi rfl];rw[bi (by simp[Region.wanted])] at h1;exact h1
def aaw(C:iI ops o (cG c) true)(h:gm P o.op (kq c.env) (cv c.mem) c.nx p):p.Ok P ops o (cG c):=by
 apply acL C;cases h with
 |a e h hp=>exact Sd (CJ rfl) (Il _ _) (by rw[<- LV] at h;exact h) hp
 |n e h=>exact aai (CJ rfl) (Il _ _) (by rw[<- LV] at h;exact h)
def ai9{st:St}{op:Op}(h:gm P op ρ st.mem st.nx p):p.qM (dv op) st:=by
 cases h with
 |a e h hp=>
  let⟨t1,t2,t3,t4⟩:=RK h;exact⟨t1,t2,t3,t4⟩
 |n e h=>
  let⟨t1,t2,t3,t4⟩:=h.tidy;exact⟨t1,t2,t3,t4⟩
def KP{j:Nat}{b g:Bool}(hg:o.guard=some (j,b))(h:MS ops j b c=some g):iI ops o (cG c) g:=by
 unfold MS at h;split at h
 .rename_i J C;split at h
  .rename_i t ht;exact PZ hg (t:=t) (by simp[C,ht]) h
  .cases h
 .cases h
def Im(P:Program)(call:wV):Prop:=∀ f args m nx p,call f args m nx=some p->∀ (o:Oper) (st:St),o.guard=none->st.mem=cv m->st.nx=nx->asks st.env o.op->eX (bO st.env o.op) o.op=some (f,args)->
 p.Ok P #[] o st/\∀ i∈p.wr,st.mem i≠none\/(nx<=i/\i<nx+p.new)
def Zg{call:Call}{f:Operand}{g:FuncId}{fs cs:List D}(hc:call.callee=.value f)(hv:ρ f=.fn (.func g) fs cs):eX ρ (.call call)=some (g,fs++call.args.toList.map ρ++cs):=by
 simp[eX,hc,hv]
def abM(X:Im P call)(J:iI ops o (cG c) true)(h:OK o.op P call c=some p):p.Ok P ops o (cG c)/\p.qM (dv o.op) (cG c):=by
 have fin:∀ {q:cy},gm P o.op (kq c.env) (cv c.mem) c.nx q->q.Ok P ops o (cG c)/\q.qM (dv o.op) (cG c):=λhq=>⟨aaw J hq,ai9 (st:=cG c) hq⟩
 have other:∀ k:jk,(∀ (c:dC) p,k P (kq c.env) c.mem c.nx=some p->gm P o.op (kq c.env) (cv c.mem) c.nx p)->gK k P call c=some p->p.Ok P ops o (cG c)/\p.qM (dv o.op) (cG c):=λk hk hg=>fin (hk c p hg);cases C:o.op
 case call cl=>
  rw[C] at h;simp only[OK] at h;unfold acH at h;cases hc:cl.callee with
  |value f=>
   rw[hc] at h;simp only[abE] at h;split at h
   .rename_i g fs cs hv;have U:=Zg hc hv
    have hk:dv (.call cl)=2:=by
     let⟨M,aS,ts⟩:=cl;cases hc;rfl
    let⟨h1,h2⟩:=X _ _ _ _ _ h { o with guard:=none } ⟨uM (lL c.env),cv c.mem,c.nx⟩ rfl rfl rfl (Il _ _) (by rw[LV,C];exact U);rw[hk];exact⟨acL J h1,⟨h2,(λh=>by simp at h),(λh=>by simp at h),(λh=>by simp at h)⟩⟩
   .cases h
  |builtin b=>
   rw[hc] at h;rw[<- C];exact fin (by rw[C];exact PL hc h)
  |invoke=>rw[hc] at h;cases h
 all_goals (rw[C] at h;exact C▸fin (by rw[C];exact abL h))
def alh(C:Im P call)(h:Th P call ops o c=some p):p.Ok P ops o (cG c)/\p.qM (dv o.op) (cG c):=by
 unfold Th at h;split at h
 .rename_i hg;exact abM C (CJ hg) h
 .rename_i j b hg;split at h
  .cases h
  .rename_i hv;cases h;exact⟨LS (KP hg hv) _ λF β w=>.dw false .u undef oS λ_=>rfl,⟨by simp[cy.wr],λ_=>⟨rfl,rfl⟩,λ_=>rfl,λ_=>⟨rfl,by simp[cy.wr]⟩⟩⟩
  .rename_i hv;exact abM C (KP hg hv) h
end
end
section
variable{f:FuncId}{args:List D}{call:uc}{e:Exit}{β₀:aZ}{w₀:World}{a₀:Act}
section
variable{P:Program}{F:Nat->Prop}{ops:Array Oper}{o:Oper}{β β':aZ}{w w':World}{a:Act}{c c':dC}{hd:Hd}
def HOk(P:Program)(F:Nat->Prop)(C:aZ)(U:World)(i:Nat)(h:Hf):Prop:=
 ∃ l,(C i=some (.lp l)\/C i=some .dead)/\∀ args m nx b m' nx',m.get i=some (.lp .ready)->h args m nx=some (b,m',nx')->
  ua P F C U l args (cv m) nx λd M J=>d=.s (.bool b)/\M=cv m'/\J=nx'
def qN(P:Program)(F:Nat->Prop)(hd:Hd)(β:aZ)(w:World):Prop:=∀ i h,Js hd i=some h->HOk P F β w i h
def qN.step(h:qN P F hd β w)(hs:Step β w β' w'):qN P F hd β' w':=λi f hf=>by
 let⟨l,h1,h2⟩:=h i f hf;refine⟨l,?_,λargs m nx b m' nx' hm hr=>(h2 args m nx b m' nx' hm hr).base hs⟩;rcases h1 with h1|h1
 .exact hs.kp i _ h1
 .rcases hs.kp i _ h1 with h2|h2<;>exact .inr h2
def QZ:qN P F [] β w:=λi h hf=>by simp[Js] at hf
def Ends(P:Program)(F:Nat->Prop)(β:aZ)(w:World)(nx:Nat)(x:D ⊕ List PanicEntry)(m':Mem)(nx':Nat)(e:Ending)(w':World):Prop:=
 ∃ β',(match x with
  | .inl d=>∃ v,e=.returned v/\R F β' w' d v
  | .inr ch=>e=.panicked ch)/\bc P F m' β' w'/\(∀ i,nx'<=i->β' i=none)/\Step β w β' w'/\nx<=nx'/\∀ i,i<nx->β i=none->β' i=none
def ZC(P:Program)(hd:Hd)(f:FuncId)(args:List D)(m:Mem)(nx:Nat)(x:D ⊕ List PanicEntry)(m':Mem)(nx':Nat):Prop:=
 pD P f=true/\∀ F β w vs,qN P F hd β w->bc P F m β w->(∀ i,nx<=i->β i=none)->Rs F β w args vs->Calls P f vs w (Ends P F β w nx x m' nx')
def Fu(P:Program)(hd:Hd)(call:uc):Prop:=∀ f args m nx x m' nx',call f args m nx=some (x,m',nx')->ZC P hd f args (cv m) nx x (cv m') nx'
def X'{env:Env}(M:Region.wanted o (yielded ops a.tmps)=true)(C:jd F β w env a)(ha:asks env o.op)
 (h:eX (bO env o.op) o.op=some (f,args)) (he:pD P f=true) {r:Option Nat} {n:Nat} {QX:Exit->Act->World->Prop} {K:Act->World->Prop}
 (J:∀ vs,Rs F β w args vs->Calls P f vs w λe w'=>(∃ v,e=.returned v/\K (a.put o.dst v) w')\/∃ ch,e=.panicked ch/\QX (.panic ch) a w'):o5 r n P ops QX o K a w:=by
 let⟨vs,h1,h2⟩:=Xm (F:=F) (β:=β) (w:=w) C ha h he;rw[o5,M,bi rfl];refine⟨λ_ _=>trivial,?_⟩;rw[FL (W9 h),h1];refine⟨oS,Ll ((J vs h2).mono ?_)⟩;rintro e w' (⟨v,rfl,hk⟩|⟨ch,rfl,hk⟩)
 .exact hk
 .exact hk
def Ge(P:Program)(F:Nat->Prop)(ops:Array Oper)(o:Oper)(c c':dC)(oc:Option (List PanicEntry))(β:aZ)(w:World)(a:Act)(r:Option Nat)(n:Nat):Prop:=
 ∀ (QX:Exit->Act->World->Prop) (K:Act->World->Prop),(oc=none->∀ β' a' w',dt P F (cG c') β' w' a'->fW c.nx β w a (cG c') β' w' a'->K a' w')->
  (∀ ch,oc=some ch->∀ β' w',dt P F (cG c') β' w' a->fW c.nx β w a (cG c') β' w' a->QX (.panic ch) a w')->o5 r n P ops QX o K a w
variable{oc:Option (List PanicEntry)}{r:Option Nat}{n:Nat}
def Lr{x:Option dC}(h:Ka x=some (oc,c')):oc=none/\x=some c':=by
 cases x with
 |none=>cases h
 |some C=>cases h;exact⟨rfl,rfl⟩
def ali{p:Option cy}(hp:∀ q,p=some q->q.Ok P ops o (cG c))(h:adK c o.dst p=some (oc,c'))(hs:dt P F (cG c) β w a)(hd:∀ t,o.dst=some t->t<a.tmps.size):Ge P F ops o c c' oc β w a r n:=by
 cases p with
 |none=>cases h
 |some q=>
  obtain⟨rfl,h1⟩:=Lr h;refine λQX K U X=>K5 (hp q rfl) hs hd r n QX λβ' a' w' C J=>?_;have e:=aav h1;have M:St.put ⟨(cG c).env,dx (cG c).mem q.bF,(cG c).nx+q.new⟩ o.dst q.val=cG c':=e.symm;rw[M] at C J;exact U rfl β' a' w' C J
def Ya{st:St}{m':Mem}{nx':Nat}{dst:Option Nat}{d:D}{v:Value}(h1:Step β w β' w')(h2:st.nx<=nx')(C:∀ i,i<st.nx->β i=none->β' i=none):fW st.nx β w a (St.put ⟨st.env,m',nx'⟩ dst d) β' w' (a.put dst v):=
 ⟨h1,by rw[E0];exact h2,C,H4 _ _ _,put_defers _ _ _⟩
def alj{x:Option xR}(hw:iI ops o (cG c) true)(hc:eX (kq c.env) o.op=some (f,args))(hz:∀ y m' nx',x=some (y,m',nx')->ZC P hd f args (cv c.mem) c.nx y (cv m') nx')
 (h:Ud c o.dst x=some (oc,c')) (hh:qN P F hd β w) (hs:dt P F (cG c) β w a) (ou:∀ t,o.dst=some t->t<a.tmps.size):Ge P F ops o c c' oc β w a r n:=by
 have J:Region.wanted o (yielded ops a.tmps)=true:=hw F β w a (cG c).env (λ_ _=>rfl) hs.e;have hC:eX (bO (uM (lL c.env)) o.op) o.op=some (f,args):=by rw[LV];exact hc
 cases x with
 |none=>cases h
 |some y=>
  let⟨y,m',nx'⟩:=y;have hz:=hz y m' nx' rfl;cases y with
  |inl d=>
   obtain⟨rfl,h1⟩:=Lr h;have e:=LW h1;intro QX K hK _;refine X' J hs.e.un (Il _ _) hC hz.1 λvs hR=>?_;refine(hz.2 F β w vs hh hs.m hs.n hR).mono λe1 w' hp=>?_;obtain⟨β',⟨v,rfl,M⟩,U,X,C,g6,g7⟩:=hp;refine .inl ⟨v,rfl,hK rfl β' _ w' ?_ ?_⟩
   .rw[e];exact dt.put (st':=⟨lL c.env,cv m',nx'⟩) (hs.e.step C) ou M U X
   .rw[e];exact Ya (st:=cG c) C g6 g7
  |inr ch=>
   simp[Ud,bg,dp] at h;obtain⟨rfl,rfl⟩:=h;intro QX K _ hX;refine X' J hs.e.un (Il _ _) hC hz.1 λvs hR=>?_;refine(hz.2 F β w vs hh hs.m hs.n hR).mono λe1 w' hp=>?_;let⟨β',M,U,X,C,g6,g7⟩:=hp;exact .inr ⟨ch,M,hX ch rfl β' w' ⟨hs.e.step C,U,X⟩ ⟨C,g6,g7,rfl,rfl⟩⟩
def ai'{f:Operand}{cl:Call}{i:Nat}(ho:o.op=.call cl)(hf:cl.callee=.value f)(hw:iI ops o (cG c) true)(hv:kq c.env f=.yl i)
 (h:Sm i (cl.args.toList.map (kq c.env)) P hd call o.dst c=some (oc,c')) (hh:qN P F hd β w) (hs:dt P F (cG c) β w a) (ou:∀ t,o.dst=some t->t<a.tmps.size):Ge P F ops o c c' oc β w a r n:=by
 unfold Sm at h;split at h
 .rename_i OL hg aF;cases hx:OL (cl.args.toList.map (kq c.env)) c.mem c.nx with
  |none=>rw[hx] at h;cases h
  |some x=>
   let⟨b,m',nx'⟩:=x;rw[hx] at h;obtain⟨rfl,h1⟩:=Lr h;have e:=LW h1;let⟨l,J,g2⟩:=hh i OL hg;have hy:=g2 _ _ _ _ _ _ aF hx;let⟨p,hp,hpr⟩:=hs.m.row i _ aF;have U:=hs.e.un;have hR:∀ x,R F β w (kq c.env x) (a.eval x):=λx=>by rw[H9];exact U.opd x
   have Ec:a.eval f=.func (.yield l) #[] #[]:=by
    have h2:=hR f;rw[hv] at h2;generalize a.eval f=u at h2;cases h2 with
    |yl _ l' C=>
     rcases J with J|J
     .rw[J] at C;cases C;rfl
     .rw[J] at C;cases C
    |G5 _ _ C _=>rw[C] at hp;cases hp;cases hpr
   let⟨q1,q2⟩:=FG (F:=F) (β:=β) (w:=w) (xs:=cl.args) (ρ:=kq c.env) (a:=a) (λx _=>hR x);let⟨M,tmps,assign,body,k1,k2⟩:=hy β w (cl.args.map a.eval) (Step.refl β w) hs.m hs.n ⟨s0 q1,λj d u hd hu=>q2 j d u hd (s0 hu)⟩;intro QX K hK _;rw[o5,hw F β w a (cG c).env (λ_ _=>rfl) hs.e,bi rfl];refine⟨λ_ _=>trivial,?_⟩
   have X:(execOp a.eval o).run P w=(Instr.yield l (cl.args.map a.eval)).run P w:=by
    rw[execOp,ho];simp only[resolve,hf,Sem.run_bind,Ec,Deferred.ofValue,Sem.run_pure,Result.andThen_ok,invoke];simp
   rw[FL (λc hc=>by rw[ho] at hc;cases hc),X,k1];refine⟨oS,?_⟩;refine RoundIn.mono (F:=Fe r) (show RoundIn (Fe r) (n - 1) P l M tmps assign body w _ from k2 (n - 1)) λe1 w' hp=>?_;obtain⟨v,d,m2,iK,β',rfl,⟨rfl,rfl,rfl⟩,j3,j4,j5,j6,j7,j8⟩:=hp;refine hK rfl β' _ w' ?_ ?_
   .rw[e];exact dt.put (st':=⟨lL c.env,cv m',iK⟩) (hs.e.step j6) ou j5 j3 j4
   .rw[e];exact Ya (st:=cG c) j6 j7 j8
 .cases h
def aax(lX:Fu P hd call)(J:iI ops o (cG c) true)(h:Kb o.op P hd call o.dst c=some (oc,c'))(hh:qN P F hd β w)(hs:dt P F (cG c) β w a)(U:∀ t,o.dst=some t->t<a.tmps.size):
 Ge P F ops o c c' oc β w a r n:=by
 have X:∀ {k:jk},(∀ p,k P (kq c.env) c.mem c.nx=some p->gm P o.op (kq c.env) (cv c.mem) c.nx p)->fK k P hd call o.dst c=some (oc,c')->Ge P F ops o c c' oc β w a r n:=λhk hg=>ali (λq hq=>aaw J (hk q hq)) hg hs U;cases C:o.op
 case call cl=>
  rw[C] at h;simp only[Kb] at h;unfold acG at h;cases hc:cl.callee with
  |value f=>
   rw[hc] at h;simp only[abC] at h;split at h
   .rename_i g fs cs hv;exact alj J (by rw[C];exact Zg hc hv) (λy m' nx' hy=>lX _ _ _ _ _ _ _ hy) h hh hs U
   .rename_i i hv;exact ai' C hc J hv h hh hs U
   .cases h
  |builtin b=>
   rw[hc] at h;exact X (λp hp=>by rw[C];exact PL hc hp) h
  |invoke=>rw[hc] at h;cases h
 case panic x=>
  rw[C] at h;simp only[Kb,abD] at h;split at h
  .rename_i t v hv;cases h;intro QX K _ hX;have hR:R F β w (kq c.env x) (a.eval x):=by rw[H9];exact hs.e.un.opd x
   rw[hv] at hR;rw[o5,J F β w a (cG c).env (λ_ _=>rfl) hs.e,bi rfl];refine⟨λ_ _=>trivial,?_⟩
   have M:(execOp a.eval o).run P w=.halt (.panic (.iface t v)) w:=by
    rw[execOp,C];simp only[hR.du.1,Sem.run_bind];rfl
   rw[FL (λc hc=>by rw[C] at hc;cases hc),M];exact hX _ rfl β w hs (fW.refl (cG c) β w a)
  .cases h
 all_goals (rw[C] at h;exact X (λp hp=>by rw[C];exact abL hp) h)
def LX(U:Fu P hd call)(h:Vc P hd call ops o c=some (oc,c'))(hh:qN P F hd β w)(hs:dt P F (cG c) β w a)(C:∀ t,o.dst=some t->t<a.tmps.size):
 Ge P F ops o c c' oc β w a r n:=by
 unfold Vc at h;split at h
 .rename_i hg;exact aax U (CJ hg) h hh hs C
 .rename_i j b hg;split at h
  .cases h
  .rename_i hv;obtain⟨rfl,h1⟩:=Lr h;have e:=LW h1;have X:St.put ⟨(cG c).env,dx (cG c).mem [],(cG c).nx+0⟩ o.dst Ai=cG c':=e.symm;refine λQX K hK hX=>K5 (LS (KP hg hv) Ai λF β w=>.dw false .u undef oS λ_=>rfl) hs C r n QX λβ' a' w' J M=>?_;rw[X] at J M;exact hK rfl β' a' w' J M
  .rename_i hv;exact aax U (KP hg hv) h hh hs C
def QE(e:Exit)(c':dC):Exit->St->Prop:=λe2 C=>e2=e/\C=cG c'
def aja{N tl:Nat}{QX:Exit->Act->World->Prop}(lX:Fu P hd call)(hh:qN P F hd β₀ w₀)(ao:tZ a₀.tmps.size ops=true)
 (hX:∀ ch,e=.panic ch->∀ β w a,dt P F (cG c') β w a->fW N β₀ w₀ a₀ (cG c') β w a->QX (.panic ch) a w):
 ∀ (rest:List Oper) (k:Nat) (c:dC) (β:aZ) (w:World) (a:Act),(∀ j o,rest[j]? =some o->ops[k+j]? =some o)->BZ P hd call ops rest c=some (e,c')->dt P F (cG c) β w a->fW N β₀ w₀ a₀ (cG c) β w a->
  (e=.normal->∀ β w a,dt P F (cG c') β w a->fW N β₀ w₀ a₀ (cG c') β w a->wpOpsIn (Fe r) n P ops QX (range' (k+rest.length) tl) a w)->
  wpOpsIn (Fe r) n P ops QX (range' k (rest.length+tl)) a w:=by
 intro rest
 induction rest with
 |nil=>
  intro k c β w a hk h hs C X;simp[BZ,bg,dp] at h;obtain⟨rfl,rfl⟩:=h;simpa using X rfl β w a hs C
 |cons o rest ih=>
  intro k c β w a hk h hs C X;have ho:ops[k]? =some o:=hk 0 o rfl;have e1:(o::rest).length+tl=(rest.length+tl)+1:=by simp;omega
  rw[e1,range'_succ,wpOpsIn_cons];apply KN ho;have ou:∀ t,o.dst=some t->t<a.tmps.size:=λt ht=>by rw[C.size];exact HM ao ho t ht
  simp[BZ] at h;split at h
  .rename_i c1 h1;refine LX lX h1 (hh.step C.step) hs ou _ _ (λ_ β' a' w' M U=>ih (k+1) c1 β' w' a' (λj o hj=>by rw[Nat.add_right_comm];exact hk (j+1) o (s0 hj)) h M (C.trans U) λhe β w a q1 q2=>?_) (λch J=>by cases J);have:=X he β w a q1 q2;rw[show k+(o::rest).length=k+1+rest.length by simp;omega] at this;exact this
  .rename_i ch c1 h1;simp[bg,dp] at h;obtain⟨rfl,rfl⟩:=h
   exact LX lX h1 (hh.step C.step) hs ou _ _ (λJ=>by cases J) λch' J β' w' M U=>by
    cases J;exact hX _ rfl β' w' a M (C.trans U)
  .cases h
def alk{N:Nat}(J:Fu P hd call)(hh:qN P F hd β₀ w₀)(ao:tZ a₀.tmps.size ops=true){c:dC}{β:aZ}{w:World}{a:Act}(h:BZ P hd call ops ops.toList c=some (e,c'))(hs:dt P F (cG c) β w a)(C:fW N β₀ w₀ a₀ (cG c) β w a):
 wpOpsIn (Fe r) n P ops (fq P F N β₀ w₀ a₀ (QE e c')) (range ops.size) a w:=by
 have:=aja (r:=r) (n:=n) (tl:=0) (QX:=fq P F N β₀ w₀ a₀ (QE e c')) J hh ao (λch he β w a h1 h2=>⟨_,β,⟨he.symm,rfl⟩,h1,h2⟩) ops.toList 0 c β w a (λj o hj=>s0 hj) h hs C λhe β w a h1 h2=>⟨_,β,⟨he.symm,rfl⟩,h1,h2⟩
 rw[range_eq_range'];simpa using this
end
end
section
variable{P:Program}{F:Nat->Prop}{ops:Array Oper}{β:aZ}{w:World}{a:Act}{c c':dC}{hd:Hd}{cf:List (Nat×Nat)}{Q:Exit->St->Prop}
def KU{l:List Nat}:∀ {xs:List Nat},meets l xs=false->∀ x∈xs,x∉l
 |[],_,x,hx=>by cases hx
 |y::xs,h,x,hx=>by
  simp[meets,Bool.or_eq_false_iff,Bool.not_eq_false'] at h;rcases mem_cons.1 hx with rfl|hx
  .exact(QY _ _).1 h.1
  .exact KU h.2 x hx
def PM{ps:List cy}:∀ {l:List (Nat×Nat)},Dg ps l=true->∀ q∈l,sM (ps.map λp=>(p.rd,p.wr)) q.1 q.2
 |[],_,q,hq=>by cases hq
 |p::l,h,q,hq=>by
  simp[Dg,aJ] at h;rcases mem_cons.1 hq with rfl|hq
  .have h:=h.1;unfold abF at h;split at h
   .rename_i x y hx hy;simp[aJ,Bool.not_eq_true'] at h;simp[sM,List.getD,getElem?_map,hx,hy,Option.map_some,Option.getD_some];exact⟨λz hz=>⟨KU h.1 z hz,KU h.2.1 z hz⟩,λz hz=>KU h.2.2 z hz⟩
   .cases h
  .exact PM h.2 q hq
def Qq{call:wV}(C:Im P call):∀ {os:List Oper} {ps:List cy} {c c':dC} {tr:pk},FN P call ops os c=some (ps,c')->(∀ q∈cf,sM (tr++ps.map λp=>(p.rd,p.wr)) q.1 q.2)->Q .normal (cG c')->Ii P ops cf Q os ps (cG c) tr
 |[],ps,c,c',tr,h,h1,h2=>by
  simp[FN,bg,dp] at h;obtain⟨rfl,rfl⟩:=h;exact⟨s0 h1,h2⟩
 |o::os,ps,c,c',tr,h,h1,h2=>by
  simp[FN] at h;split at h
  .rename_i p hp;split at h
   .rename_i J wo;split at h
    .rename_i ps1 c2 X;simp[bg,dp] at h;obtain⟨rfl,rfl⟩:=h;let⟨M,U⟩:=alh C hp;refine⟨M,U,?_⟩;have e:AM (cG c) o p=cG J:=(aav wo).symm;rw[e];exact Qq C X (s0 h1) h2
    .cases h
   .cases h
  .cases h
def alm{I1:uc}{Gc:wV}{r:Option Nat}{n id:Nat}{e:Exit}(oq:P.follows .mixedOrders=true)(ht:Fu P hd I1)(hp:Im P Gc)(ao:tZ a.tmps.size ops=true)(h:Ti P hd I1 Gc ops c (ct ops)=some (e,c'))
 (hh:qN P F hd β w) (hs:dt P F (cG c) β w a):(Code.region id ops true).wpIn (Fe r) n P (fq P F c.nx β w a (QE e c')) a w:=by
 cases hi:ct ops with
 |none=>rw[hi] at h;cases h
 |some cf=>
  rw[hi] at h;simp only[Ti] at h;split at h
  .rename_i ps X h1;cases C:Dg ps cf with
   |false=>rw[C] at h;cases h
   |true=>
    rw[C] at h;simp only[cond_true,bg,dp] at h;obtain⟨rfl,rfl⟩:=h;have rV:=Qq (Q:=QE .normal X) hp (tr:=[]) h1 (s0 (PM C)) ⟨rfl,rfl⟩;have J:=HL (λj=>ops.toList.getD j default) (λj=>ps.getD j default) (cG c) ops.toList ps 0 [] (λj o hj=>by simp at hj;simp[hj]) (λj p hj=>by simp[hj]) rfl oS rV;simp only[Nat.zero_add,Array.length_toList] at J;let⟨k1,k2,k3⟩:=J;exact Qh oq hi ao (bY _) (λj hj=>k1 j (Nat.zero_le _) hj) (λ_=>k2) (λh=>absurd h (Nat.lt_irrefl _)) k3 hs (fW.refl (cG c) β w a)
  .cases hl:Dw ops with
   |false=>rw[hl] at h;cases h
   |true=>
    rw[hl] at h;simp only[cond_true] at h;split at h
    .rename_i ps X h1;cases C:Dg ps cf with
     |false=>rw[C] at h;cases h
     |true=>
      rw[C] at h;simp[cond_true] at h;let⟨ow,hb⟩:=Xq hl;have rV:=Qq (Q:=λ_ st=>st=cG X) hp (tr:=[]) h1 (s0 (PM C)) rfl;have hlen:(ops.toList.take (ops.size - 1)).length=ops.size - 1:=by simp
      have J:=HL (λj=>ops.toList.getD j default) (λj=>ps.getD j default) (cG c) (ops.toList.take (ops.size - 1)) ps 0 [] (λj o hj=>by
       have kx:j<ops.size - 1:=by rw[<- hlen];exact(bQ.1 hj).1
       rw[getElem?_take,bi kx] at hj
       simp at hj;simp[hj]) (λj p hj=>by simp[hj]) rfl oS rV
      rw[hlen] at J;simp only[Nat.zero_add] at J;let⟨k1,k2,k3⟩:=J;refine Qh oq hi ao (nl:=ops.size - 1) oG (λj hj=>k1 j (Nat.zero_le _) hj) (λh=>by omega) (λ_=>⟨oG,hb,λr n=>?_⟩) k3 hs (fW.refl (cG c) β w a);rw[k2];have pZ:ops.size - 1<ops.size:=by omega
      have hx:ops[ops.size - 1]? =some (ops.toList.getD (ops.size - 1) default):=by simp[pZ]
      have jg:ops.toList.drop (ops.size - 1)=[ops.toList.getD (ops.size - 1) default]:=by
       have Kd:ops.size - 1<ops.toList.length:=by simp;omega
       rw[drop_eq_getElem_cons Kd,drop_eq_nil_of_le oP];simp[List.getD,pZ]
      rw[jg] at h;intro β1 w1 a1 jR M K hK;have ou:∀ t,(ops.toList.getD (ops.size - 1) default).dst=some t->t<a1.tmps.size:=λt ht=>by rw[M.size];exact HM ao hx t ht
      simp only[BZ] at h;split at h
      .rename_i c2 h2;simp[bg,dp] at h;obtain⟨rfl,rfl⟩:=h;exact LX ht h2 (hh.step M.step) jR ou _ _ (λ_ β' a' w' g1 g2=>hK _ _ ⟨_,β',⟨rfl,rfl⟩,g1,M.trans g2⟩) λch U=>by cases U
      .rename_i ch c2 h2;simp only[bg,dp] at h;obtain⟨rfl,rfl⟩:=h
       exact LX ht h2 (hh.step M.step) jR ou _ _ (λU=>by cases U) λch' U β' w' g1 g2=>by
        cases U;exact⟨_,β',⟨rfl,rfl⟩,g1,M.trans g2⟩
      .cases h
    .cases h
end
def DB(P:Program)(F:Nat->Prop)(rf:Bool)(N:Nat)(β:aZ)(w:World)(a:Act)(e:Exit)(s':dC)(e2:Exit)(a2:Act)(C:World):Prop:=IZ P F N β w a (QE e s') e2 a2 C/\(rf=false->a2.defers=a.defers)
def Gz(P:Program)(ev:Ev):Prop:=∀ (hd:Hd) (rf:Bool) (c:Code) (s:dC) (e:Exit) (s':dC),ev hd rf c s=some (e,s')->∀ (F:Nat->Prop) (r:Option Nat) (n:Nat) (β:aZ) (w:World) (a:Act),
 (rf=true->r=none)->qN P F hd β w->ke a.tmps.size c=true->dt P F (cG s) β w a->c.wpIn (Fe r) n P (DB P F rf s.nx β w a e s') a w
def Np(P:Program)(nR:FuncId->Option (Func×Code)):Prop:=∀ f fn c,nR f=some (fn,c)->Aw P f fn c
section
variable{P:Program}{F:Nat->Prop}{fn:Func}{x:Ctx}{ev:Ev}{hd:Hd}{c:dC}
def Zh{t C:T D}{i:Nat}{d:D}(h:t.put i (some d)=some C):lL C=up (lL t) i d:=by
 funext j;simp[lL,getD,T.Rz h,CM];by_cases hj:j=i<;>simp[hj]
def XA:∀ (ds:List D) (k:Nat) (t C:T D),FP k ds t=some C->∀ j,lL C j=if k<=j/\j<k+ds.length then ds.getD (j - k) .u else lL t j
 |[],k,t,C,h,j=>by
  simp only[FP,bg] at h;subst h;rw[ai (by simp only[length_nil];omega)]
 |d::ds,k,t,C,h,j=>by
  simp[FP] at h;split at h
  .rename_i t1 h1;rw[XA ds (k+1) t1 C h j,Zh h1];simp[length_cons,CM];by_cases hj:j=k
   .subst hj;rw[ai oG,bi rfl,bi ⟨bY _,oG⟩];simp
   .by_cases h2:k+1<=j/\j<k+1+ds.length
    .rw[bi h2,bi oG];have:j - k=(j - (k+1))+1:=by omega
     rw[this];simp
    .rw[ai h2,ai hj,ai oG]
  .cases h
def ajb{args:List D}{t:T D}(h:FP 0 args .leaf=some t):lL t=pN args:=by
 funext j;rw[XA args 0 .leaf t h j];unfold pN;by_cases hj:j<args.length
 .rw[bi ⟨Nat.zero_le _,oG⟩];simp
 .rw[ai oG];simp[lL,Abs.getD];have:(T.leaf:T D).get j=none:=by unfold T.get;exact CL _
  simp[this,hj]
def anz{r:ResultVar}{d:D}(h:Ue P c r=some d):∃ p:Prop,vP P (cG c) r=some (p,d)/\p:=by
 unfold Ue at h;split at h
 .cases h;exact⟨True,rfl,aa⟩
 .rename_i a t;split at h
  .rename_i i off ha;split at h
   .rename_i cs e hm;cases hb:(a8 P t&&pf (off+P.cellsOf t) cs) with
    |false=>rw[hb] at h;cases h
    |true=>
     rw[hb] at h;simp[cond_true,bg] at h;simp[aJ,tO] at hb;refine⟨a8 P t=true/\off+P.cellsOf t<=cs.length,?_,hb⟩;have C:(cG c).env a=.rp i off:=ha;have J:(cG c).mem i=some (.cells cs e):=hm;simp[vP,C,J, <- h,H7,wH]
   .cases h
  .rename_i cs ha;cases hb:(a8 P t&&pf (P.cellsOf t) cs) with
   |false=>rw[hb] at h;cases h
   |true=>
    rw[hb] at h;simp[cond_true,bg] at h;simp[aJ,tO] at hb;refine⟨a8 P t=true/\P.cellsOf t<=cs.length,?_,hb⟩;have C:(cG c).env a=.pt cs:=ha;simp[vP,C, <- h,H7]
  .cases h
def aay{K:List D->Prop}:∀ (rs:List ResultVar) (ds acc:List D),Ju P c rs=some ds->K (acc++ds)->uo P (cG c) rs acc K
 |[],ds,acc,h,hk=>by
  simp[Ju,bg] at h;subst h;simpa[uo] using hk
 |r::rs,ds,acc,h,hk=>by
  simp[Ju] at h;split at h
  .rename_i d hd;split at h
   .rename_i C h1;cases h;let⟨p,h2,J⟩:=anz hd;simp[uo,h2];exact⟨J,aay rs C (acc++[d]) h1 (s0 hk)⟩
   .cases h
  .cases h
def RB(oq:P.follows .mixedOrders=true)(Uf:Np P x.nR)(wu:Gz P ev){f:FuncId}{args:List D}{m m':T Row}{nx nx':Nat}{y:D ⊕ List PanicEntry}(h:B0 P x ev hd f args m nx=some (y,m',nx')):ZC P hd f args (cv m) nx y (cv m') nx':=by
 unfold B0 at h;split at h
 .cases h
 .rename_i fn c hf;let⟨OL,hb,ao,he⟩:=Uf _ _ _ hf;refine⟨he,λF β w vs hh hm dA hR=>?_⟩;cases hn:pf args.length (replicate fn.ntmps .u) with
  |false=>rw[hn] at h;cases h
  |true=>
   rw[hn] at h;have fO:args.length<=fn.ntmps:=by simpa[tO] using hn
   simp[cond_true] at h;split at h
   .cases h
   .rename_i t ht;cases hx:ev hd true c ⟨t,m,nx⟩ with
    |none=>rw[hx] at h;cases h
    |some es=>
     let⟨e,s⟩:=es;rw[hx] at h;have J:cG ⟨t,m,nx⟩=⟨pN args,cv m,nx⟩:=by rw[<- ajb ht];rfl
     apply Y4 OL hb fO hm dA hR (λa ha hs=>wpIn_mono (wu hd true c ⟨t,m,nx⟩ e s hx F none 0 β w a (λ_=>rfl) hh (by rw[ha];exact ao) (by rw[J];exact hs)) λ_ _ _ h=>h.1);rintro e2 st' β' w' a' ⟨rfl,rfl⟩ hs X C M
     have U:MT P fn s=some (y,m',nx')->∃ v,(results fn a'.tmps).run P w'=.ok v w'/\Ends P F β w nx y (cv m') nx' (.returned v) w':=λh=>by
      unfold MT at h;split at h
      .rename_i ds iW;simp[bg,dp] at h;obtain⟨rfl,rfl,rfl⟩:=h;obtain⟨v,d,g1,rfl,g3⟩:=WY (fn:=fn) (K:=λd=>d=Av ds) hs (aay _ ds [] iW rfl);exact⟨v,g1,β',⟨v,rfl,g3⟩,hs.m,hs.n,X,C,M⟩
      .cases h
     cases e2 with
     |normal=>exact U h
     |ret=>exact U h
     |panic ch=>
      simp[abG,bg,dp] at h;obtain⟨rfl,rfl,rfl⟩:=h;exact⟨β',rfl,hs.m,hs.n,X,C,M⟩
     |_=>cases h
end
section
variable{U:aZ}{M:World}{L:Loop}{rf:Bool}
section
variable{P:Program}{F:Nat->Prop}{β β':aZ}{w w':World}{m:Mem}
def Nq{i l:Nat}{k:RS}(hm:bc P F m β w)(hi:m i=some (.lp k))(h1:U i=some (.lp l))(X:M.heap[l]? =some (.loop L))(hs:Step U M β w):
 β i=some (.lp l)/\∃ st pe,w.heap[l]? =some (.loop { L with state:=st,pending:=pe })/\RS.Is { L with state:=st,pending:=pe } k:=by
 let⟨p,hp,hr⟩:=hm.row i _ hi;cases hr with
 |lp _ r L' hb hk=>
  have C:β i=some (.lp l):=by
   rcases hs.kp i _ h1 with h2|h2
   .exact h2
   .rw[h2] at hp;cases hp
  rw[C] at hp;cases hp;let⟨st,pe,J⟩:=hs.lp i l h1 C L X;rw[J] at hb;cases hb;exact⟨C,st,pe,J,hk⟩
def Q3{i l:Nat}{st:LoopState}{pe:Option Code}{r:Option Row}(hm:bc P F m β w)(J:β i=some (.lp l))(hL:w.heap[l]? =some (.loop L))
 (hr:∀ r',r=some r'->∃ k,r'=.lp k/\RS.Is { L with state:=st,pending:=pe } k):
 bc P F (up m i r) β (w.putObj l (.loop { L with state:=st,pending:=pe }))/\Step β w β (w.putObj l (.loop { L with state:=st,pending:=pe }))/\(w.putObj l (.loop { L with state:=st,pending:=pe })).heap[l]? =some (.loop { L with state:=st,pending:=pe }):=by
 have ao:=hm.lt i _ l J rfl;have U:(w.putObj l (.loop { L with state:=st,pending:=pe })).heap[l]? =some (.loop { L with state:=st,pending:=pe }):=World.putObj_heap_same ao
 have hs:Step β w β (w.putObj l (.loop { L with state:=st,pending:=pe })):=⟨oS,λb _ hf=>⟨World.putObj_heap_other λe=>hf i _ J (by rw[e];rfl),hf⟩,λ_ _ h=>.inl h,⟨rfl,rfl⟩,λj q _ _=>by
  by_cases hq:q=l
  .subst hq;intro L0 C;rw[hL] at C;cases C;exact⟨st,pe,U⟩
  .exact sx (World.putObj_heap_other hq)⟩
 refine⟨⟨λj r' hj=>?_,hm.inj,λj p b hp hb=>s0 (hm.lt j p b hp hb),hm.nf,hm.fb.next (λb hb=>s0 (hm.fb.lt b hb)) (λ_ h=>h) λt ht X=>World.putObj_heap_other λe=>hm.nf i _ l J rfl (e▸X)⟩,hs,U⟩;by_cases M:j=i
 .subst M;rw[aw] at hj;obtain⟨k,rfl,hk⟩:=hr r' hj;exact⟨_,J,.lp k l _ U hk⟩
 .rw[aV _ _ M] at hj;let⟨p,hp,aF⟩:=hm.row j r' hj;exact⟨p,hp,aF.step hs λb hb=>World.putObj_heap_other λe=>M (hm.inj j i p _ l hp J (by rw[hb,e]) rfl)⟩
def Xa:∀ (ps:List Tmp) (ds:List D) (t C:T D),Fs t ps ds=some C->lL C=z6 (lL t) ps ds
 |[],ds,t,C,h=>by simp[Fs,bg] at h;subst h;rfl
 |_::_,[],t,C,h=>by simp[Fs,bg] at h;subst h;rfl
 |p::ps,d::ds,t,C,h=>by
  simp[Fs] at h;split at h
  .rename_i t1 h1;rw[Xa ps ds t1 C h,Zh h1];rfl
  .cases h
def DB.trans{s J s':dC}{a a1 a':Act}{e C:Exit}(h:rU s.nx β w a (cG J) U M a1)(hd:rf=false->a1.defers=a.defers)(k:DB P F rf J.nx U M a1 e s' C a' w'):DB P F rf s.nx β w a e s' C a' w':=by
 let⟨⟨st',β',h1,h2,X⟩,h4⟩:=k;exact⟨⟨st',β',h1,h2,h.trans X⟩,λe=>(h4 e).trans (hd e)⟩
structure BJ(P:Program)(x:Ctx):Prop where
 mix:P.follows .mixedOrders=true
 nR:Np P x.nR
 known:∀ f args r,x.known f args=some r->aH P f args r
 IJ:∀ f args m nx y m' nx',x.IJ f args m nx=some (y,m',nx')->ZC P [] f args (cv m) nx y (cv m') nx'
variable{x:Ctx}{ev:Ev}{hd:Hd}
def ZC.any{f:FuncId}{args:List D}{nx nx':Nat}{y:D ⊕ List PanicEntry}{m':Mem}(h:ZC P [] f args m nx y m' nx'):ZC P hd f args m nx y m' nx':=
 ⟨h.1,λF β w vs _=>h.2 F β w vs QZ⟩
def aln(hx:BJ P x)(wu:Gz P ev){g:Operand}{ps:Array Tmp}{assign body:Code}{s s':dC}{e:Exit}(h:So g ps assign body P x ev hd rf s=some (e,s')){r:Option Nat}{n:Nat}{a:Act}
 (gq:rf=true->r=none) (hh:qN P F hd β w) (ao:ke a.tmps.size (.rangeFunc g ps assign body)=true) (hs:dt P F (cG s) β w a):(Code.rangeFunc g ps assign body).wpIn (Fe r) n P (IZ P F s.nx β w a (QE e s')) a w:=by
 unfold So at h;cases rf with
 |false=>cases h
 |true=>
 have hr:=gq rfl;subst hr;simp only[cond_true] at h;split at h
 rotate_left
 .cases h
 rename_i f fs cs hv;split at h
 .cases h
 rename_i m0 mN;simp only[ke,aJ,bK,Nat.blt_eq] at ao;let⟨rV,TP,TQ⟩:=ao
 obtain⟨y,m6,G4,fm⟩:∃ y m6 G4,B0 P x ev ((s.nx,IK ev hd s.nx s.env ps.toList assign body)::hd) f (fs++[.yl s.nx]++cs) m0 (s.nx+1)=some (y,m6,G4):=by
  generalize B0 P x ev ((s.nx,IK ev hd s.nx s.env ps.toList assign body)::hd) f (fs++[.yl s.nx]++cs) m0 (s.nx+1)=z at h;cases z with
  |none=>cases h
  |some z=>let⟨y,m6,G4⟩:=z;exact⟨_,_,_,rfl⟩
 rw[fm] at h;have hz:=RB hx.mix hx.nR wu fm
 have hR:R F β w (.fn (.func f) fs cs) (a.eval g):=by
  rw[<- hv,H9];exact hs.e.un.opd g
 refine wpIn_rangeFunc λfn uA=>?_;obtain⟨L,U⟩:∃ L:Loop,L={ state:=.ready,pending:=none,fn,tmps:=a.tmps,params:=ps,assign,body,defers:=w.heap.size }:=⟨_,rfl⟩
 obtain⟨J,uD⟩:∃ J,(w.alloc (.deferred (some []))).alloc (.loop L)=J:=⟨_,rfl⟩
 obtain⟨l,hl⟩:∃ l,l=w.heap.size+1:=⟨_,rfl⟩
 let⟨us,vs,d,JW,wj,hu,Ec,qJ,hinv⟩:=WK (P:=P) hR hz.1 l J;have hn:∀ i,s.nx<=i->β i=none:=hs.n;have zu:Step β w β (w.alloc (.deferred (some []))):=Ff oS λb hb=>heap_alloc_old w _ hb;have adM:bc P F (cv s.mem) β (w.alloc (.deferred (some []))):=hs.m.ext oS λb hb=>heap_alloc_old w _ hb;have Gr:∀ b,(Pl.lp l).cn=some b->b=(w.alloc (.deferred (some []))).heap.size:=λb hb=>by simp only[Pl.cn,bg] at hb;simp;omega
 have Jy:J.heap[l]? =some (.loop L):=by
  rw[<- uD,hl];have:=World.alloc_heap_new (w.alloc (.deferred (some []))) (.loop L)
  rwa[World.size_alloc] at this
 have uE:bc P F (cv m0) (up β s.nx (some (.lp l))) J:=by
  rw[Fm mN, <- uD];refine adM.alloc (hn _ (bY _)) _ _ _ Gr (.lp _ l L ?_ ⟨by rw[U],by rw[U]⟩);rw[uD];exact Jy
 have jR:Step β w (up β s.nx (some (.lp l))) J:=by
  rw[<- uD];exact zu.trans (EW adM _ (hn _ (bY _)) _ Gr)
 have Hi:(up β s.nx (some (.lp l))) s.nx=some (.lp l):=aw _ _ _
 have uI:∀ i,s.nx+1<=i->(up β s.nx (some (.lp l))) i=none:=λi hi=>by
  rw[aV _ _ (show i≠s.nx by omega)];exact hn i oG
 have UZ:J.heap[w.heap.size]? =some (.deferred (some [])):=by
  rw[<- uD,heap_alloc_old _ _ oS];exact World.alloc_heap_new w _
 have ID:aZ.free (up β s.nx (some (.lp l))) w.heap.size:=
  wD (λi p hp e=>by have:=hs.m.lt i p _ hp e;omega) (by rintro q hq;cases hq;simp[Pl.cn];omega)
 have atN:J.heap.size=w.heap.size+2:=by rw[<- uD];simp
 have hh1:qN P F ((s.nx,IK ev hd s.nx s.env ps.toList assign body)::hd) (up β s.nx (some (.lp l))) J:=by
  intro i hf Hj;simp only[Js] at Hj;by_cases hi:s.nx=i
  rotate_left
  .have:Nat.beq s.nx i=false:=by cases hb:Nat.beq s.nx i with|false=>rfl|true=>exact absurd (Nat.eq_of_beq_eq_true hb) hi
   rw[this] at Hj;exact(hh.step jR) i hf Hj
  .subst hi;rw[Nat.beq_refl] at Hj;simp only[cond_true,bg] at Hj;subst Hj;refine⟨l,.inl Hi,λargs m nx b m' nx' X C=>?_⟩;intro β2 w2 AI Gs oI AJ AK;unfold IK at C;cases hlen:Nat.beq args.length ps.toList.length with
   |false=>rw[hlen] at C;cases C
   |true=>
   rw[hlen] at C;have y5:args.length=ps.size:=s0 hlen
   simp only[cond_true] at C;split at C
   rotate_left
   .cases C
   rename_i t ht
   obtain⟨e3,M,hx3⟩:∃ e3 M,ev hd false assign ⟨t,m,nx⟩=some (e3,M):=by
    generalize ev hd false assign ⟨t,m,nx⟩=z at C;cases z with
    |none=>cases C
    |some z=>exact⟨z.1,z.2,rfl⟩
   rw[hx3] at C;let⟨hβ2,Ve,pe2,adN,Eu⟩:=Nq oI (show cv m s.nx=some (.lp .ready) from X) Hi Jy Gs
   have eL:({ L with state:=Ve,pending:=pe2 }:Loop)=L:=by
    let⟨k1,k2⟩:=Eu;simp only at k1 k2;rw[U,k1,k2]
   rw[eL] at adN;have TS:AI.size=ps.size:=by rw[AK.1];exact y5
   have hy:=run_yield (P:=P) (args:=AI) adN (by rw[U];exact TS);simp only[U,X2] at hy;refine⟨fn,_,assign,body,hy,λn'=>?_⟩;have acN:=jR.trans Gs;have hh2:qN P F hd β2 w2:=hh.step acN;have U1:jd F β2 w2 (lL s.env) { tmps:=a.tmps,defers:=[] }:=λt=>(hs.e t).step acN;let⟨U2,Jo⟩:=PT ps.toList args AI.toList (lL s.env) a.tmps (by simp[AK.1]) (λj d v hd hv=>AK.2 j d v hd (s0 hv)) (λt ht=>rV t ht) U1
   have apW:dt P F (cG ⟨t,m,nx⟩) β2 w2 { tmps:=(ps.toList.zip AI.toList).foldl (λtmps (t,a)=>tmps.setIfInBounds t a) a.tmps,defers:=[] }:=⟨by
    show jd F β2 w2 (lL t) _
    rw[Xa _ _ _ _ ht];exact U2,oI,AJ⟩
   have TT:=wu hd false assign _ e3 M hx3 F (some l) n' β2 w2 _ (λh=>by cases h) hh2 (by show ke (Array.size _) assign=true;rw[Jo];exact TP) apW;refine roundIn_of_wpIn aa (wpIn_mono TT λe a3 w3 hp=>?_);obtain⟨⟨_,β3,⟨rfl,rfl⟩,wk,jS⟩,_⟩:=hp;unfold abI at C;split at C
   rotate_left
   .cases C
   rename_i s3' qU;cases qU;split at C
   rotate_left
   .cases C
   rename_i atZ;split at C
   rotate_left
   .cases C
   rename_i m4 A0;let⟨hβ3,mM,pe3,Ug,hk3⟩:=Nq wk.m (show cv M.mem s.nx=some (.lp .ready) from atZ) Hi Jy (Gs.trans jS.step)
   have eL3:({ L with state:=mM,pending:=pe3 }:Loop)=L:=by
    let⟨k1,k2⟩:=hk3;simp only at k1 k2;rw[U,k1,k2]
   rw[eL3] at Ug;let⟨hmb,Uh,azE⟩:=Q3 (st:=.busy) (pe:=none) (r:=some (.lp .busy)) wk.m hβ3 Ug (λr' jh=>⟨.busy,(Option.some.inj jh).symm,rfl,rfl⟩);have eLb:({ L with state:=.busy }:Loop)={ L with state:=.busy,pending:=none }:=by rw[U]
   refine⟨_,run_beginRound Ug (by rw[U]),?_⟩;rw[eLb]
   obtain⟨e5,s5,hx5⟩:∃ e5 s5,ev hd false body ⟨M.env,m4,M.nx⟩=some (e5,s5):=by
    generalize ev hd false body ⟨M.env,m4,M.nx⟩=z at C;cases z with
    |none=>cases C
    |some z=>exact⟨z.1,z.2,rfl⟩
   rw[hx5] at C
   have apX:dt P F (cG ⟨M.env,m4,M.nx⟩) β3 (w3.putObj l (.loop { L with state:=.busy,pending:=none })) a3:=⟨wk.e.step Uh,by
    show bc P F (cv m4) β3 _
    rw[Fm A0];exact hmb,wk.n⟩
   have SW:=wu hd false body _ e5 s5 hx5 F (some l) n' β3 _ a3 (λh=>by cases h) ((hh2.step jS.step).step Uh) (by rw[jS.size];show ke (Array.size _) body=true;rw[Jo];exact TQ) apX;refine wpIn_mono SW λe a5 w5 hp5=>?_;obtain⟨⟨_,β5,⟨rfl,rfl⟩,Vg,Ke⟩,_⟩:=hp5;have adO:Step β2 w2 β5 w5:=(jS.step.trans Uh).trans Ke.step
   have fin:∀ (jump:Option Code) (bb:Bool) (k:RS),bb=jump.isNone->RS.Is { L with state:=if jump.isNone then .ready else .done,pending:=jump } k->I2 s.nx bb k s5=some (b,m',nx')->
    ∃ v w',(Instr.endRound l jump).run P w5=.ok v w'/\∃ v' d m2 iK β',Ending.returned v=.returned v'/\(d=.s (.bool b)/\m2=cv m'/\iK=nx')/\bc P F m2 β' w'/\(∀ i,iK<=i->β' i=none)/\R F β' w' d v'/\Step β2 w2 β' w'/\nx<=iK/\∀ i,i<nx->β2 i=none->β' i=none:=λjump bb k UW hk uB=>by
    unfold I2 at uB;split at uB
    rotate_left
    .cases uB
    rename_i at0;split at uB
    rotate_left
    .cases uB
    rename_i m6 xI;simp only[bg,dp] at uB;obtain⟨rfl,rfl,rfl⟩:=uB;let⟨hβ5,st5,pe5,adP,hk5⟩:=Nq Vg.m (show cv s5.mem s.nx=some (.lp .busy) from at0) Hi Jy (Gs.trans adO);let⟨qV,Ui,azF⟩:=Q3 (st:=if jump.isNone then .ready else .done) (pe:=jump) (r:=some (.lp k)) Vg.m hβ5 adP (λr' jh=>⟨k,(Option.some.inj jh).symm,hk⟩);refine⟨_,_,run_endRound (P:=P) jump adP,.bool jump.isNone,.s (.bool bb),cv m6,s5.nx,β5,rfl,⟨rfl,rfl,rfl⟩,?_,Vg.n,?_,adO.trans Ui,Nat.le_trans jS.le Ke.le,λi hi hb=>Ke.grow i (Nat.lt_of_lt_of_le hi jS.le) (jS.grow i hi hb)⟩
    .rw[Fm xI];exact qV
    .rw[UW];exact .s _ rfl
   unfold abH at C;cases e with
   |normal=>exact fin none true .ready rfl ⟨rfl,rfl⟩ C
   |ret=>exact fin (some .ret) false (.done .ret) rfl ⟨rfl,rfl⟩ C
   |exit id=>exact fin (some (.exit id)) false (.done (.exit id)) rfl ⟨rfl,rfl⟩ C
   |_=>cases C
 refine⟨l,[mark w.heap.size],J,d,J,f,_,J,?_,qJ,λf' _=>trivial,hinv,λhd=>by simp at hd,Ll ?_⟩
 .rw[<- uD,U,hl];exact run_enterLoop_outer _ _ _ _ _
 refine(hz.2 F _ J _ hh1 uE uI ?_).mono ?_
 .refine Rs.append (Rs.append ?_ ?_) ?_
  .exact⟨by simp[JW],λk d v hd hv=>(hu k d v hd (s0 hv)).step jR⟩
  .refine⟨rfl,λk d v hd hv=>?_⟩;cases k with
   |zero=>
    simp only[getElem?_cons_zero,bg] at hd;simp only[getElem?_toArray,getElem?_cons_zero,bg] at hv;subst hd;subst hv;exact .yl _ l Hi
   |succ k=>simp at hd
  .exact⟨by simp[wj],λk d v hd hv2=>(Ec k d v hd (s0 hv2)).step jR⟩
 rintro e6 w6 ⟨β6,hy6,xI,Yf,qK,adA,TU⟩;cases y with
 |inr ch=>cases h
 |inl dy=>
 obtain⟨v6,rfl,_⟩:=hy6
 have fin:∀ (k:RS) (jump:Option Code) (e1:Exit),(∀ Lx:Loop,RS.Is Lx k->Lx.state≠ .busy/\Lx.pending=jump)->m6.get s.nx=some (.lp k)->Jv s.nx s.env m6 G4 e1=some (e,s')->
  ∃ w7,(Instr.endLoop l).run P w6=.ok jump w7/\IZ P F s.nx β w a (QE e s') e1 { a with defers:=[mark w.heap.size]++a.defers } w7:=λk jump e1 hk X he=>by
  unfold Jv at he;split at he
  rotate_left
  .cases he
  rename_i m7 hm7;simp only[bg,dp] at he;obtain⟨rfl,rfl⟩:=he;let⟨hβ6,st6,pe6,adQ,hk6⟩:=Nq xI (show cv m6 s.nx=some (.lp k) from X) Hi Jy qK;let⟨hk7,Vh⟩:=hk _ hk6;have Vh:pe6=jump:=Vh;subst Vh;have fm:=run_endLoop (P:=P) adQ hk7;let⟨qV,Ui,_⟩:=Q3 (st:=.exhausted) (pe:=pe6) (r:=none) xI hβ6 adQ (λr' jh=>by cases jh);have adR:=(jR.trans qK).trans Ui;have hl6:w.heap.size<w6.heap.size:=by have:=qK.size;omega
  refine⟨_,fm,_,β6,⟨rfl,rfl⟩,⟨λt=>(hs.e t).step adR,?_,Yf⟩,⟨adR,Nat.le_trans (Nat.le_succ _) adA,λi hi hb=>TU i (Nat.lt_succ_of_lt hi) ?_,rfl,[mark w.heap.size],rfl,w.heap.size,rfl,bY _,s0 hl6,?_,(qK.gp _ oG ID).2,aa⟩⟩
  .show bc P F (cv m7) β6 _;rw[Fm hm7];exact qV
  .rw[aV _ _ (show i≠s.nx by omega)];exact hb
  .exact(World.putObj_heap_other oG).trans ((qK.gp _ oG ID).1.trans UZ)
 simp only[abJ] at h;split at h
 .rename_i X;let⟨w7,h1,h2⟩:=fin .ready none .normal (λLx hk=>⟨by rw[hk.1];simp,hk.2⟩) X h;exact⟨none,w7,h1,h2⟩
 .rename_i X;let⟨w7,h1,h2⟩:=fin (.done .ret) (some .ret) .ret (λLx hk=>⟨by rw[hk.1];simp,hk.2⟩) X h;exact⟨some .ret,w7,h1,wpIn_ret h2⟩
 .rename_i id X;let⟨w7,h1,h2⟩:=fin (.done (.exit id)) (some (.exit id)) (.exit id) (λLx hk=>⟨by rw[hk.1];simp,hk.2⟩) X h;exact⟨some (.exit id),w7,h1,wpIn_exit h2⟩
 .cases h
end
end
section
variable{m:T Row}{bR:List Nat}{args:List D}{m':T Row}{nx':Nat}{y:D ⊕ (List D×Nat×TypeId)}
section
variable{P:Program}{F:Nat->Prop}{β:aZ}{w:World}
def wT:∀ {n:Nat} {d:D},uK n d=true->Tr d
 |0,_,h=>by cases h
 |n+1,d,h=>by
  cases d with
  |rs=>cases h
  |rp=>cases h
  |mp=>cases h
  |sc=>cases h
  |yl=>cases h
  |dw c d=>exact .dw (wT h)
  |agg cs=>exact .agg λd hd=>wT (bK.1 h d hd)
  |bu cs=>exact .bu λd hd=>wT (bK.1 h d hd)
  |sl cs n=>exact .sl λd hd=>wT (bK.1 h d hd)
  |pt cs=>exact .pt λd hd=>wT (bK.1 h d hd)
  |fn f fs cs=>
   simp only[uK,aJ] at h;exact .fn (λd hd=>wT (bK.1 h.1 d hd)) λd hd=>wT (bK.1 h.2 d hd)
  |im es=>exact .im λx hx=>wT (bK.1 h x hx)
  |s v=>exact .s v
  |ub=>exact .ub
  |u=>exact .u
  |z=>exact .z
def La{α β:Type}{f:α->Option (β×List Nat)}:∀ {xs:List α} {ys:List β} {r:List Nat},lj f xs=some (ys,r)->
 ys.length=xs.length/\(∀ (k:Nat) (y:β),ys[k]? =some y->∃ x r',xs[k]? =some x/\f x=some (y,r')/\∀ i∈r',i∈r)
 |[],ys,r,h=>by simp[lj,bg,dp] at h;obtain⟨rfl,rfl⟩:=h;simp
 |x::xs,ys,r,h=>by
  simp[lj] at h;cases hx:f x with
  |none=>rw[hx] at h;cases h
  |some y=>
   rw[hx] at h;simp only at h;cases C:lj f xs with
   |none=>rw[C] at h;cases h
   |some J=>
    rw[C] at h;simp[bg,dp] at h;obtain⟨rfl,rfl⟩:=h;let⟨h1,h2⟩:=La (ys:=J.1) (r:=J.2) C;refine⟨by simp[h1],λk z hz=>?_⟩;cases k with
    |zero=>
     simp[getElem?_cons_zero,bg] at hz;subst hz;exact⟨x,y.2,rfl,hx,λi hi=>by simp[hi]⟩
    |succ k=>
     let⟨x',r',M,U,X⟩:=h2 k z (s0 hz);exact⟨x',r',s0 M,U,λi hi=>by simp[X i hi]⟩
def wI{α β:Type}{f:α->Option (β×List Nat)}{xs:List α}{ys:List β}{r:List Nat}(h:lj f xs=some (ys,r)){p:β->Prop}(hp:∀ x y r',f x=some (y,r')->p y):∀ y∈ys,p y:=λy hy=>by
 let⟨k,hk⟩:=cV hy;let⟨x,r',_,h2,_⟩:=(La h).2 k y hk;exact hp x y r' h2
def LY:∀ {n:Nat} {d d':D} {r:List Nat},dQ P m n d=some (d',r)->Tr d'
 |0,_,_,_,h=>by cases h
 |n+1,d,d',r,h=>by
  have ih:∀ x y r',dQ P m n x=some (y,r')->Tr y:=λx y r' h=>LY h
  have C:∀ (x:Value×D) (y:Value×D) r',(dQ P m n x.2).map (λy=>((x.1,y.1),y.2))=some (y,r')->Tr y.2:=λx y r' h=>by
   simp only[ej,dp] at h;obtain⟨z,hz,rfl,_⟩:=h;exact LY (r:=z.2) hz
  cases d with
  |sc=>cases h
  |yl=>cases h
  |mp i=>
   simp only[dQ] at h;split at h
   .simp only[ej,dp] at h;obtain⟨x,hx,rfl,_⟩:=h;exact .im (wI (ys:=x.1) (r:=x.2) hx C)
   .cases h
  |im es=>
   simp only[dQ,ej,dp] at h;obtain⟨x,hx,rfl,_⟩:=h;exact .im (wI (ys:=x.1) (r:=x.2) hx C)
  |rs i off k=>
   simp only[dQ] at h;split at h
   .simp only[ej,dp] at h;obtain⟨x,hx,rfl,_⟩:=h;exact .sl (wI (ys:=x.1) (r:=x.2) hx ih)
   .cases h
  |rp i off=>
   simp only[dQ] at h;split at h
   .simp only[ej,dp] at h;obtain⟨x,hx,rfl,_⟩:=h;exact .pt (wI (ys:=x.1) (r:=x.2) hx ih)
   .cases h
  |dw c d=>
   cases c with
   |true=>
    simp only[dQ,ej,dp] at h;obtain⟨x,hx,rfl,_⟩:=h;exact .dw (LY (r:=x.2) hx)
   |false=>simp[dQ,bg,dp] at h;obtain⟨rfl,_⟩:=h;exact .dw .u
  |agg cs=>
   simp only[dQ,ej,dp] at h;obtain⟨x,hx,rfl,_⟩:=h;exact .agg (wI (ys:=x.1) (r:=x.2) hx ih)
  |bu cs=>
   simp only[dQ,ej,dp] at h;obtain⟨x,hx,rfl,_⟩:=h;exact .bu (wI (ys:=x.1) (r:=x.2) hx ih)
  |sl cs k=>
   simp only[dQ,ej,dp] at h;obtain⟨x,hx,rfl,_⟩:=h;exact .sl (wI (ys:=x.1) (r:=x.2) hx ih)
  |pt cs=>
   simp only[dQ,ej,dp] at h;obtain⟨x,hx,rfl,_⟩:=h;exact .pt (wI (ys:=x.1) (r:=x.2) hx ih)
  |fn f fs cs=>
   simp only[dQ] at h;cases hx:lj (dQ P m n) fs with
   |none=>rw[hx] at h;cases h
   |some x=>
    rw[hx] at h;simp only[ej,dp] at h;obtain⟨y,hy,rfl,_⟩:=h;exact .fn (wI (ys:=x.1) (r:=x.2) hx ih) (wI (ys:=y.1) (r:=y.2) hy ih)
  |s v=>simp[dQ,bg,dp] at h;obtain⟨rfl,_⟩:=h;exact .s v
  |ub=>simp[dQ,bg,dp] at h;obtain⟨rfl,_⟩:=h;exact .ub
  |u=>simp[dQ,bg,dp] at h;obtain⟨rfl,_⟩:=h;exact .u
  |z=>simp[dQ,bg,dp] at h;obtain⟨rfl,_⟩:=h;exact .z
def Looks(P:Program)(F:Nat->Prop)(β:aZ)(w:World)(m:T Row)(bR:List Nat):Prop:=∀ i∈bR,∀ r,m.get i=some r->∃ p,β i=some p/\dG P F β w r p/\∀ b,p.cn=some b->¬ F b
def ET(b:Nat):j9.free b:=λi p hp=>by cases hp
def IL:∀ {n:Nat} {d d':D} {r:List Nat},dQ P m n d=some (d',r)->Looks P F β w m r->∀ {v:Value},R F β w d v->R F j9 w d' v
 |0,_,_,_,h,_,_,_=>by cases h
 |n+1,d,d',r,h,hl,v,hv=>by
  have many:∀ {xs ys:List D} {r':List Nat},lj (dQ P m n) xs=some (ys,r')->(∀ i∈r',i∈r)->ys.length=xs.length/\∀ (k:Nat) (d:D) (u:Value),ys[k]? =some d->(∀ d0,xs[k]? =some d0->R F β w d0 u)->R F j9 w d u:=λh hr=>by
   let⟨h1,h2⟩:=La h;refine⟨h1,λk d u hd hu=>?_⟩;let⟨x,r2,C,J,U⟩:=h2 k d hd;exact IL J (λi hi=>hl i (hr i (U i hi))) (hu x C)
  have look:∀ {i:Nat} {cs:List D} {e:TypeId},i∈r->m.get i=some (.cells cs e)->∃ p,β i=some p/\dG P F β w (.cells cs e) p/\∀ b,p.cn=some b->¬ F b:=λhi hm=>hl _ hi _ hm
  have X:∀ {es ys:List (Value×D)} {r':List Nat} {ms:Array MapEntry},lj (λx=>(dQ P m n x.2).map λy=>((x.1,y.1),y.2)) es=some (ys,r')->(∀ i∈r',i∈r)->ms.size=es.length->(es.map (·.1)).Nodup->
   (∀ (k:Nat) (x:Value×D) (m:MapEntry),es[k]? =some x->ms[k]? =some m->m.key=x.1/\R F β w x.2 m.val)->
   ms.size=ys.length/\(ys.map (·.1)).Nodup/\(∀ (k:Nat) (x:Value×D) (m:MapEntry),ys[k]? =some x->ms[k]? =some m->m.key=x.1)/\∀ (k:Nat) (x:Value×D) (m:MapEntry),ys[k]? =some x->ms[k]? =some m->R F j9 w x.2 m.val:=λ{es ys r' ms} h hr cC fN hh=>by
   let⟨h1,h2⟩:=La h
   have key:∀ (k:Nat) (y:Value×D),ys[k]? =some y->∃ x r2,es[k]? =some x/\y.1=x.1/\dQ P m n x.2=some (y.2,r2)/\∀ i∈r2,i∈r':=λk y hy=>by
    let⟨x,r2,C,J,U⟩:=h2 k y hy;simp only[ej,dp] at J;obtain⟨z,hz,rfl,rfl⟩:=J;exact⟨x,z.2,C,rfl,hz,U⟩
   have keys:ys.map (·.1)=es.map (·.1):=by
    refine ext_getElem? λk=>?_;simp only[getElem?_map];cases hy:ys[k]? with
    |some y=>
     let⟨x,_,C,J,_⟩:=key k y hy;simp[C,J]
    |none=>
     have:es[k]? =none:=by
      rw[List.getElem?_eq_none_iff] at hy ⊢;omega
     simp[this]
   refine⟨by rw[h1];exact cC,by rw[keys];exact fN,λk y mm hy iB=>?_,λk y mm hy iB=>?_⟩
   .let⟨x,r2,C,J,_⟩:=key k y hy;rw[J];exact(hh k x mm C iB).1
   .let⟨x,r2,C,_,U,g4⟩:=key k y hy;exact IL U (λi hi=>hl i (hr i (g4 i hi))) (hh k x mm C iB).2
  cases d with
  |sc=>cases h
  |yl=>cases h
  |mp i=>
   simp only[dQ] at h;split at h
   .rename_i es hm;simp only[ej,dp] at h;obtain⟨x,hx,rfl,rfl⟩:=h;let⟨p,hp,aF,r8⟩:=hl i (mem_cons_self ..) _ hm;cases hv with
    |Ed _ _ h1 _=>rw[h1] at hp;cases hp;exact absurd rfl aF.live
    |mp _ b h1=>
     rw[h1] at hp;cases hp;cases aF with
     |map _ _ ms clock C J U g4=>
      let⟨k1,k2,k3,k4⟩:=X (ys:=x.1) (r':=x.2) hx (λi hi=>mem_cons_of_mem _ hi) J U g4;exact .im x.1 b ms clock (r8 b rfl) (ET b) C k1 k2 k3 k4
   .cases h
  |im es=>
   simp only[dQ,ej,dp] at h;obtain⟨x,hx,rfl,rfl⟩:=h;cases hv with
   |im _ b ms clock hf hb hc J U g4 g5=>
    let⟨k1,k2,k3,k4⟩:=X (ys:=x.1) (r':=x.2) hx (λ_ h=>h) J U (λk x m hx hm=>⟨g4 k x m hx hm,g5 k x m hx hm⟩);exact .im x.1 b ms clock hf (ET b) hc k1 k2 k3 k4
  |rs i off k=>
   simp only[dQ] at h;split at h
   .rename_i cs e hm;simp only[ej,dp] at h;obtain⟨x,hx,rfl,rfl⟩:=h;let⟨p,hp,aF,r8⟩:=look (mem_cons_self ..) hm;let⟨C,J⟩:=many (ys:=x.1) (r':=x.2) hx (λi hi=>mem_cons_of_mem _ hi)
    have nil:(cs.drop off).take (k*P.cellsOf e)=[]->x.1=[]:=λe=>by
     rw[e] at C;exact eq_nil_of_length_eq_zero (s0 C)
    cases hv with
    |oE _ _ _ _ h1 _=>
     rw[h1] at hp;cases hp;exact absurd rfl aF.live
    |lN _ a h1=>
     rw[h1] at hp;cases hp;cases aF;rw[nil oS];exact .ln a 0
    |mJ _ _ a b o len room sz h1=>
     rw[nil oS];exact .ln a 0
    |rs _ _ _ cap b o len room sz h1 hn eJ h2 h3=>
     rw[h1] at hp;cases hp;let⟨cQ,hl,cC,_⟩:=aF.rd;let⟨us,u1,u2⟩:=(cQ.drop off).take (k*P.cellsOf e)
     have ao:b<w.heap.size:=by
      cases aF with
      |cells _ _ _ _ _ _ c hb=>exact(Array.getElem?_eq_some_iff.1 hb).1
     exact .sl x.1 k b (o+off) cap us (r8 b rfl) (ET b) ao hn eJ (λj hj=>u1 j (by rw[<- C];exact hj)) λj d hd=>J j d _ hd λd0 M=>u2 j d0 M
   .cases h
  |rp i off=>
   simp only[dQ] at h;split at h
   .rename_i cs e hm;simp only[ej,dp] at h;obtain⟨x,hx,rfl,rfl⟩:=h;let⟨p,hp,aF,r8⟩:=look (mem_cons_self ..) hm;let⟨C,J⟩:=many (ys:=x.1) (r':=x.2) hx (λi hi=>mem_cons_of_mem _ hi);cases hv with
    |xH _ _ _ h1 _=>
     rw[h1] at hp;cases hp;exact absurd rfl aF.live
    |rp _ _ b o len room sz h1=>
     rw[h1] at hp;cases hp;let⟨cQ,hl,cC,_⟩:=aF.rd;let⟨us,u1,u2⟩:=cQ.drop off
     have ao:b<w.heap.size:=by
      cases aF with
      |cells _ _ _ _ _ _ c hb=>exact(Array.getElem?_eq_some_iff.1 hb).1
     exact .pt x.1 b (o+off) us (r8 b rfl) (ET b) ao (λj hj=>u1 j (by rw[<- C];exact hj)) λj d hd=>J j d _ hd λd0 M=>u2 j d0 M
   .cases h
  |dw c d=>
   cases hv with
   |dw _ _ _ h1 h2=>
   cases c with
   |true=>
    simp only[dQ,ej,dp] at h;obtain⟨x,hx,rfl,rfl⟩:=h;exact .dw true _ v (λ_=>IL (r:=x.2) hx hl (h1 rfl)) oS
   |false=>simp only[dQ,bg,dp] at h;obtain⟨rfl,_⟩:=h;exact .dw false _ v oS h2
  |agg cs=>
   simp only[dQ,ej,dp] at h;obtain⟨x,hx,rfl,rfl⟩:=h;obtain⟨vs,rfl,wj,hh⟩:=hv.wK;let⟨C,J⟩:=many (ys:=x.1) (r':=x.2) hx (λ_ h=>h);exact .agg _ vs (by rw[C];exact wj) λk d u hd hu=>J k d u hd λd0 M=>hh k d0 u M hu
  |bu cs=>
   simp only[dQ,ej,dp] at h;obtain⟨x,hx,rfl,rfl⟩:=h;obtain⟨vs,rfl,wj,hh⟩:=hv.Fq;let⟨C,J⟩:=many (ys:=x.1) (r':=x.2) hx (λ_ h=>h);exact .bu _ vs (by rw[C];exact wj) λk d u hd hu=>J k d u hd λd0 M=>hh k d0 u M hu
  |sl cs k=>
   simp only[dQ,ej,dp] at h;obtain⟨x,hx,rfl,rfl⟩:=h;let⟨C,J⟩:=many (ys:=x.1) (r':=x.2) hx (λ_ h=>h);cases hv with
   |ln a cap=>
    have:x.1=[]:=eq_nil_of_length_eq_zero (s0 C);rw[this];exact .ln a cap
   |sl _ _ b o cap us hf hb ao sZ eJ hc hh=>
    exact .sl _ k b o cap us hf (ET b) ao sZ eJ (λj hj=>hc j (by rw[<- C];exact hj)) λj d hd=>J j d _ hd λd0 M=>hh j d0 M
  |pt cs=>
   simp only[dQ,ej,dp] at h;obtain⟨x,hx,rfl,rfl⟩:=h;let⟨C,J⟩:=many (ys:=x.1) (r':=x.2) hx (λ_ h=>h);cases hv with
   |pt _ b o us hf hb ao hc hh=>
    exact .pt _ b o us hf (ET b) ao (λj hj=>hc j (by rw[<- C];exact hj)) λj d hd=>J j d _ hd λd0 M=>hh j d0 M
  |fn f fs cs=>
   simp only[dQ] at h;cases hx:lj (dQ P m n) fs with
   |none=>rw[hx] at h;cases h
   |some x=>
    rw[hx] at h;simp only[ej,dp] at h;obtain⟨y,hy,rfl,rfl⟩:=h;let⟨C,J⟩:=many (ys:=x.1) (r':=x.2) hx (λ_ h=>mem_append_left _ h);let⟨k1,k2⟩:=many (ys:=y.1) (r':=y.2) hy (λ_ h=>mem_append_right _ h);cases hv with
    |fn _ _ _ us vs JW wj h1 h2=>
     exact .fn f _ _ us vs (by rw[C];exact JW) (by rw[k1];exact wj) (λk d u hd hu=>J k d u hd λd0 M=>h1 k d0 u M hu) λk d u hd hu=>k2 k d u hd λd0 M=>h2 k d0 u M hu
  |s v=>simp only[dQ,bg,dp] at h;obtain⟨rfl,_⟩:=h;obtain⟨rfl,h⟩:=hv.du;exact .s _ h
  |ub=>simp only[dQ,bg,dp] at h;obtain⟨rfl,_⟩:=h;obtain⟨b,rfl⟩:=hv.IB;exact .ub b
  |u=>simp only[dQ,bg,dp] at h;obtain⟨rfl,_⟩:=h;exact .u v
  |z=>simp only[dQ,bg,dp] at h;obtain⟨rfl,_⟩:=h;rw[hv.BX];exact .z
def PN{n:Nat}:∀ {aS bs:List D} {r:List Nat},lj (dQ P m n) aS=some (bs,r)->(∀ i∈r,i∈bR)->nP P bR (cv m) aS bs
 |[],bs,r,h,_=>by
  simp[lj,bg,dp] at h;obtain⟨rfl,_⟩:=h;trivial
 |a::aS,bs,r,h,hr=>by
  simp[lj] at h;split at h
  .cases h
  .rename_i y hy;split at h
   .cases h
   .rename_i ys C;simp[bg,dp] at h;obtain⟨rfl,rfl⟩:=h;exact⟨λF β w v hl hv=>IL (r:=y.2) hy (λi hi=>hl i (hr i (mem_append_left _ hi))) hv,PN (r:=ys.2) C λi hi=>hr i (mem_append_right _ hi)⟩
def Yb:cv .leaf=λ_=>none:=by funext j;exact CL _
def alo{f:FuncId}{d r:D}{n:Nat}(hz:ZC P [] f args (cv .leaf) 0 (.inl d) (cv m') nx')(ht:∀ a∈args,Tr a)(hd:dQ P m' n d=some (r,bR)):aH P f args r:=
 ⟨hz.1,ht,λF w vs C hR=>(hz.2 F j9 w vs QZ (Yb▸K6 C) (λ_ _=>rfl) hR).mono λe w' ⟨β',⟨v,he,hv⟩,hm,hn,cx,_⟩=>
  ⟨v,he,IL hd (λi hi r hr=>by let⟨p,hp,aF⟩:=hm.row i r hr;exact⟨p,hp,aF,λb hb=>hm.nf i p b hp hb⟩) hv,PE cx⟩⟩
variable{x:Ctx}{ev:Ev}
def Sr(P:Program)(f:FuncId)(args:List D):D ⊕ (List D×Nat×TypeId)->Prop
 | .inl r=>aH P f args r
 | .inr (es,k,t)=>pL P f args es k t
def alp{f:FuncId}{M:D ⊕ List PanicEntry}(h:Tj P (some (M,m',nx'))=some y)(hz:ZC P [] f args (cv .leaf) 0 M (cv m') nx')(ht:∀ a∈args,Tr a):Sr P f args y:=by
 cases M with
 |inr ch=>cases h
 |inl d=>
  have deep:∀ {d},Nk P m' d=some y->ZC P [] f args (cv .leaf) 0 (.inl d) (cv m') nx'->Sr P f args y:=λ{d} hd hz=>by
   unfold Nk at hd;split at hd
   .rename_i r bR dN;cases hd;exact alo hz ht dN
   .cases hd
  unfold Tj at h;split at h
  .rename_i i k m2 iK J;cases J;split at h
   .rename_i es t X;cases C:es.all (uK depth) with
    |false=>rw[C] at h;exact deep h hz
    |true=>
     rw[C] at h;cases h;exact Y5 hz.1 ht (λa ha=>wT (bK.1 C a ha)) λF w vs U hR=>(hz.2 F j9 w vs QZ (Yb▸K6 U) (λ_ _=>rfl) hR).mono λe w' ⟨β',⟨v,he,hv⟩,hm,hn,cx,_⟩=>⟨v,i,_,β',he,X,hv,hm,cx⟩
   .cases h
  .rename_i J;cases J;exact deep h hz
  .cases h
def Q4(hx:BJ P x)(C:Gz P ev){f:FuncId}(h:Ak P x ev f args=some y)(ht:∀ a∈args,Tr a):Sr P f args y:=by
 unfold Ak at h;cases hr:B0 P x ev [] f args .leaf 0 with
 |none=>rw[hr] at h;cases h
 |some z=>
  let⟨J,m',nx'⟩:=z;rw[hr] at h;exact alp h (RB hx.mix hx.nR C hr) ht
def Zi:∀ {n:Nat} {d:D},Gd n d=true->SM d
 |0,d,h=>by cases h
 |n+1,d,h=>λF F' β β' w w' v hv=>by
  have many:∀ {cs:List D},cs.all (Gd n)=true->∀ {vs:List Value},(∀ (k:Nat) (d:D) (u:Value),cs[k]? =some d->vs[k]? =some u->R F β w d u)->∀ (k:Nat) (d:D) (u:Value),cs[k]? =some d->vs[k]? =some u->R F' β' w' d u:=
   λhc _ hh k d u hd hu=>Zi (bK.1 hc d (bD hd)) F F' β β' w w' u (hh k d u hd hu)
  unfold Gd at h;split at h
  .rw[hv.du.1];exact .s _ hv.du.2
  .obtain⟨b,rfl⟩:=hv.IB;exact .ub b
  .rw[hv.BX];exact .z
  .obtain⟨vs,rfl,hl,hh⟩:=hv.wK;exact .agg _ vs hl (many h hh)
  .obtain⟨vs,rfl,hl,hh⟩:=hv.Fq;exact .bu _ vs hl (many h hh)
  .cases h
def Zj{hd:Hd}(hx:BJ P x)(X:Gz P ev):Fu P hd (Nn P x ev hd):=λf args m nx y m' nx' h=>by
 unfold Nn at h;split at h
 .rename_i r hr;cases h;have hp:=hx.known _ _ _ hr;exact⟨hp.1,λF β w vs _ hm C hR=>(XX hm hp hR).mono λe w' ⟨v,h1,h2,J,M⟩=>⟨β,⟨v,h1,h2⟩,J,C,M,bY _,λ_ _ h=>h⟩⟩
 .split at h
  .rename_i r hr;cases h;exact(hx.IJ _ _ _ _ _ _ _ hr).any
  .split at h
   .rename_i r hr;cases h;cases hi:Et f x.deep with
    |false=>rw[hi] at hr;cases hr
    |true=>
    rw[hi] at hr;simp[cond_true] at hr;unfold acI at hr;split at hr
    rotate_left
    .cases hr
    rename_i gf bR U;split at hr
    rotate_left
    .cases hr
    rename_i r' hk;cases hn:Gd depth r' with
    |false=>rw[hn] at hr;cases hr
    |true=>
     rw[hn] at hr;cases hr;have hp:=hx.known _ _ _ hk;exact⟨hp.1,λF β w vs _ hm C hR=>(XY hm (PN U λ_ h=>h) (λ_ _ _=>rfl) hp (Zi hn) hR).mono λe w' ⟨v,h1,h2,J,M⟩=>⟨β,⟨v,h1,h2⟩,J,C,M,bY _,λ_ _ h=>h⟩⟩
   .exact RB hx.mix hx.nR X h
def alq(hx:BJ P x)(wu:Gz P ev):Im P (Tk P x ev):=λf args m nx p h o st hg hm hn ha hc=>by
 have M:iI #[] o st true:=CJ hg
 have X:∀ r,aH P f args r->p=⟨r,[],[],0⟩->p.Ok P #[] o st/\∀ i∈p.wr,st.mem i≠none\/(nx<=i/\i<nx+p.new):=λr hr hp=>by
  subst hp;exact⟨Ry M ha hc hr,by simp[cy.wr]⟩
 unfold Tk at h;split at h
 .rename_i r hr;cases h;exact X r (hx.known _ _ _ hr) rfl
 .cases C:args.all (uK depth) with
  |true=>
   rw[C] at h;simp[cond_true] at h;have ht:∀ a∈args,Tr a:=λa ha=>wT (bK.1 C a ha);cases hp:Ak P x ev f args with
   |none=>rw[hp] at h;cases h
   |some y=>
    rw[hp] at h;have h1:=Q4 hx wu hp ht;cases y with
    |inl r=>cases h;exact X r h1 rfl
    |inr y=>
     let⟨es,k,t⟩:=y;cases h;subst hn;exact⟨abu M ha hc h1,by simp[cy.wr]⟩
  |false=>
   rw[C] at h;simp[cond_false] at h;split at h
   .cases h
   .rename_i J bR U;have nQ:nP P bR st.mem args J:=by rw[hm];exact PN U λ_ h=>h
    have snap:∀ r,aH P f J r->Nl bR (some (.inl r))=some p->p.Ok P #[] o st/\∀ i∈p.wr,st.mem i≠none\/(nx<=i/\i<nx+p.new):=λr hr hp=>by
     simp[Nl] at hp;cases hs:r.ld with
     |false=>rw[hs] at hp;cases hp
     |true=>
      rw[hs] at hp;cases hp;exact⟨aap M ha hc nQ hr hs,by simp[cy.wr]⟩
    split at h
    .rename_i r hr;exact snap r (hx.known _ _ _ hr) h
    .cases hp:Ak P x ev f J with
     |none=>rw[hp] at h;cases h
     |some y=>
      rw[hp] at h;cases y with
      |inl r=>exact snap r (Q4 hx wu hp (wI U λx y r' h=>LY h)) h
      |inr y=>cases h
def aoT(hx:BJ P x):∀ n,Gz P (nu P x n):=by
 intro n
 induction n using Nat.strongRecOn with
 |_ n ih=>
 cases n with
 |zero=>intro hd rf c s e s' h;cases h
 |succ n=>
  have hn:=ih n (Nat.lt_succ_self n);intro hd rf c s e s' h F r k β w a gq hh ao hs;replace h:codeF c P x (nu P x n) hd rf s=some (e,s'):=h
  have self:∀ {e0},some (e0,s)=some (e,s')->DB P F rf s.nx β w a e s' e0 a w:=λ{e0} h=>by
   cases h;exact⟨⟨_,β,⟨rfl,rfl⟩,hs,(fW.refl (cG s) β w a).Eb⟩,λ_=>rfl⟩
  have andThen:∀ {U c2:Code} {Q:Exit->Act->World->Prop},ke a.tmps.size U=true->No (nu P x n) hd rf c2 (nu P x n hd rf U s)=some (e,s')->(∀ J C a1 M X,nu P x n hd rf U s=some (J,C)->dt P F (cG C) X M a1->rU s.nx β w a (cG C) X M a1->(rf=false->a1.defers=a.defers)->
   (J=.normal->nu P x n hd rf c2 C=some (e,s')->Q .normal a1 M)/\(J≠ .normal->J=e->C=s'->Q J a1 M))->U.wpIn (Fe r) k P Q a w:=λ{U c2 Q} hl ht hk=>by
   cases h1:nu P x n hd rf U s with
   |none=>rw[h1] at ht;cases ht
   |some es=>
    let⟨J,C⟩:=es;rw[h1] at ht;refine wpIn_mono (hn hd rf U s J C h1 F r k β w a gq hh hl hs) λe2 a2 w2 hp=>?_;obtain⟨⟨_,β2,⟨rfl,rfl⟩,xT,uL⟩,jU⟩:=hp;have:=hk e2 C a2 w2 β2 h1 xT uL jU;cases e2 with
    |normal=>exact this.1 rfl ht
    |_=>cases ht;exact this.2 oS rfl rfl
  cases c with
  |skip=>exact wpIn_skip (self h)
  |ret=>exact wpIn_ret (self h)
  |exit id=>exact wpIn_exit (self h)
  |label l=>exact wpIn_label (self h)
  |region id ops dr=>
   have hl:tZ a.tmps.size ops=true:=ao;refine wpIn_mono (Q:=fq P F s.nx β w a (QE e s')) ?_ λJ a1 M ⟨st',β',h1,h2,h3⟩=>⟨⟨st',β',h1,h2,h3.Eb⟩,λ_=>h3.defers⟩
   cases dr with
   |false=>
    exact wpIn_region (alk (Zj hx hn) hh hl h hs (fW.refl (cG s) β w a))
   |true=>exact alm hx.mix (Zj hx hn) (alq hx hn) hl h hh hs
  |seq U c2=>
   simp[ke,aJ] at ao;refine wpIn_seq (andThen ao.1 h λJ C a1 M X _ jR uN dN=>⟨λhe h2=>?_,λhe h2 h3=>?_⟩)
   .refine wpIn_mono (hn hd rf c2 C e s' h2 F r k X M a1 gq (hh.step uN.step) (by rw[uN.size];exact ao.2) jR) λe2 a2 w2 hp=>DB.trans uN dN hp
   .subst h2;subst h3;have hq:DB P F rf s.nx β w a J C J a1 M:=⟨⟨_,X,⟨rfl,rfl⟩,jR,uN⟩,dN⟩
    cases J with
    |normal=>exact absurd rfl he
    |_=>exact hq
  |loop b=>
   apply WJ (λj a1 M=>∃ C X,j<=n+1/\nu P x j hd rf (.loop b) C=some (e,s')/\dt P F (cG C) X M a1/\rU s.nx β w a (cG C) X M a1/\(rf=false->a1.defers=a.defers)) (j₀:=n+1) ⟨s,β,bY _,h,hs,(fW.refl (cG s) β w a).Eb,λ_=>rfl⟩;rintro j a1 M ⟨C,X,hj,h1,jR,uN,dN⟩;cases j with
   |zero=>cases h1
   |succ j=>
    replace h1:No (nu P x j) hd rf (.loop b) (nu P x j hd rf b C)=some (e,s'):=h1;cases h2:nu P x j hd rf b C with
    |none=>rw[h2] at h1;cases h1
    |some es=>
     let⟨e2,s2⟩:=es;rw[h2] at h1;refine wpIn_mono (ih j oG hd rf b C e2 s2 h2 F r k X M a1 gq (hh.step uN.step) (by rw[uN.size];exact ao) jR) λe3 a3 w3 hp=>?_;obtain⟨⟨_,β3,⟨rfl,rfl⟩,wk,jS⟩,OM⟩:=hp;cases e3 with
     |normal=>exact⟨j,Nat.lt_succ_self j,s2,β3,oG,h1,wk,uN.trans jS,λe=>(OM e).trans (dN e)⟩
     |_=>cases h1;exact⟨⟨_,β3,⟨rfl,rfl⟩,wk,uN.trans jS⟩,λe=>(OM e).trans (dN e)⟩
  |cond c U c2=>
   simp[ke,aJ] at ao
   replace h:(match kq s.env c with
    | .s (.bool true)=>nu P x n hd rf U s
    | .s (.bool false)=>nu P x n hd rf c2 s
    |_=>none)=some (e,s'):=h
   have hR:R F β w (kq s.env c) (a.eval c):=by rw[H9];exact hs.e.un.opd c
   split at h
   .rename_i hv;rw[hv] at hR;exact wpIn_cond_split hR.du.1 (λ_=>hn hd rf U s e s' h F r k β w a gq hh ao.1 hs) λh=>by cases h
   .rename_i hv;rw[hv] at hR;exact wpIn_cond_split hR.du.1 (λh=>by cases h) λ_=>hn hd rf c2 s e s' h F r k β w a gq hh ao.2 hs
   .cases h
  |scope b=>
   replace h:adL (nu P x n hd rf b s)=some (e,s'):=h;cases h1:nu P x n hd rf b s with
   |none=>rw[h1] at h;cases h
   |some es=>
    let⟨J,C⟩:=es;rw[h1] at h;refine Xn (wpIn_mono (hn hd rf b s J C h1 F r k β w a gq hh ao hs) λe2 a2 w2 hp=>?_);obtain⟨⟨_,β2,⟨rfl,rfl⟩,xT,uL⟩,jU⟩:=hp;cases e2 with
    |goto l=>cases h
    |_=>cases h;exact⟨⟨_,β2,⟨rfl,rfl⟩,xT,uL⟩,jU⟩
  |block id b=>
   replace h:Tl id (nu P x n hd rf b s)=some (e,s'):=h;cases h1:nu P x n hd rf b s with
   |none=>rw[h1] at h;cases h
   |some es=>
    let⟨J,C⟩:=es;rw[h1] at h;refine wpIn_block (wpIn_mono (hn hd rf b s J C h1 F r k β w a gq hh ao hs) λe2 a2 w2 hp=>?_);obtain⟨⟨_,β2,⟨rfl,rfl⟩,xT,uL⟩,jU⟩:=hp;cases e2 with
    |exit i=>
     simp[Tl] at h;simp[Exit.inBlock];by_cases hi:i=id
     .rw[bi hi];subst hi;rw[Nat.beq_refl] at h;cases h;exact⟨⟨_,β2,⟨rfl,rfl⟩,xT,uL⟩,jU⟩
     .rw[ai hi];have:Nat.beq i id=false:=by cases hb:Nat.beq i id with|false=>rfl|true=>exact absurd (Nat.eq_of_beq_eq_true hb) hi
      rw[this] at h;cases h;exact⟨⟨_,β2,⟨rfl,rfl⟩,xT,uL⟩,jU⟩
    |_=>cases h;exact⟨⟨_,β2,⟨rfl,rfl⟩,xT,uL⟩,jU⟩
  |rangeFunc g ps assign body=>
   refine wpIn_mono (aln hx hn h gq hh ao hs) λ_ _ _ hp=>⟨hp,λe=>?_⟩
   subst e;cases h
  |_=>cases h
def rk(hx:BJ P x)(n:Nat){f:FuncId}{r:D}(h:Ak P x (nu P x n) f args=some (.inl r))(ht:args.all (uK depth)=true):aH P f args r:=
 Q4 hx (aoT hx n) h λa ha=>wT (bK.1 ht a ha)
end
end
section
variable{P:Program}{ops:Array Oper}{Q:Exit->St->Prop}{F:Nat->Prop}{N₀:Nat}{β₀:aZ}{w₀:World}{a₀:Act}
end
section
variable{P:Program}{F:Nat->Prop}{ops:Array Oper}{β:aZ}{w:World}{a:Act}{c c':dC}
variable{Gc:wV}{I1:uc}
end
section
variable{P:Program}{F:Nat->Prop}{β:aZ}{w:World}{a:Act}{x:Ctx}{ev:Ev}
end
def Vi(P:Program)(f:Nat):Bool:=match P.funcs[f]? with
 |some fn=>match fn.body with
  |some c=>ke fn.ntmps c&&pD P f
  |none=>false
 |none=>false
def acO:Option Func->Option (Func×Code)
 |some fn=>match fn.body with
  |some c=>some (fn,c)
  |none=>none
 |none=>none
def NO(P:Program)(ids:List Nat)(f:FuncId):Option (Func×Code):=bif Et f ids then acO P.funcs[f]? else none
def aaz{f:Nat}:∀ {l:List Nat},Et f l=true->f∈l
 |[],h=>by cases h
 |g::l,h=>by
  simp only[Et] at h;cases hg:Nat.beq g f with
  |true=>rw[Nat.eq_of_beq_eq_true hg];exact mem_cons_self ..
  |false=>rw[hg] at h;exact mem_cons_of_mem _ (aaz h)
def aaA{P:Program}{ids:List Nat}(h:ids.all (Vi P)=true):Np P (NO P ids):=λf fn c hf=>by
 unfold NO at hf;cases hi:Et f ids with
 |false=>rw[hi] at hf;cases hf
 |true=>
  rw[hi] at hf;have hb:=bK.1 h f (aaz hi);simp[cond_true,acO] at hf;unfold Vi at hb;split at hf
  .rename_i J C;split at hf
   .rename_i c' hc;cases hf;rw[C] at hb;simp[hc,aJ] at hb;exact⟨C,hc,hb.1,hb.2⟩
   .cases hf
  .cases hf
def Uj:Value->Value->Bool
 | .int k a,.int k' b=>k9 k k'&&Er a b
 | .bool a,.bool b=>bif a then b else !b
 | .string a,.string b=>Hg a.data.toList b.data.toList
 | .pointer none,.pointer none=>true
 | .nilFunc,.nilFunc=>true
 | .nilIface,.nilIface=>true
 | .map none,.map none=>true
 |_,_=>false
def Ax(g:D->D->Bool):List D->List D->Bool
 |[],[]=>true
 |a::xs,b::bs=>g a b&&Ax g xs bs
 |_,_=>false
def B2:Nat->D->D->Bool
 |0,_,_=>false
 |n+1,a,b=>match a,b with
  | .s x,.s y=>Uj x y
  | .z,.z=>true
  | .agg xs,.agg ys=>Ax (B2 n) xs ys
  | .bu xs,.bu ys=>Ax (B2 n) xs ys
  | .pt xs,.pt ys=>Ax (B2 n) xs ys
  | .sl xs k,.sl ys l=>Nat.beq k l&&Ax (B2 n) xs ys
  |_,_=>false
def MW:List (Nat×List D×D)->FuncId->List D->Option D
 |[],_,_=>none
 |(g,aS,r)::l,f,bs=>bif Nat.beq g f&&Ax (B2 8) aS bs then some r else MW l f bs
def anA{a b:Value}(h:Uj a b=true):a=b:=by
 unfold Uj at h;split at h
 .simp[aJ,abK,beq_iff_eq] at h;rw[Fk _ _ h.1,h.2]
 .rename_i a b;cases a<;>cases b<;>first|rfl|cases h
 .rename_i a b;rw[MV,beq_iff_eq] at h;have:a.data=b.data:=Array.toList_inj.1 h;cases a;cases b;cases this;rfl
 all_goals first|rfl|cases h
def RC{g:D->D->Bool}(hg:∀ a b,g a b=true->a=b):∀ {xs ys:List D},Ax g xs ys=true->xs=ys
 |[],[],_=>rfl
 |a::xs,b::ys,h=>by
  simp[Ax,aJ] at h;rw[hg a b h.1,RC hg h.2]
 |[],_::_,h=>by cases h
 |_::_,[],h=>by cases h
def aaB:∀ (n:Nat) (a b:D),B2 n a b=true->a=b
 |0,_,_,h=>by cases h
 |n+1,a,b,h=>by
  have ih:=λ{xs ys:List D}=>RC (aaB n) (xs:=xs) (ys:=ys);simp[B2] at h;split at h
  .rw[anA h]
  .rfl
  .rw[ih h]
  .rw[ih h]
  .rw[ih h]
  .simp only[aJ] at h;rw[Nat.eq_of_beq_eq_true h.1,ih h.2]
  .cases h
def Yc{P:Program}:∀ {l:List (Nat×List D×D)},(∀ e∈l,aH P e.1 e.2.1 e.2.2)->∀ f args r,MW l f args=some r->aH P f args r
 |[],_,f,args,r,h=>by cases h
 |(g,aS,q)::l,hl,f,args,r,h=>by
  simp[MW] at h;cases hc:Nat.beq g f&&Ax (B2 8) aS args with
  |true=>
   rw[hc] at h;simp only[aJ] at hc;cases h;rw[<- Nat.eq_of_beq_eq_true hc.1, <- RC (aaB 8) hc.2];exact hl _ (mem_cons_self ..)
  |false=>
   rw[hc] at h;exact Yc (λe he=>hl e (mem_cons_of_mem _ he)) f args r h
end Go.Abs
end
