/- Part 5. -/
import Derived.Test.YtnagfmlifobdiaaGreatDoorShareShapes4
import Derived.IntWalk
import Derived.Lib.Strings
import Derived.RecoverIn
set_option linter.all false
namespace Go.Abs
theorem Lv:∀ (f i j:Nat),i+1<2 ^ f->j+1<2 ^ f->wu f i=wu f j->i=j
 |0,i,j,hi,_,_=>by simp at hi
 |f+1,i,j,hi,hj,h=>by
  have h2:2 ^ (f+1)=2*2 ^ f:=by rw[Nat.pow_succ];omega
  simp only[wu,Bool.cond_eq_ite,Nat.beq_eq] at h;by_cases J:i=0<;>by_cases M:j=0
  .omega
  .rw[if_pos J,if_neg M] at h;split at h<;>cases h
  .rw[if_neg J,if_pos M] at h;split at h<;>cases h
  .rw[if_neg J,if_neg M] at h;by_cases i1:i % 2=1<;>by_cases C:j % 2=1
   .rw[if_pos i1,if_pos C] at h;have:=Lv f (i / 2) (j / 2) oG oG (List.cons.inj h).2;omega
   .rw[if_pos i1,if_neg C] at h;cases h
   .rw[if_neg i1,if_pos C] at h;cases h
   .rw[if_neg i1,if_neg C] at h;have:=Lv f (i / 2 - 1) (j / 2 - 1) oG oG (List.cons.inj h).2;omega
theorem zu{α:Type}:∀ p:List Bool,uX p (T.leaf:T α)=none
 |[]=>rfl
 |_::_=>rfl
theorem Sr{α:Type}(v:Option α):∀ (p q:List Bool) (t:T α),uX q (Cr v p t)=if q=p then v else uX q t
 |[],[],t=>by cases t<;>rfl
 |[],b::q,t=>by
  cases t with
  |leaf=>cases b<;>simp only[reduceCtorEq,if_false]<;>exact zu q
  |node u l r=>rfl
 |b::p,[],t=>by cases t<;>cases b<;>rfl
 |b::p,c::q,t=>by
  have ih:=fun t=>Sr v p q t;cases t with
  |leaf=>
   cases b<;>cases c
   .show uX q (Cr v p .leaf)=_;rw[ih,zu];simp;rfl
   .show uX q .leaf=_;rw[zu];simp;rfl
   .show uX q .leaf=_;rw[zu];simp;rfl
   .show uX q (Cr v p .leaf)=_;rw[ih,zu];simp;rfl
  |node u l r=>
   cases b<;>cases c
   .show uX q (Cr v p r)=_;rw[ih];simp;rfl
   .simp;rfl
   .simp;rfl
   .show uX q (Cr v p l)=_;rw[ih];simp;rfl
theorem G3:∀ (f i:Nat),(i+1<2 ^ f->(wu f i).length<f)/\(2 ^ f<=i+1->(wu f i).length=f)
 |0,i=>⟨fun h=>by simp at h,fun _=>rfl⟩
 |f+1,i=>by
  have h2:2 ^ (f+1)=2*2 ^ f:=by rw[Nat.pow_succ];omega
  have hp:0<2 ^ f:=Nat.two_pow_pos f;simp only[wu,Bool.cond_eq_ite,Nat.beq_eq];by_cases C:i=0
  .rw[if_pos C];exact⟨fun _=>by simp,fun h=>by omega⟩
  .rw[if_neg C];split
   .obtain⟨a,b⟩:=G3 f (i / 2);exact⟨fun h=>by have:=a oG;simp;omega,fun h=>by have:=b oG;simp;omega⟩
   .obtain⟨a,b⟩:=G3 f (i / 2 - 1);exact⟨fun h=>by have:=a oG;simp;omega,fun h=>by have:=b oG;simp;omega⟩
theorem T.Mr{α:Type}{t C:T α}{i:Nat}{v:Option α}(h:t.put i v=some C)(j:Nat):C.get j=if j=i then v else t.get j:=by
 unfold T.put at h;cases hb:Nat.blt i 1000000 with
 |false=>rw[hb] at h;cases h
 |true=>
  rw[hb] at h;simp only[cond_true,aV] at h;subst h;have hi:i<1000000:=by simpa using hb
  unfold T.get;rw[Sr];by_cases e:j=i
  .subst e;simp
  .have J:bits j≠bits i:=fun h=>by
    have hl:(bits i).length<20:=(G3 20 i).1 oG;rcases Nat.lt_or_ge (j+1) (2 ^ 20) with h1|h1
    .exact e (Lv 20 j i h1 oG h)
    .have:(bits j).length=20:=(G3 20 j).2 h1;rw[h] at this;omega
   rw[if_neg e,if_neg J]
theorem oF:∀ (n:Nat) (l:List D),lE n l=true↔n<=l.length
 |0,l=>by show true=true↔_;simp
 |n+1,[]=>by
  show false=true↔_;simp
 |n+1,d::l=>by
  show lE n l=true↔_;rw[oF n l];simp
theorem xO:∀ (n:Nat) (l:List D),uZ n l=true↔l.length=n
 |0,[]=>by show true=true↔_;simp
 |0,d::l=>by show false=true↔_;simp
 |n+1,[]=>by show false=true↔_;simp
 |n+1,d::l=>by
  show uZ n l=true↔_;rw[xO n l];simp
theorem Tv:∀ (n:Nat) (l:List D),NO n l=l.drop n
 |0,l=>rfl
 |n+1,[]=>rfl
 |n+1,d::l=>by show NO n l=_;rw[Tv n l];rfl
theorem qq(l:List D)(n:Nat):pO l n=l.drop n:=Tv n l
theorem xJ:∀ (n:Nat) (l:List D),zZ n l=l.take n
 |0,l=>by show []=_;simp
 |n+1,[]=>rfl
 |n+1,d::l=>by show d::zZ n l=_;rw[xJ n l];rfl
theorem Bo(P:Program)(t:TypeId)(cs:List D):yj P t cs=kH P t cs:=by
 unfold yj kH;rw[xJ];cases bI P t with
 |true=>rfl
 |false=>cases cs<;>rfl
theorem IC(a b:Int):qe a b=decide (a<b):=by
 rw[Bool.eq_iff_iff];cases a<;>cases b<;>simp[qe]<;>omega
theorem VR(a b:Int):AM a b=(a==b):=by
 rw[Bool.eq_iff_iff];cases a<;>cases b<;>simp[AM]<;>omega
theorem Bp(k k':IntKind)(h:mD k k'=true):k=k':=by cases k<;>cases k'<;>first|rfl|cases h
theorem aej(k:IntKind)(n:Int)(h:J6 k n=true):k.wrap n=n:=by
 unfold J6 at h;split at h
 .exact IntWalk.i64_in _ (by simp at h ⊢;omega)
 .exact IntWalk.i64_in _ (by simp at h;omega)
 .exact IntWalk.u8_in _ (by simp at h ⊢;omega)
 .exact IntWalk.u64_in _ (by simp at h ⊢;omega)
 .cases h
theorem Tw(k:IntKind)(n:Int):z1 k n=k.wrap n:=by
 unfold z1;cases h:J6 k n with
 |true=>exact(aej k n h).symm
 |false=>rfl
theorem ID:∀ (a b:List UInt8),Dc a b=(a==b)
 |[],[]=>rfl
 |[],_::_=>rfl
 |_::_,[]=>rfl
 |a::aS,b::bs=>by
  show(Nat.beq a.toNat b.toNat&&Dc aS bs)=(a==b&&aS==bs)
  rw[ID aS bs];congr 1;rw[Bool.eq_iff_iff];simp[UInt8.toNat_inj]
theorem M':∀ (a b:List UInt8),F1 a b=Op.bytesLess a b
 |[],[]=>rfl
 |_::_,[]=>rfl
 |[],_::_=>rfl
 |a::aS,b::bs=>by
  show(Nat.blt a.toNat b.toNat||(Nat.beq a.toNat b.toNat&&F1 aS bs))=(decide (a<b)||(a==b&&Op.bytesLess aS bs))
  rw[M' aS bs];congr 1
  .rw[Bool.eq_iff_iff];simp[UInt8.lt_iff_toNat_lt]
  .congr 1;rw[Bool.eq_iff_iff];simp[UInt8.toNat_inj]
theorem L1:∀ (i:Nat) (l:List Nat),Cd i l=true↔i∉l
 |i,[]=>by simp[Cd]
 |i,j::l=>by
  simp only[Cd,aB,Bool.not_eq_true',L1 i l,List.mem_cons,not_or];rw[<- Bool.not_eq_true,Nat.beq_eq];exact⟨fun h=>⟨fun e=>h.1 e.symm,h.2⟩,fun h=>⟨fun e=>h.1 e.symm,h.2⟩⟩
theorem DP(P:Program)(t:TypeId):∀ es:List (Value×D),zI P t es=es.all fun e=>dY P t e.1
 |[]=>rfl
 |e::es=>by simp[zI,DP P t es]
theorem Uz:∀ (l:List D) (n:Nat) (d:D),OQ l n=some d->n<l.length/\l.getD n .u=d
 |[],n,d,h=>by cases n<;>cases h
 |x::l,0,d,h=>by cases h;simp
 |x::l,n+1,d,h=>by
  obtain⟨h1,h2⟩:=Uz l n d h;exact⟨by simp;omega,by simpa using h2⟩
theorem parts_eq(ρ:Operand->D):∀ l:List (Nat×Operand),parts ρ l=l.map fun q=>(q.1,ρ q.2)
 |[]=>rfl
 |q::l=>by simp[parts,parts_eq ρ l]
theorem Hj{place:Nat->Option (Nat×Nat)}:∀ (l:List (Nat×D)) (cells cs:List D),Cb place cells l=some cs->kJ place cells l=some cs
 |[],cells,cs,h=>h
 |(i,d)::rest,cells,cs,h=>by
  simp only[Cb] at h;simp only[kJ];cases hp:place i with
  |none=>rw[hp] at h;cases h
  |some q=>
   obtain⟨off,size⟩:=q;rw[hp] at h;simp only at h ⊢;cases hb:(uZ size d.cells&&lE (off+size) cells)&&d.cells.all D.one with
   |false=>rw[hb] at h;cases h
   |true=>
    rw[hb] at h;simp only[aB,xO,oF] at hb;rw[if_pos ⟨hb.1.1,hb.1.2,hb.2⟩];exact Hj rest _ cs h
theorem GO:∀ {ds:List D} {l:List Int},Cc ds=some l->ds=la l
 |[],l,h=>by cases h;rfl
 |d::ds,l,h=>by
  unfold Cc at h;split at h
  .rename_i hd;cases hd
  .rename_i n J hd;cases hd;split at h
   .rename_i C h';cases h;rw[GO h'];rfl
   .cases h
  .cases h
theorem Hk{P:Program}{t:TypeId}(h:Dd P t=true):p0 P t:=by
 unfold Dd at h;simp only[aB,Nat.beq_eq] at h;obtain⟨⟨h1,h2⟩,C⟩:=h;refine⟨h1,?_,C⟩;split at h2
 .assumption
 .cases h2
theorem Bg(b:ByteArray):b.data.toList.length=b.size:=by rw[Array.length_toList];rfl
inductive eJ(P:Program)(o:Op)(ρ:Operand->D)(m:Mem)(nx:Nat):bL->Prop
 |a (e:dJ) (h:aW P o ρ m nx=some e) (hp:e.pre):eJ P o ρ m nx ⟨e.val,e.a7,e.rd,e.new⟩
 |n (e:dJ) (h:du P ρ m nx o e):eJ P o ρ m nx ⟨e.val,e.a7,e.rd,e.new⟩
noncomputable def bE(t:T Row):Mem:=fun i=>t.get i
section
variable{P:Program}{o:Op}{ρ:Operand->D}{m:T Row}{nx:Nat}{p:bL}
theorem fq{b:Bool}{d:D}(h:gI b d=some p):b=true/\p=⟨d,[],[],0⟩:=by
 cases b with
 |true=>exact⟨rfl,(Option.some.inj h).symm⟩
 |false=>cases h
theorem qt{b:Bool}{d:D}{i:Nat}(h:qd b d i=some p):b=true/\p=⟨d,[],[i],0⟩:=by
 cases b with
 |true=>exact⟨rfl,(Option.some.inj h).symm⟩
 |false=>cases h
theorem vG{b:Bool}{d:D}{n:Nat}{r:Row}{rd:List Nat}(h:uY b n d r rd=some p):b=true/\p=⟨d,[(n,some r)],rd,1⟩:=by
 cases b with
 |true=>exact⟨rfl,(Option.some.inj h).symm⟩
 |false=>cases h
theorem D2{b:Bool}{i:Nat}{r:Row}(h:Db b i r=some p):b=true/\p=⟨.bd [],[(i,some r)],[i],0⟩:=by
 cases b with
 |true=>exact⟨rfl,(Option.some.inj h).symm⟩
 |false=>cases h
theorem zw{α:Type _}{b:Bool}{x e:α}(h:(bif b then some x else none)=some e):b=true/\e=x:=by
 cases b with
 |true=>exact⟨rfl,(Option.some.inj h).symm⟩
 |false=>cases h
theorem eJ.of{pre:Prop}{val:D}{a7:List (Nat×Option Row)}{rd:List Nat}{new:Nat}(h:aW P o ρ (bE m) nx=some ⟨pre,val,a7,rd,new⟩)(hp:pre)(he:p=⟨val,a7,rd,new⟩):eJ P o ρ (bE m) nx p:=he▸ .a ⟨pre,val,a7,rd,new⟩ h hp
theorem eJ.nw{e:dJ}(h:du P ρ (bE m) nx o e)(he:p=⟨e.val,e.a7,e.rd,e.new⟩):eJ P o ρ (bE m) nx p:=he▸ .n e h
theorem aek{c a b:Operand}(h:NP c a b P ρ m nx=some p):eJ P (.pick c a b) ρ (bE m) nx p:=by
 unfold NP at h;split at h
 .rename_i hc;split at h
  .rename_i v ha;cases h;refine .of (by simp only[aW,hc,D.core,D.fZ];rfl) ?_ (by simp[ha,D.core,D.fZ]);simp[ha,D.ask,D.core,D.fZ]
  .cases h
 .rename_i hc;split at h
  .rename_i v hb;cases h;refine .of (by simp only[aW,hc,D.core,D.fZ];rfl) ?_ (by simp[hb,D.core,D.fZ]);simp[hb,D.ask,D.core,D.fZ]
  .cases h
 .cases h
theorem acy{t:TypeId}(h:MZ t P ρ m nx=some p):eJ P (.alloc t) ρ (bE m) nx p:=by
 unfold MZ at h;cases hb:Ad t with
 |true=>
  rw[hb] at h;simp only[cond_true] at h;split at h
  .rename_i hz;obtain⟨h1,h2⟩:=vG h;exact .nw (.BN t hb h1 hz) h2
  .cases h
 |false=>
  rw[hb] at h;simp only[cond_false] at h;obtain⟨h1,h2⟩:=vG h;exact .of rfl h1 h2
theorem af7{t:TypeId}{x:Operand}(h:OL t x P ρ m nx=some p):eJ P (.box t x) ρ (bE m) nx p:=by
 unfold OL at h;cases hb:Ad t with
 |true=>
  rw[hb] at h;simp only[cond_true] at h;split at h
  .rename_i d hx;obtain⟨h1,h2⟩:=vG h;simp only[aB,Nat.beq_eq] at h1;exact .nw (.Af t x d hb hx h1.1 h1.2) h2
  .cases h
 |false=>
  rw[hb] at h;simp only[cond_false] at h;obtain⟨h1,h2⟩:=vG h;exact .of rfl h1 h2
theorem acz{t:TypeId}{ps:Array (Nat×Operand)}(h:M1 t ps P ρ m nx=some p):eJ P (.build t ps) ρ (bE m) nx p:=by
 unfold M1 at h
 have agg:∀ {b:Bool} {o:Option (List D)},NQ b o=some p->b=true/\∃ cs,o=some cs/\p=⟨.agg cs,[],[],0⟩:=fun {b o} h=>by
  cases o with
  |none=>cases h
  |some cs=>exact⟨(fq h).1,cs,rfl,(fq h).2⟩
 split at h
 .rename_i fs hu;obtain⟨h1,cs,h2,J⟩:=agg h;simp only[aB] at h1;have C:=Hj _ _ _ h2;rw[parts_eq] at C
  have e:M0 P fs=fun i=>(fs[i]?).map fun f=>(f.offset,P.cellsOf f.type):=by
   funext i;unfold M0;cases fs[i]? <;>rfl
  rw[e] at C;refine .of (by simp only[aW,hu,C,Option.map_some];rfl) ?_ J;exact h1
 .rename_i n e hu;obtain⟨h1,cs,h2,J⟩:=agg h;simp only[aB] at h1;have C:=Hj _ _ _ h2;rw[parts_eq] at C;refine .of (by simp only[aW,hu,C,Option.map_some];rfl) ?_ J;exact h1
 .cases h
theorem aac{t:TypeId}{n:Nat}{ps:Array (Nat×Operand)}(h:KU t n ps P ρ m nx=some p):eJ P (.buildSlice t n ps) ρ (bE m) nx p:=by
 unfold KU WG at h;split at h
 .rename_i cs h2;obtain⟨h1,J⟩:=vG h;simp only[aB,Nat.ble_eq] at h1;have C:=Hj _ _ _ h2;rw[parts_eq] at C;refine .of (by simp only[aW,C,Option.map_some];rfl) ?_ J;exact⟨h1.2,h1.1.2.1,h1.1.1,h1.1.2.2⟩
 .cases h
theorem ael{t:TypeId}{a:Operand}(h:NR t a P ρ m nx=some p):eJ P (.load t a) ρ (bE m) nx p:=by
 unfold NR at h;split at h
 .rename_i cs ha;obtain⟨h1,h2⟩:=fq h;simp only[aB,oF] at h1;rw[Bo] at h2;refine .of (by simp only[aW,ha];rfl) ?_ h2;exact h1
 .rename_i i off ha;split at h
  .rename_i cs e hm;have hm:bE m i=some (.cells cs e):=hm;obtain⟨h1,h2⟩:=qt h;simp only[aB,oF] at h1;rw[Bo,qq] at h2;refine .of (by simp only[aW,ha,hm];rfl) ?_ h2;exact h1
  .rename_i u x T hm;obtain⟨h1,h2⟩:=qt h;simp only[aB,Nat.beq_eq,Bool.not_eq_true'] at h1;obtain⟨rfl,C,J⟩:=h1;exact .nw (.zW t a i u x T ha hm C J) h2
  .cases h
 .cases h
theorem acA{t:TypeId}{a x:Operand}(h:M3 t a x P ρ m nx=some p):eJ P (.store t a x) ρ (bE m) nx p:=by
 unfold M3 at h;split at h
 .rename_i i off ha;split at h
  .rename_i cs e hm;have hm:bE m i=some (.cells cs e):=hm;obtain⟨h1,h2⟩:=D2 h;simp only[aB,oF,xO] at h1;refine .of (by simp only[aW,ha,hm];rfl) ?_ h2;exact⟨h1.1.1,h1.1.2,h1.2.1,h1.2.2⟩
  .rename_i u y T hm;obtain⟨h1,h2⟩:=D2 h;simp only[aB,Nat.beq_eq,Bool.not_eq_true'] at h1;obtain⟨rfl,C,J,M⟩:=h1;exact .nw (.xR t a x i u y T ha hm C J M) h2
  .cases h
 .cases h
theorem aas{x:Operand}(h:Lu x P ρ m nx=some p):eJ P (.nilCheck x) ρ (bE m) nx p:=by
 unfold Lu at h;split at h
 .rename_i cs hx;cases h;refine .of (by simp only[aW,hx];rfl) ?_ rfl;exact trivial
 .rename_i i off hx;split at h
  .rename_i r hm;have hm:bE m i=some r:=hm;cases h;refine .of (by simp only[aW,hx,hm];rfl) ?_ rfl;exact trivial
  .cases h
 .cases h
theorem aem{op:BinOp}{t:TypeId}{d:D}{y:Operand}(h1:y≠ .const (.slice none 0 0))(h2:y≠ .const (.pointer none)):lX P (bE m) op t d y=none:=by
 unfold lX;split
 .exact absurd rfl h1
 .exact absurd rfl h2
 .exact absurd rfl h2
 .rfl
theorem Bw{op:BinOp}{t:TypeId}{e:D}{q:Prop}{x y:Operand}{ty:TypeId}(h1:y≠ .const (.slice none 0 0))(h2:y≠ .const (.pointer none))(h:qO P op t (ρ x) (ρ y)=some (q,e))(hq:q)(hp:p=⟨e,[],[],0⟩):
 eJ P (.binOp op t x y ty) ρ (bE m) nx p:=
 .of (pre:=q) (by simp only[aW,aem h1 h2,h,Option.map_some]) hq hp
theorem nlt(a b:Int):(!decide (b<a))=decide (a<=b):=by
 rw[Bool.eq_iff_iff];simp
theorem af8{op:BinOp}{k k':IntKind}{a b:Int}(h:OM op k k' a b=some p):∃ q v,oY op (.int k a) (.int k' b)=some (q,v)/\q/\p=⟨.s v,[],[],0⟩:=by
 have hs:∀ {c:Bool} {n:Int},sI c k n=some p->c=true/\p=⟨.s (.int k n),[],[],0⟩:=fun h=>fq h;have hb:∀ {c v:Bool},sB c v=some p->c=true/\p=⟨.s (.bool v),[],[],0⟩:=fun h=>fq h;have ne:∀ {c d:Bool},(c&& !d)=true->c=true/\d=false:=fun h=>by simpa using h
 cases op<;>simp only[OM,Tw,IC,VR,nlt] at h
 case shl=>
  obtain⟨h1,rfl⟩:=hs h;exact⟨_,_,rfl,by simpa using h1,rfl⟩
 case shr=>
  obtain⟨h1,rfl⟩:=hs h;exact⟨_,_,rfl,by simpa using h1,rfl⟩
 case quo=>
  obtain⟨h1,rfl⟩:=hs h;obtain⟨h2,C⟩:=ne h1;exact⟨_,_,rfl,⟨Bp _ _ h2,by simpa using C⟩,rfl⟩
 case rem=>
  obtain⟨h1,rfl⟩:=hs h;obtain⟨h2,C⟩:=ne h1;exact⟨_,_,rfl,⟨Bp _ _ h2,by simpa using C⟩,rfl⟩
 all_goals first
  |(obtain⟨h1,rfl⟩:=hs h;exact⟨_,_,rfl,Bp _ _ h1,rfl⟩)
  |(obtain⟨h1,rfl⟩:=hb h;exact⟨_,_,rfl,Bp _ _ h1,rfl⟩)
theorem af9{op:BinOp}{x y:Operand}{t ty:TypeId}{a b:ByteArray}(hx:ρ x=.s (.string a))(hy:ρ y=.s (.string b))(h1:y≠ .const (.slice none 0 0))(h2:y≠ .const (.pointer none))(h:ON op a.data.toList b.data.toList=some p):
 eJ P (.binOp op t x y ty) ρ (bE m) nx p:=by
 have hb:∀ {v:Bool},sB true v=some p->p=⟨.s (.bool v),[],[],0⟩:=fun h=>(fq h).2
 have fin:∀ {v:Bool},oY op (.string a) (.string b)=some (True,.bool v)->p=⟨.s (.bool v),[],[],0⟩->eJ P (.binOp op t x y ty) ρ (bE m) nx p:=fun {v} hv hp=>
  Bw h1 h2 (q:=True) (e:=.s (.bool v)) (by rw[hx,hy];simp only[qO,hv,Option.map_some]) trivial hp
 unfold ON at h;split at h
 .exact fin (by simp only[oY,ByteArray.toList_eq, <- ID]) (hb h)
 .exact fin (by simp only[oY,ByteArray.toList_eq, <- ID]) (hb h)
 .exact fin (by simp only[oY,ByteArray.toList_eq, <- M']) (hb h)
 .exact fin (by simp only[oY,ByteArray.toList_eq, <- M']) (hb h)
 .obtain⟨C,J⟩:=fq h
  have e:(⟨⟨a.data.toList++b.data.toList⟩⟩:ByteArray)=a++b:=by
   apply ByteArray.ext;simp only[ByteArray.data_append];apply Array.ext';simp
  rw[e] at J;simp only[Nat.ble_eq,Bg] at C;exact .nw (.add t ty x y a b hx hy C) J
 .cases h
theorem af'{op:BinOp}{x y:Operand}{t ty:TypeId}(h:OO op t x y P ρ m nx=some p):eJ P (.binOp op t x y ty) ρ (bE m) nx p:=by
 have M:∀ {b:Bool},Jn op=some b->op=if b then .eql else .neq:=fun {b} h=>by
  cases op<;>simp only[Jn,aV,reduceCtorEq] at h<;>subst h<;>rfl
 unfold OO at h;split at h
 ·
   split at h
   .rename_i b hb;have ho:=M hb;unfold WI at h;split at h
    .rename_i hx;obtain⟨h1,h2⟩:=fq h;exact .nw (.Ag b op t ty x ho hx h1) (by rw[h2];cases b<;>rfl)
    .rename_i i off n hx;split at h
     .rename_i cs e hm;obtain⟨h1,h2⟩:=qt h;simp only[aB,Nat.blt_eq] at h1;exact .nw (.Ah b op t ty x i off n cs e ho hx hm h1.2 h1.1) (by rw[h2];cases b<;>rfl)
     .cases h
    .rename_i es n hx;cases b with
     |false=>cases h
     |true=>
      simp only[if_true] at ho;subst ho;obtain⟨h1,h2⟩:=fq h;refine .of (by simp only[aW,lX,hx];rfl) ?_ ?_
      .exact h1
      .exact(by rw[h2];cases n<;>rfl)
    .cases h
   .cases h
 ·
   split at h
   .rename_i b hb;have ho:=M hb;unfold WJ at h;split at h
    .rename_i i off hx;split at h
     .rename_i r hm;have hm:bE m i=some r:=hm;obtain⟨h1,h2⟩:=qt h;cases b with
      |true=>
       simp only[if_true] at ho;subst ho;refine .of (by simp only[aW,lX,hx,hm];rfl) ?_ h2;exact h1
      |false=>
       simp only[Bool.false_eq_true,if_false] at ho;subst ho;refine .of (by simp only[aW,lX,hx,hm];rfl) ?_ h2;exact h1
     .cases h
    .cases h
   .cases h
 .rename_i h1 h2;have h1:y≠ .const (.slice none 0 0):=fun e=>h1 e;have h2:y≠ .const (.pointer none):=fun e=>h2 e;unfold WH at h;split at h
  .rename_i k a k' b hx hy;obtain⟨q,v,C,J,O⟩:=af8 h;exact Bw h1 h2 (by rw[hx,hy];simp only[qO,C,Option.map_some]) J O
  .rename_i a b hx hy;exact af9 hx hy h1 h2 h
  .rename_i a b hx hy;split at h
   .obtain⟨C,J⟩:=fq h;exact Bw h1 h2 (by rw[hx,hy];rfl) C J
   .obtain⟨C,J⟩:=fq h;exact Bw h1 h2 (by rw[hx,hy];rfl) C J
   .cases h
  .rename_i xs ys hx hy;unfold VC at h;split at h
   .rename_i U q hk hz;obtain⟨C,J⟩:=fq h;simp only[aB,decide_eq_true_eq,Bool.not_eq_true'] at C;exact Bw h1 h2 (by rw[hx,hy];simp only[qO,zF,hk,hz]) C J
   .rename_i U q hk hz;obtain⟨C,J⟩:=fq h;simp only[aB,decide_eq_true_eq,Bool.not_eq_true'] at C;exact Bw h1 h2 (by rw[hx,hy];simp only[qO,zF,hk,hz]) C J
   .cases h
  .cases h
theorem ahq{op:UnOp}{t:TypeId}{x:Operand}(h:PU op x P ρ m nx=some p):eJ P (.unOp op t x) ρ (bE m) nx p:=by
 unfold PU at h;split at h
 .rename_i v hx;split at h
  .rename_i r hr;cases h;refine .of (by simp only[aW,hx,hr,Option.map_some];rfl) ?_ rfl;trivial
  .cases h
 .cases h
theorem aen{src dst:TypeId}{x:Operand}(h:NS src dst x P ρ m nx=some p):eJ P (.convert src dst x) ρ (bE m) nx p:=by
 have str:∀ {b:Bool} {n:Nat} {rd:List Nat} {o:Option (List Int)},Jo b n rd o=some p->b=true/\∃ l,o=some l/\l.length=n/\p=⟨.s (.string (mkStr l)),[],rd,0⟩:=fun {b n rd o} h=>by
  unfold Jo at h;split at h
  .rename_i l;obtain⟨h1,h2⟩:=zw h;simp only[aB,Nat.beq_eq] at h1;exact⟨h1.1,l,rfl,h1.2,h2⟩
  .cases h
 unfold NS at h;split at h
 .rename_i k hd;unfold VF at h;split at h
  .rename_i k' n hx;obtain⟨h1,h2⟩:=fq h;rw[Tw] at h2;refine .of (by simp only[aW,hd,hx];rfl) ?_ h2;exact h1
  .cases h
 .rename_i hd;have C:fA P dst=true:=by simp only[fA,hd]
  unfold VD at h;split at h
  .rename_i es n hx;obtain⟨h1,l,h2,rfl,J⟩:=str h;rw[GO h2] at hx;exact .nw (.B8 src dst x l hx (Hk h1) C) J
  .rename_i i off n hx;split at h
   .rename_i cs e hm;obtain⟨h1,l,h2,rfl,J⟩:=str h;have M:=GO h2;rw[xJ,qq] at M;exact .nw (.zU src dst x l i off cs e hx hm M (Hk h1) C) J
   .cases h
  .rename_i k n hx;split at h
   .rename_i k' hk;obtain⟨h1,h2⟩:=fq h;simp only[aB,Bool.not_eq_true',IC,decide_eq_false_iff_not,decide_eq_true_eq,Int.not_lt] at h1;exact .nw (.rune src dst x k k' n hx hk C h1.1 h1.2) h2
   .cases h
  .cases h
 .rename_i e hd;split at h
  .rename_i he;unfold VE at h;split at h
   .rename_i b hx;obtain⟨h1,h2⟩:=fq h;simp only[aB,Nat.ble_eq,Bg] at h1 h2;refine .of (by simp only[aW,hd,hx,he];rfl) ?_ h2;exact h1
   .cases h
  .cases h
 .cases h
theorem aga{t:TypeId}{r:Option Operand}(h:OP r P ρ m nx=some p):eJ P (.makeMap t r) ρ (bE m) nx p:=by
 unfold OP at h;split at h
 .cases h;refine .of (by simp only[aW];rfl) ?_ rfl;trivial
 .cases h
theorem aeo{t:TypeId}{l c:Operand}(h:NT t l c P ρ m nx=some p):eJ P (.makeSlice t l c) ρ (bE m) nx p:=by
 unfold NT at h;split at h
 .rename_i n k hl hc;obtain⟨h1,h2⟩:=vG h;simp only[aB,Nat.ble_eq,Nat.beq_eq] at h1;obtain⟨⟨rfl,C⟩,J,M⟩:=h1;refine .of (by simp only[aW,hl,hc];rfl) ?_ h2;refine⟨?_,by first|rfl|trivial,?_,?_,M⟩
  .exact Int.natCast_nonneg n
  .exact Int.ofNat_le.2 C
  .show(P.bytesOf (aE P t):Int)*(n:Int)<=_;rw[<- Int.natCast_mul];exact Int.ofNat_le.2 J
 .cases h
theorem aep{t:TypeId}{x k:Operand}{ok:Bool}(h:NU t x k ok P ρ m nx=some p):eJ P (.lookup t x k ok) ρ (bE m) nx p:=by
 unfold NU at h;split at h
 .rename_i key i hk hx;split at h
  .rename_i es hm;have hm:bE m i=some (.map es):=hm;obtain⟨h1,h2⟩:=qt h;simp only[aB,DP] at h1;refine .of (by simp only[aW,oD,hk,hx,hm];rfl) ?_ h2;exact h1
  .cases h
 .rename_i key es hk hx;obtain⟨h1,h2⟩:=fq h;simp only[aB,DP] at h1;refine .of (by simp only[aW,oD,hk,hx];rfl) ?_ h2;exact h1
 .rename_i key hk hx;obtain⟨h1,h2⟩:=fq h;simp only[aB] at h1;refine .of (by simp only[aW,oD,hk,hx];rfl) ?_ h2;exact h1
 .cases h
theorem UA{t:TypeId}{x k v:Operand}(h:Jp t x k v P ρ m nx=some p):eJ P (.mapUpdate t x k v) ρ (bE m) nx p/\eJ P (.insert t x k v) ρ (bE m) nx p:=by
 unfold Jp at h;split at h
 .rename_i key i hk hx;split at h
  .rename_i es hm;have hm:bE m i=some (.map es):=hm;obtain⟨h1,h2⟩:=D2 h;simp only[aB,DP] at h1;constructor
   .refine .of (by simp only[aW,oE,hk,hx,hm];rfl) ?_ h2;exact h1
   .refine .of (by simp only[aW,oE,hk,hx,hm];rfl) ?_ h2;exact h1
  .cases h
 .cases h
theorem HD{o:Option Operand}{d n:Nat}(h:r9 ρ o d=some n):fx (o.map ρ) d=some (n:Int):=by
 unfold r9 at h;split at h
 .cases h;rfl
 .rename_i x;split at h
  .rename_i k n' hx;cases h;simp[fx,hx,D.int?]
  .cases h
theorem Bq{o:Option Operand}{n:Nat}(h:r9 ρ o 0=some n):fx (o.map ρ) 0=some (n:Int):=HD h
theorem acB{t:TypeId}{x:Operand}{lo hi mx:Option Operand}(h:M4 t x lo hi mx P ρ m nx=some p):eJ P (.slice t x lo hi mx) ρ (bE m) nx p:=by
 have Ms:∀ {l h:Nat},l<=h->((h:Int) - (l:Int)).toNat=h - l:=fun {l h} _=>by omega
 unfold M4 at h;split at h
 .unfold Uw at h;split at h
  .rename_i es n hx;split at h
   .rename_i l hh h1 h2;obtain⟨C,J⟩:=fq h;simp only[aB,Nat.ble_eq] at C;obtain⟨M,O,h7⟩:=C;simp only[xJ,qq] at J;refine .of (val:=.sl ((es.drop (l*P.cellsOf (aE P t))).take ((hh - l)*P.cellsOf (aE P t))) (hh - l)) (pre:=bh P t=true/\(0:Int)<=l/\(l:Int)<=hh/\(hh:Int)<=n) ?_ ?_ J
    .simp only[aW,mz,hx,Bq h1,HD h2,Option.map_none,Ms O,eI]
    .exact⟨M,oG,oG,oG⟩
   .cases h
  .rename_i i off n hx;split at h
   .rename_i cs e l hh hm h1 h2;have hm:bE m i=some (.cells cs e):=hm;obtain⟨C,J⟩:=qt h;simp only[aB,Nat.ble_eq,Nat.beq_eq] at C;obtain⟨⟨M,h8⟩,O,h7⟩:=C;refine .of (val:=.rs i (off+l*P.cellsOf (aE P t)) (hh - l)) (pre:=(bh P t=true/\P.cellsOf e=P.cellsOf (aE P t))/\(0:Int)<=l/\(l:Int)<=hh/\(hh:Int)<=n) ?_ ?_ J
    .simp only[aW,mz,hx,hm,Bq h1,HD h2,Option.map_none,Ms O,eI]
    .exact⟨⟨M,h8⟩,oG,oG,oG⟩
   .cases h
  .rename_i b hx;split at h
   .rename_i l hh h1 h2;obtain⟨C,J⟩:=fq h;simp only[aB,Nat.ble_eq,Bg] at C;obtain⟨M,O,h7⟩:=C;rw[Bg] at h2
    have e:(⟨⟨(b.data.toList.drop l).take (hh - l)⟩⟩:ByteArray)=b.extract l hh:=by
     obtain⟨⟨bl⟩⟩:=b;apply ByteArray.ext;apply Array.ext';exact(Lib.extract_data (⟨⟨bl⟩⟩:ByteArray) l hh).symm
    rw[e] at J;refine .of (val:=.s (.string (b.extract l hh))) (pre:=fA P t=true/\(0:Int)<=l/\(l:Int)<=hh/\(hh:Int)<=b.size) ?_ ?_ J
    .simp only[aW,mz,hx,Bq h1,HD h2,Option.map_none,eI]
    .exact⟨M,oG,oG,oG⟩
   .cases h
  .rename_i hx;split at h
   .rename_i h1 h2;obtain⟨C,J⟩:=fq h;exact .nw (.CV t x lo hi hx (Bq h1) (Bq h2) C) J
   .cases h
  .cases h
 .rename_i c;cases hR:LY P t ρ m (ρ x) lo hi c with
  |some q=>
   rw[hR] at h;cases h;unfold LY at hR;split at hR
   .rename_i i off n hy X k hx hc;split at hR
    .rename_i cs e U hh hm h2;have hm:bE m i=some (.cells cs e):=hm;cases hb:(Nat.beq hh n&&Nat.beq k n) with
     |true=>
      rw[hb] at hR;simp only[cond_true] at hR;obtain⟨C,rfl⟩:=qt hR;simp only[aB,Nat.beq_eq,xO] at hb C;obtain⟨rfl,rfl⟩:=hb;exact .nw (.Cn t x hy c i off _ cs e U X hx hm h2 hc C.1 C.2.symm) rfl
     |false=>rw[hb] at hR;cases hR
    .cases hR
   .cases hR
  |none=>
  rw[hR] at h;simp only at h;unfold Uv at h;split at h
  .rename_i es n l hy X k hx h1 hc;split at h
   .rename_i U hh h2;cases hb:(Nat.beq l 0&&(Nat.beq hh n&&Nat.beq k n)&&lo.isNone) with
    |true=>
     rw[hb] at h;simp only[cond_true] at h;obtain⟨C,J⟩:=fq h;simp only[aB,Nat.beq_eq,xO,Option.isNone_iff_eq_none] at hb C;obtain⟨⟨rfl,rfl,rfl⟩,rfl⟩:=hb;exact .nw (.cut t x hy c es _ U X hx h2 hc C.1 C.2.symm) J
    |false=>
     rw[hb] at h;simp only[cond_false] at h;obtain⟨C,J⟩:=fq h;simp only[aB,Nat.ble_eq] at C;obtain⟨M,O,h7,h8⟩:=C;simp only[xJ,qq] at J;have rq:fx (some (ρ hy)) n=some (hh:Int):=by simp[fx,h2,D.int?]
     refine .of (val:=.sl ((es.drop (l*P.cellsOf (aE P t))).take ((hh - l)*P.cellsOf (aE P t))) (hh - l)) (pre:=bh P t=true/\((some hy).map ρ).isSome=true/\(0:Int)<=l/\(l:Int)<=hh/\(hh:Int)<=k/\(k:Int)<=n) ?_ ?_ J
     .simp only[aW,mz,hx,Bq h1,rq,Option.map_some,hc,D.int?,Ms O,eI,Int.ofNat_eq_natCast]
     .exact⟨M,rfl,oG,oG,oG,oG⟩
   .cases h
  .rename_i hy X k hx hc;split at h
   .rename_i U hh h2;cases hb:(Nat.beq hh 0&&Nat.beq k 0&&lo.isNone) with
    |true=>
     rw[hb] at h;simp only[cond_true] at h;obtain⟨C,J⟩:=fq h;simp only[aB,Nat.beq_eq,Option.isNone_iff_eq_none] at hb;obtain⟨⟨rfl,rfl⟩,rfl⟩:=hb;exact .nw (.Cm t x hy c U X hx h2 hc C) J
    |false=>rw[hb] at h;cases h
   .cases h
  .cases h
theorem aam{t:TypeId}{x:Operand}{k:Nat}(h:Lb t x k P ρ m nx=some p):eJ P (.fieldAddr t x k) ρ (bE m) nx p:=by
 unfold Lb at h;split at h
 .rename_i off C hf;split at h
  .rename_i cs hx;obtain⟨h1,h2⟩:=fq h;rw[qq] at h2;refine .of (by simp only[aW,hf,hx];rfl) ?_ h2;simpa using h1
  .rename_i i o hx;split at h
   .rename_i r hm;have hm:bE m i=some r:=hm;obtain⟨h1,h2⟩:=qt h;refine .of (by simp only[aW,hf,hx,hm];rfl) ?_ h2;simpa using h1
   .cases h
  .cases h
 .cases h
theorem acC{t:TypeId}{x:Operand}{k:Nat}(h:M5 t x k P ρ m nx=some p):eJ P (.field t x k) ρ (bE m) nx p:=by
 unfold M5 at h;split at h
 .rename_i off C cs hf hx;obtain⟨h1,h2⟩:=fq h;simp only[aB,oF] at h1;rw[Bo,qq] at h2;refine .of (by simp only[aW,hf,hx];rfl) ?_ h2;exact h1
 .cases h
theorem aan{t:TypeId}{x i:Operand}(h:Lc t x i P ρ m nx=some p):eJ P (.indexAddr t x i) ρ (bE m) nx p:=by
 unfold Lc at h;split at h
 .rename_i es n C k hx hi;obtain⟨h1,h2⟩:=fq h;simp only[aB,oF,Nat.blt_eq] at h1;rw[qq] at h2;refine .of (by simp only[aW,hx,hi];rfl) ?_ h2;exact⟨h1.1,oS,by simp only[Int.ofNat_eq_natCast];omega,h1.2.2⟩
 .rename_i j off n C k hx hi;split at h
  .rename_i r hm;have hm:bE m j=some r:=hm;obtain⟨h1,h2⟩:=qt h;simp only[aB,Nat.blt_eq] at h1;refine .of (by simp only[aW,hx,hi,hm];rfl) ?_ h2;exact⟨h1.1,oS,by simp only[Int.ofNat_eq_natCast];omega⟩
  .cases h
 .rename_i j off C k hx hi;split at h
  .rename_i r hm;have hm:bE m j=some r:=hm;obtain⟨h1,h2⟩:=qt h;simp only[aB,Nat.blt_eq] at h1;refine .of (by simp only[aW,hx,hi,hm];rfl) ?_ h2;exact⟨h1.1,oS,by simp only[Int.ofNat_eq_natCast];omega⟩
  .cases h
 .cases h
theorem acD{t:TypeId}{x i:Operand}(h:M6 t x i P ρ m nx=some p):eJ P (.index t x i) ρ (bE m) nx p:=by
 unfold M6 at h;split at h
 .rename_i b C k hx hi;obtain⟨h1,h2⟩:=fq h;simp only[aB,Nat.blt_eq,Bg] at h1;refine .of (by simp only[aW,hx,hi];rfl) ?_ h2;exact⟨h1.1,oS,by simp only[Int.ofNat_eq_natCast];omega⟩
 .rename_i cs C k hx hi;obtain⟨h1,h2⟩:=fq h;simp only[aB,Nat.blt_eq,oF] at h1;rw[Bo,qq] at h2;refine .of (by simp only[aW,hx,hi];rfl) ?_ h2;exact⟨h1.1,oS,by simp only[Int.ofNat_eq_natCast];omega,h1.2.2⟩
 .cases h
theorem aaN{x:Operand}{k:Nat}(h:LZ x k P ρ m nx=some p):eJ P (.extract x k) ρ (bE m) nx p:=by
 unfold LZ at h;split at h
 .rename_i cs hx;split at h
  .rename_i d hd;cases h;obtain⟨h1,h2⟩:=Uz _ _ _ hd;refine .of (by simp only[aW,hx];rfl) ?_ (by rw[h2]);exact h1
  .cases h
 .cases h
theorem acE{t:TypeId}{x:Operand}(h:M7 t x P ρ m nx=some p):eJ P (.makeInterface t x) ρ (bE m) nx p:=by
 unfold M7 at h;split at h
 .rename_i v hv;obtain⟨h1,h2⟩:=fq h;simp only[aB] at h1;exact .nw (.mkIf t x v hv h1.1 h1.2) h2
 .cases h
theorem abi{x:Operand}{u t:TypeId}{ok:Bool}(h:Mq x t ok P ρ m nx=some p):eJ P (.typeAssert x u t ok) ρ (bE m) nx p:=by
 unfold Mq at h;cases ok with
 |false=>cases h
 |true=>
  simp only[cond_true] at h;split at h
  .rename_i v hv;obtain⟨h1,h2⟩:=fq h;simp only[aB] at h1;exact .nw (.Co x u t v hv h1.1.1 h1.1.2 h1.2.1 h1.2.2) h2
  .cases h
theorem Ss{sz:Nat}{d:D}{rd:List Nat}{k:Nat}{news:List D}(h:Iz m sz d=some (rd,k,news)):∃ q:Prop,jC (bE m) sz d=some (q,rd,k,news)/\q:=by
 unfold Iz at h;split at h
 .rename_i es n;obtain⟨h1,h2⟩:=zw h;cases h2;rw[oF] at h1;exact⟨_,by simp only[jC,xJ],h1⟩
 .cases h;exact⟨True,rfl,trivial⟩
 .rename_i i off n;split at h
  .rename_i cs e hm;have hm:bE m i=some (.cells cs e):=hm;obtain⟨h1,h2⟩:=zw h;cases h2;rw[oF] at h1;exact⟨_,by simp only[jC,hm,xJ,qq],h1⟩
  .cases h
 .cases h
theorem agb{c:Call}{b:Builtin}{xs:List Operand}{ts:List TypeId}(hc:c.callee=.builtin b)(hx:c.args.toList=xs)(ht:c.argTypes.toList=ts):c={ callee:=.builtin b,args:=xs.toArray,argTypes:=ts.toArray }:=by
 obtain⟨C,args,J⟩:=c;simp only at hc hx ht;subst hc hx ht;simp
theorem vF{b:Builtin}{xs:List Operand}{ts:List TypeId}(hl:ts.length=xs.length):aW P (.call { callee:=.builtin b,args:=xs.toArray,argTypes:=ts.toArray }) ρ (bE m) nx=fh P (bE m) nx b ts.toArray (xs.map ρ):=by
 simp[aW,hl]
theorem KV{c:Call}{b:Builtin}(hc:c.callee=.builtin b)(h:D1 b c.args c.argTypes P ρ m nx=some p):eJ P (.call c) ρ (bE m) nx p:=by
 unfold D1 at h;generalize hx:c.args.toList=xs at h;generalize ht:c.argTypes.toList=ts at h;rw[agb hc hx ht];have b1:∀ {t:TypeId},([t]:List TypeId).toArray.getD 0 0=t:=rfl;have b2:∀ {t u:TypeId},([t,u]:List TypeId).toArray.getD 0 0=t/\([t,u]:List TypeId).toArray.getD 1 0=u:=⟨rfl,rfl⟩
 unfold YZ at h;split at h
 ·
   unfold XQ at h;split at h
   .rename_i x t;split at h
    .rename_i es n hd;obtain⟨h1,h2⟩:=fq h;refine .of (by rw[vF rfl];simp only[fh,List.map_cons,List.map_nil,mJ,hd,b1];rfl) ?_ h2;exact h1
    .rename_i i off n hd;split at h
     .rename_i r hm;have hm:bE m i=some r:=hm;obtain⟨h1,h2⟩:=qt h;refine .of (by rw[vF rfl];simp only[fh,List.map_cons,List.map_nil,mJ,hd,hm,b1];rfl) ?_ h2;exact h1
     .cases h
    .rename_i hd;obtain⟨h1,h2⟩:=fq h;refine .of (by rw[vF rfl];simp only[fh,List.map_cons,List.map_nil,mJ,hd,b1];rfl) ?_ h2;exact h1
    .rename_i bs hd;obtain⟨h1,h2⟩:=fq h;rw[Bg] at h2;refine .of (by rw[vF rfl];simp only[fh,List.map_cons,List.map_nil,mJ,hd,b1];rfl) ?_ h2;exact h1
    .rename_i cs hd;obtain⟨h1,h2⟩:=fq h;refine .of (by rw[vF rfl];simp only[fh,List.map_cons,List.map_nil,mJ,hd,b1];rfl) ?_ h2;exact h1
    .rename_i i hd;split at h
     .rename_i es hm;obtain⟨h1,h2⟩:=qt h;exact .nw (.Ae _ x t i es rfl hd hm h1) h2
     .cases h
    .cases h
   .cases h
 ·
   unfold Ux at h;split at h
   .rename_i s x t u;split at h
    .rename_i bs hd;unfold WK at h;split at h
     .rename_i hs;obtain⟨h1,h2⟩:=vG h;simp only[aB,Nat.ble_eq] at h1;exact .nw (.xN _ s x t u bs rfl hs hd (Hk h1.1.1) h1.1.2 h1.2.1 h1.2.2) h2
     .rename_i i off n hs;split at h
      .rename_i cs e hm;obtain⟨h1,rfl⟩:=zw h;simp only[aB,Nat.ble_eq,Nat.beq_eq,xO] at h1;obtain⟨⟨rfl,C,J⟩,O,M,X⟩:=h1;exact .nw (.xQ _ s x t u bs i off n cs rfl hs hd hm (Hk C) J O.symm M X) (by rw[qq])
      .cases h
     .cases h
    .rename_i eN;cases PW:Nat.beq t u with
     |false=>rw[PW] at h;cases h
     |true=>
     rw[PW] at h;simp only[cond_true] at h;obtain rfl:=Nat.eq_of_beq_eq_true PW;split at h
     .rename_i rd k news dw;obtain⟨q,cb,U⟩:=Ss dw
      have hb:∀ {e:Option dJ},rN P (bE m) nx t (ρ s) (ρ x)=e->aW P (.call { callee:=.builtin .append,args:=[s,x].toArray,argTypes:=[t,t].toArray }) ρ (bE m) nx=e:=fun {e} he=>by
       rw[vF rfl];simp only[fh,List.map_cons,List.map_nil,b2,if_true];exact he
      unfold XR at h;split at h
      .rename_i hs;obtain⟨h1,h2⟩:=vG h;simp only[aB,Nat.ble_eq,Nat.blt_eq] at h1;refine .of (hb (by simp only[rN,cb,hs];rfl)) ?_ h2;exact⟨h1.1,U,h1.2.1,h1.2.2.1,h1.2.2.2⟩
      .rename_i es n hs;obtain⟨h1,h2⟩:=vG h;simp only[aB,Nat.ble_eq,Nat.blt_eq,xO] at h1;obtain⟨⟨C,J⟩,⟨O,M⟩,X,h8⟩:=h1;exact .nw (.zV _ s x t es news n k q rd rfl hs cb U C J.symm O M X h8) h2
      .rename_i i off n hs;split at h
       .rename_i cs e hm;have hm:bE m i=some (.cells cs e):=hm;obtain⟨h1,rfl⟩:=zw h;simp only[aB,Nat.ble_eq,Nat.blt_eq,Nat.beq_eq,xO,L1] at h1;obtain⟨⟨⟨C,rfl⟩,J,O⟩,⟨M,X⟩,h8⟩:=h1;refine .of (hb (by simp only[rN,cb,hs,hm];rfl)) ?_ (by rw[qq]);exact⟨C,by first|rfl|trivial,U,J,O.symm,M,X,h8⟩
       .cases h
      .cases h
     .cases h
   .cases h
 ·
   unfold XS at h;split at h
   .rename_i x y t u;split at h
    .rename_i k a k' b q7 hy';obtain⟨h1,h2⟩:=fq h;have:=Bp _ _ h1;subst this
     have e:(bif qe b a then b else a)=if b<a then b else a:=by
      rw[IC];by_cases al:b<a<;>simp[al]
     rw[e] at h2;refine .of (by rw[vF rfl];simp only[fh,List.map_cons,List.map_nil,q7,hy'];rfl) ?_ h2
     first|rfl|trivial
    .cases h
   .cases h
 ·
   unfold VG at h;split at h
   .rename_i x t;split at h
    .rename_i i off n hd;split at h
     .rename_i cs e hm;have hm:bE m i=some (.cells cs e):=hm;obtain⟨h1,h2⟩:=D2 h;simp only[aB,Nat.beq_eq,oF] at h1;refine .of (by rw[vF rfl];simp only[fh,List.map_cons,List.map_nil,hd,hm,b1];rfl) ?_ h2;exact⟨h1.1,h1.2.2,h1.2.1⟩
     .cases h
    .cases h
   .cases h
 ·
   unfold Uy at h;split at h
   .rename_i x k t u;split at h
    .rename_i key i hk q7;split at h
     .rename_i es hm;have hm:bE m i=some (.map es):=hm;obtain⟨h1,h2⟩:=D2 h;simp only[aB,DP] at h1;refine .of (by rw[vF rfl];simp only[fh,List.map_cons,List.map_nil,vL,hk,q7,hm,b2];rfl) ?_ h2;exact h1
     .cases h
    .cases h
   .cases h
 ·
   unfold WL at h;split at h
   .rename_i x y t u;split at h
    .rename_i i off n q7;split at h
     .rename_i cs e rd k news hm dw;obtain⟨q,cb,U⟩:=Ss dw;obtain⟨h1,rfl⟩:=zw h;simp only[aB,Nat.beq_eq,Nat.ble_eq,oF] at h1;obtain⟨⟨rfl,rfl⟩,h2,C,J⟩:=h1;exact .nw (.copy _ x y t i off n k cs news q rd rfl q7 hm cb U h2 C J) rfl
     .cases h
    .cases h
   .cases h
 ·
   unfold VH at h;split at h
   .rename_i s t;split at h
    .rename_i i off n hs;split at h
     .rename_i r hm;obtain⟨h1,h2⟩:=qt h;exact .nw (.yf _ s t i off n r rfl hs hm (by simpa using h1)) h2
     .cases h
    .cases h
   .cases h
 ·
   unfold WM at h;split at h
   .rename_i x y t u;split at h
    .rename_i i off k0 k hp hn;split at h
     .rename_i cs e hm;split at h
      .rename_i l e' hl he;obtain⟨h1,rfl⟩:=zw h;simp only[aB,Nat.beq_eq,Nat.blt_eq,Nat.ble_eq,bT,Bool.not_eq_true',IC,decide_eq_false_iff_not,decide_eq_true_eq,Int.not_lt] at h1;obtain⟨⟨rfl,rfl⟩,⟨h2,C⟩,J,O⟩:=h1;have M:=GO hl;rw[xJ,qq] at M;exact .nw (.yC _ x y t u e' l i off cs k0 rfl hp hn hm M (by intro e;rw[e] at h2;simp at h2) he C J O) rfl
      .cases h
     .cases h
    .cases h
   .cases h
 .cases h
theorem VS{o:Op}(h:J8 o P ρ m nx=some p):eJ P o ρ (bE m) nx p:=by
 unfold J8 at h;split at h
 .cases h;refine .of (by simp only[aW];rfl) ?_ rfl;trivial
 .cases h;refine .of (by simp only[aW];rfl) ?_ rfl;trivial
 .exact aek h
 .exact acy h
 .exact af7 h
 .exact acz h
 .exact aac h
 .exact ael h
 .exact acA h
 .exact aas h
 .exact af' h
 .exact ahq h
 .exact aen h
 .cases h;refine .of (by simp only[aW];rfl) ?_ rfl;trivial
 .exact aga h
 .exact aeo h
 .exact aep h
 .exact(UA h).1
 .exact(UA h).2
 .exact acB h
 .exact aam h
 .exact acC h
 .exact aan h
 .exact acD h
 .exact aaN h
 .exact acE h
 .exact abi h
 .rename_i c;unfold WN at h;cases hc:c.callee with
  |builtin b=>rw[hc] at h;exact KV hc h
  |_=>rw[hc] at h;cases h
 .cases h
end
noncomputable def jL(t:T D):Env:=fun i=>getD t i
noncomputable def bP(c:cW):St:=⟨jL c.env,bE c.mem,c.nx⟩
noncomputable def ru(env:Env):Env:=fun i=>zd (env i)
theorem agc(d:D):(zd d).ask/\(zd d).core=zd d:=by cases d<;>exact⟨trivial,rfl⟩
theorem agd(v:Value):(yZ v).ask/\(yZ v).core=yZ v:=by
 unfold yZ;split<;>exact⟨trivial,rfl⟩
theorem Na(env:Env)(x:Operand):(opd (ru env) x).ask/\(opd (ru env) x).core=opd (ru env) x:=by
 cases x with
 |tmp t=>exact agc _
 |const v=>exact agd v
 |global g=>exact⟨trivial,rfl⟩
 |func f=>exact⟨trivial,rfl⟩
theorem Eb(env:Env)(o:Op):asks (ru env) o:=by
 unfold asks;cases o<;>first|exact(Na env _).1|exact fun x _=>(Na env x).1
theorem ahr(env:Env)(o:Op):bn (ru env) o=opd (ru env):=by
 unfold bn;cases o<;>first|rfl|(funext x;exact(Na env x).2)
theorem D3(t:T D):iS t=opd (ru (jL t)):=by
 funext x;cases x<;>rfl
theorem HE(t:T D)(o:Op):bn (ru (jL t)) o=iS t:=(ahr _ o).trans (D3 t).symm
section
variable{P:Program}{F:Nat->Prop}{ops:Array Oper}{o:Oper}{β:aJ}{w:World}{a:Act}{c c':cW}{p:bL}
theorem R.un{d:D}{v:Value}(h:R F β w d v):R F β w (zd d) v:=by
 cases d with
 |cS=>exact .u v
 |_=>exact h
theorem gP.un{env:Env}(h:gP F β w env a):gP F β w (ru env) a:=fun t=>(h t).un
theorem HF{dst:Option Nat}{d:D}{m:T Row}{nx:Nat}(h:Cs c dst d m nx=some c'):bP c'=St.put ⟨jL c.env,bE m,nx⟩ dst d:=by
 unfold Cs at h;cases dst with
 |none=>
  simp only[OR,aV] at h;subst h;rfl
 |some i=>
  simp only[OR] at h;split at h
  .rename_i t ht;cases h
   have e:jL t=up (jL c.env) i d:=by
    funext j;simp only[jL,getD,T.Mr ht,Bk];by_cases hj:j=i<;>simp[hj]
   simp only[bP,St.put,e]
  .cases h
theorem Br{m m':T Row}{i:Nat}{r:Option Row}(h:m.put i r=some m'):bE m'=up (bE m) i r:=by
 funext j;simp only[bE,T.Mr h,Bk]
theorem Tx:∀ {us:List (Nat×Option Row)} {m m':T Row},E2 m us=some m'->bE m'=cQ (bE m) us
 |[],m,m',h=>by simp only[E2,aV] at h;subst h;rfl
 |(i,r)::us,m,m',h=>by
  simp only[E2] at h;cases hp:m.put i r with
  |none=>rw[hp] at h;cases h
  |some C=>
   rw[hp] at h;simp only at h;rw[Tx h,Br hp];rfl
theorem UB{dst:Option Nat}(h:Jq c dst p=some c'):bP c'=St.put ⟨jL c.env,cQ (bE c.mem) p.a7,c.nx+p.new⟩ dst p.val:=by
 unfold Jq at h;split at h
 .rename_i m hm;rw[HF h,Tx hm]
 .cases h
theorem WU{st:St}(O:gp ops o st true)(h:bL.Ok P #[] { o with guard:=none } ⟨ru st.env,st.mem,st.nx⟩ p):bL.Ok P ops o st p:=by
 intro F β w a m env N he C hm hr hn M r n QX K J
 have h1:=h F β w a m (ru env) N (fun t ht=>by
  have:t∈o.looksAt ops:=List.mem_append_left _ (by simpa[Oper.looksAt] using ht);show zd (env t)=zd (st.env t)
  rw[he t this]) C.un hm hr hn M r n QX K J
 unfold mC at h1 ⊢;rw[O F β w a env he C,if_pos rfl];rw[if_pos (by simp[Region.wanted])] at h1;exact h1
theorem UC(C:gp ops o (bP c) true)(h:eJ P o.op (iS c.env) (bE c.mem) c.nx p):p.Ok P ops o (bP c):=by
 refine WU C ?_;cases h with
 |a e h hp=>exact MY (zs rfl) (Eb _ _) (by rw[<- HE] at h;exact h) hp
 |n e h=>exact Un (zs rfl) (Eb _ _) (by rw[<- HE] at h;exact h)
theorem acF{st:St}{op:Op}{ρ:Operand->D}(h:eJ P op ρ st.mem st.nx p):p.n3 (cM op) st:=by
 cases h with
 |a e h hp=>
  obtain⟨C,t2,t3,t4⟩:=LV h;exact⟨C,t2,t3,t4⟩
 |n e h=>
  obtain⟨C,t2,t3,t4⟩:=h.tidy;exact⟨C,t2,t3,t4⟩
theorem GI{j:Nat}{b g:Bool}(hg:o.guard=some (j,b))(h:IA ops j b c=some g):gp ops o (bP c) g:=by
 unfold IA at h;split at h
 .rename_i J C;split at h
  .rename_i t ht;exact La hg (t:=t) (by simp[C,ht]) h
  .cases h
 .cases h
def Ec(P:Program)(call:sY):Prop:=∀ f args m nx p,call f args m nx=some p->∀ (o:Oper) (st:St),o.guard=none->st.mem=bE m->st.nx=nx->asks st.env o.op->ea (bn st.env o.op) o.op=some (f,args)->
 p.Ok P #[] o st/\∀ i∈p.wr,st.mem i≠none\/(nx<=i/\i<nx+p.new)
theorem Ty{call:Call}{f:Operand}{ρ:Operand->D}{g:FuncId}{fs cs:List D}(hc:call.callee=.value f)(hv:ρ f=.fn (.func g) fs cs):ea ρ (.call call)=some (g,fs++call.args.toList.map ρ++cs):=by
 simp only[ea,hc,hv]
theorem VT{call:sY}(O:Ec P call)(C:gp ops o (bP c) true)(h:J' o.op P call c=some p):p.Ok P ops o (bP c)/\p.n3 (cM o.op) (bP c):=by
 have fin:∀ {q:bL},eJ P o.op (iS c.env) (bE c.mem) c.nx q->q.Ok P ops o (bP c)/\q.n3 (cM o.op) (bP c):=fun hq=>⟨UC C hq,acF (st:=bP c) hq⟩
 have other:∀ k:gk,(∀ (c:cW) p,k P (iS c.env) c.mem c.nx=some p->eJ P o.op (iS c.env) (bE c.mem) c.nx p)->gK k P call c=some p->p.Ok P ops o (bP c)/\p.n3 (cM o.op) (bP c):=fun k hk hg=>fin (hk c p hg);cases ho:o.op
 case call cl=>
  rw[ho] at h;simp only[J'] at h;unfold WQ at h;cases hc:cl.callee with
  |value f=>
   rw[hc] at h;simp only[VL] at h;split at h
   .rename_i g fs cs hv;have M:=Ty hc hv
    have hk:cM (.call cl)=2:=by
     obtain⟨J,aS,ts⟩:=cl;cases hc;rfl
    obtain⟨h1,h2⟩:=O _ _ _ _ _ h { o with guard:=none } ⟨ru (jL c.env),bE c.mem,c.nx⟩ rfl rfl rfl (Eb _ _) (by rw[HE,ho];exact M);rw[hk];exact⟨WU C h1,⟨h2,(fun h=>by simp at h),(fun h=>by simp at h),(fun h=>by simp at h)⟩⟩
   .cases h
  |builtin b=>
   rw[hc] at h;rw[<- ho];exact fin (by rw[ho];exact KV hc h)
  |invoke=>rw[hc] at h;cases h
 all_goals (rw[ho] at h;exact ho▸fin (by rw[ho];exact VS h))
theorem aeq{call:sY}(C:Ec P call)(h:NV P call ops o c=some p):p.Ok P ops o (bP c)/\p.n3 (cM o.op) (bP c):=by
 unfold NV at h;split at h
 .rename_i hg;exact VT C (zs hg) h
 .rename_i j b hg;split at h
  .cases h
  .rename_i hv;cases h;exact⟨HC (GI hg hv) _ fun F β w=>.cS false .u undef oS fun _=>rfl,⟨by simp[bL.wr],fun _=>⟨rfl,rfl⟩,fun _=>rfl,fun _=>⟨rfl,by simp[bL.wr]⟩⟩⟩
  .rename_i hv;exact VT C (GI hg hv) h
end
section
variable{P:Program}{F:Nat->Prop}{ops:Array Oper}{o:Oper}{β β':aJ}{w w':World}{a:Act}{c c':cW}{hd:Hd}
def HOk(P:Program)(F:Nat->Prop)(C:aJ)(O:World)(i:Nat)(h:Hf):Prop:=
 ∃ l,(C i=some (.lp l)\/C i=some .dead)/\∀ args m nx b m' aD,m.get i=some (.lp .ready)->h args m nx=some (b,m',aD)->
  qC P F C O l args (bE m) nx fun d M J=>d=.s (.bool b)/\M=bE m'/\J=aD
def n5(P:Program)(F:Nat->Prop)(hd:Hd)(β:aJ)(w:World):Prop:=∀ i h,E0 hd i=some h->HOk P F β w i h
theorem n5.step(h:n5 P F hd β w)(hs:Step β w β' w'):n5 P F hd β' w':=fun i f hf=>by
 obtain⟨l,h1,h2⟩:=h i f hf;refine⟨l,?_,fun args m nx b m' aD hm hr=>(h2 args m nx b m' aD hm hr).base hs⟩;rcases h1 with h1|h1
 .exact hs.iR i _ h1
 .rcases hs.iR i _ h1 with h2|h2<;>exact .inr h2
theorem L2:n5 P F [] β w:=fun i h hf=>by simp[E0] at hf
def Ends(P:Program)(F:Nat->Prop)(β:aJ)(w:World)(nx:Nat)(x:D ⊕ List PanicEntry)(m':Mem)(aD:Nat)(e:Ending)(w':World):Prop:=
 ∃ β',(match x with
  | .inl d=>∃ v,e=.returned v/\R F β' w' d v
  | .inr ch=>e=.panicked ch)/\aL P F m' β' w'/\(∀ i,aD<=i->β' i=none)/\Step β w β' w'/\nx<=aD/\∀ i,i<nx->β i=none->β' i=none
def ZC(P:Program)(hd:Hd)(f:FuncId)(args:List D)(m:Mem)(nx:Nat)(x:D ⊕ List PanicEntry)(m':Mem)(aD:Nat):Prop:=
 na P f=true/\∀ F β w vs,n5 P F hd β w->aL P F m β w->(∀ i,nx<=i->β i=none)->Rs F β w args vs->Calls P f vs w (Ends P F β w nx x m' aD)
def Bx(P:Program)(hd:Hd)(call:qD):Prop:=∀ f args m nx x m' aD,call f args m nx=some (x,m',aD)->ZC P hd f args (bE m) nx x (bE m') aD
theorem Su{env:Env}{f:FuncId}{args:List D}(M:Region.wanted o (yielded ops a.tmps)=true)(C:gP F β w env a)(ha:asks env o.op)
 (h:ea (bn env o.op) o.op=some (f,args)) (he:na P f=true) {r:Option Nat} {n:Nat} {QX:Exit->Act->World->Prop} {K:Act->World->Prop}
 (J:∀ vs,Rs F β w args vs->Calls P f vs w fun e w'=>(∃ v,e=.returned v/\K (a.put o.dst v) w')\/∃ ch,e=.panicked ch/\QX (.panic ch) a w'):mC r n P ops QX o K a w:=by
 obtain⟨vs,h1,h2⟩:=RG (F:=F) (β:=β) (w:=w) C ha h he;unfold mC;rw[M,if_pos rfl];refine⟨fun _ _=>trivial,?_⟩;rw[BR (Ry h),h1];refine⟨oS,Hg ((J vs h2).mono ?_)⟩;rintro e w' (⟨v,rfl,hk⟩|⟨ch,rfl,hk⟩)
 .exact hk
 .exact hk
def Cg(P:Program)(F:Nat->Prop)(ops:Array Oper)(o:Oper)(c c':cW)(oc:Option (List PanicEntry))(β:aJ)(w:World)(a:Act)(r:Option Nat)(n:Nat):Prop:=
 ∀ (QX:Exit->Act->World->Prop) (K:Act->World->Prop),(oc=none->∀ β' a' w',cK P F (bP c') β' w' a'->eW c.nx β w a (bP c') β' w' a'->K a' w')->
  (∀ ch,oc=some ch->∀ β' w',cK P F (bP c') β' w' a->eW c.nx β w a (bP c') β' w' a->QX (.panic ch) a w')->mC r n P ops QX o K a w
variable{oc:Option (List PanicEntry)}{r:Option Nat}{n:Nat}
theorem Hl{x:Option cW}(h:F3 x=some (oc,c')):oc=none/\x=some c':=by
 cases x with
 |none=>cases h
 |some C=>cases h;exact⟨rfl,rfl⟩
theorem aer{p:Option bL}(hp:∀ q,p=some q->q.Ok P ops o (bP c))(h:XT c o.dst p=some (oc,c'))(hs:cK P F (bP c) β w a)(hd:∀ t,o.dst=some t->t<a.tmps.size):Cg P F ops o c c' oc β w a r n:=by
 cases p with
 |none=>cases h
 |some q=>
  obtain⟨rfl,h1⟩:=Hl h;refine fun QX K O U=>GY (hp q rfl) hs hd r n QX fun β' a' w' C J=>?_;have e:=UB h1;have M:St.put ⟨(bP c).env,cQ (bP c).mem q.a7,(bP c).nx+q.new⟩ o.dst q.val=bP c':=e.symm;rw[M] at C J;exact O rfl β' a' w' C J
theorem Sv{st:St}{m':Mem}{aD:Nat}{dst:Option Nat}{d:D}{v:Value}(h1:Step β w β' w')(h2:st.nx<=aD)(C:∀ i,i<st.nx->β i=none->β' i=none):eW st.nx β w a (St.put ⟨st.env,m',aD⟩ dst d) β' w' (a.put dst v):=
 ⟨h1,by rw[Be];exact h2,C,DY _ _ _,put_defers _ _ _⟩
theorem aes{f:FuncId}{args:List D}{x:Option tL}(hw:gp ops o (bP c) true)(hc:ea (iS c.env) o.op=some (f,args))(hz:∀ y m' aD,x=some (y,m',aD)->ZC P hd f args (bE c.mem) c.nx y (bE m') aD)
 (h:OS c o.dst x=some (oc,c')) (hh:n5 P F hd β w) (hs:cK P F (bP c) β w a) (lY:∀ t,o.dst=some t->t<a.tmps.size):Cg P F ops o c c' oc β w a r n:=by
 have Y1:Region.wanted o (yielded ops a.tmps)=true:=hw F β w a (bP c).env (fun _ _=>rfl) hs.e;have hC:ea (bn (ru (jL c.env)) o.op) o.op=some (f,args):=by rw[HE];exact hc
 cases x with
 |none=>cases h
 |some y=>
  obtain⟨y,m',aD⟩:=y;have hz:=hz y m' aD rfl;cases y with
  |inl d=>
   obtain⟨rfl,h1⟩:=Hl h;have e:=HF h1;intro QX K hK _;refine Su Y1 hs.e.un (Eb _ _) hC hz.1 fun vs hR=>?_;refine(hz.2 F β w vs hh hs.m hs.n hR).mono fun e1 w' hp=>?_;obtain⟨β',⟨v,rfl,J⟩,M,O,C,U,X⟩:=hp;refine .inl ⟨v,rfl,hK rfl β' _ w' ?_ ?_⟩
   .rw[e];exact cK.put (st':=⟨jL c.env,bE m',aD⟩) (hs.e.step C) lY J M O
   .rw[e];exact Sv (st:=bP c) C U X
  |inr ch=>
   simp only[OS,aV,cN] at h;obtain⟨rfl,rfl⟩:=h;intro QX K _ hX;refine Su Y1 hs.e.un (Eb _ _) hC hz.1 fun vs hR=>?_;refine(hz.2 F β w vs hh hs.m hs.n hR).mono fun e1 w' hp=>?_;obtain⟨β',J,M,O,C,U,X⟩:=hp;exact .inr ⟨ch,J,hX ch rfl β' w' ⟨hs.e.step C,M,O⟩ ⟨C,U,X,rfl,rfl⟩⟩
theorem acG{call:qD}{f:Operand}{cl:Call}{i:Nat}(ho:o.op=.call cl)(hf:cl.callee=.value f)(hw:gp ops o (bP c) true)(hv:iS c.env f=.yl i)
 (h:M8 i (cl.args.toList.map (iS c.env)) P hd call o.dst c=some (oc,c')) (hh:n5 P F hd β w) (hs:cK P F (bP c) β w a) (lY:∀ t,o.dst=some t->t<a.tmps.size):Cg P F ops o c c' oc β w a r n:=by
 unfold M8 at h;split at h
 .rename_i Ka hg aA;cases hx:Ka (cl.args.toList.map (iS c.env)) c.mem c.nx with
  |none=>rw[hx] at h;cases h
  |some x=>
   obtain⟨b,m',aD⟩:=x;rw[hx] at h;obtain⟨rfl,h1⟩:=Hl h;have e:=HF h1;obtain⟨l,J,g2⟩:=hh i Ka hg;have hy:=g2 _ _ _ _ _ _ aA hx;obtain⟨p,hp,X⟩:=hs.m.row i _ aA;have O:=hs.e.un;have hR:∀ x,R F β w (iS c.env x) (a.eval x):=fun x=>by rw[D3];exact O.opd x
   have AA:a.eval f=.func (.yield l) #[] #[]:=by
    have h2:=hR f;rw[hv] at h2;generalize a.eval f=u at h2;cases h2 with
    |yl _ l' C=>
     rcases J with J|J
     .rw[J] at C;cases C;rfl
     .rw[J] at C;cases C
    |CU _ _ C _=>rw[C] at hp;cases hp;cases X
   obtain⟨q1,q2⟩:=BK (F:=F) (β:=β) (w:=w) (xs:=cl.args) (ρ:=iS c.env) (a:=a) (fun x _=>hR x);obtain⟨M,tmps,assign,body,k1,k2⟩:=hy β w (cl.args.map a.eval) (Step.refl β w) hs.m hs.n ⟨by simpa using q1,fun j d u hd hu=>q2 j d u hd (by simpa using hu)⟩;intro QX K hK _;unfold mC;rw[hw F β w a (bP c).env (fun _ _=>rfl) hs.e,if_pos rfl];refine⟨fun _ _=>trivial,?_⟩
   have U:(execOp a.eval o).run P w=(Instr.yield l (cl.args.map a.eval)).run P w:=by
    unfold execOp;rw[ho];simp only[resolve,hf,Sem.run_bind,AA,Deferred.ofValue,Sem.run_pure,Result.andThen_ok,invoke];simp
   rw[BR (fun c hc=>by rw[ho] at hc;cases hc),U,k1];refine⟨oS,?_⟩;refine RoundIn.mono (F:=Fe r) (show RoundIn (Fe r) (n - 1) P l M tmps assign body w _ from k2 (n - 1)) fun e1 w' hp=>?_;obtain⟨v,d,m2,iU,β',rfl,⟨rfl,rfl,rfl⟩,j3,j4,j5,j6,j7,j8⟩:=hp;refine hK rfl β' _ w' ?_ ?_
   .rw[e];exact cK.put (st':=⟨jL c.env,bE m',iU⟩) (hs.e.step j6) lY j5 j3 j4
   .rw[e];exact Sv (st:=bP c) j6 j7 j8
 .cases h
theorem UD{call:qD}(X:Bx P hd call)(C:gp ops o (bP c) true)(h:F4 o.op P hd call o.dst c=some (oc,c'))(hh:n5 P F hd β w)(hs:cK P F (bP c) β w a)(M:∀ t,o.dst=some t->t<a.tmps.size):
 Cg P F ops o c c' oc β w a r n:=by
 have O:∀ {k:gk},(∀ p,k P (iS c.env) c.mem c.nx=some p->eJ P o.op (iS c.env) (bE c.mem) c.nx p)->fK k P hd call o.dst c=some (oc,c')->Cg P F ops o c c' oc β w a r n:=fun hk hg=>aer (fun q hq=>UC C (hk q hq)) hg hs M;cases ho:o.op
 case call cl=>
  rw[ho] at h;simp only[F4] at h;unfold WO at h;cases hc:cl.callee with
  |value f=>
   rw[hc] at h;simp only[VJ] at h;split at h
   .rename_i g fs cs hv;exact aes C (by rw[ho];exact Ty hc hv) (fun y m' aD hy=>X _ _ _ _ _ _ _ hy) h hh hs M
   .rename_i i hv;exact acG ho hc C hv h hh hs M
   .cases h
  |builtin b=>
   rw[hc] at h;exact O (fun p hp=>by rw[ho];exact KV hc hp) h
  |invoke=>rw[hc] at h;cases h
 case panic x=>
  rw[ho] at h;simp only[F4,VK] at h;split at h
  .rename_i t v hv;cases h;intro QX K _ U;have hR:R F β w (iS c.env x) (a.eval x):=by rw[D3];exact hs.e.un.opd x
   rw[hv] at hR;unfold mC;rw[C F β w a (bP c).env (fun _ _=>rfl) hs.e,if_pos rfl];refine⟨fun _ _=>trivial,?_⟩
   have J:(execOp a.eval o).run P w=.halt (.panic (.iface t v)) w:=by
    unfold execOp;rw[ho];simp only[hR.cI.1,Sem.run_bind];rfl
   rw[BR (fun c hc=>by rw[ho] at hc;cases hc),J];exact U _ rfl β w hs (eW.refl (bP c) β w a)
  .cases h
 all_goals (rw[ho] at h;exact O (fun p hp=>by rw[ho];exact VS hp) h)
theorem HG{call:qD}(O:Bx P hd call)(h:PV P hd call ops o c=some (oc,c'))(hh:n5 P F hd β w)(hs:cK P F (bP c) β w a)(C:∀ t,o.dst=some t->t<a.tmps.size):
 Cg P F ops o c c' oc β w a r n:=by
 unfold PV at h;split at h
 .rename_i hg;exact UD O (zs hg) h hh hs C
 .rename_i j b hg;split at h
  .cases h
  .rename_i hv;obtain⟨rfl,h1⟩:=Hl h;have e:=HF h1;have U:St.put ⟨(bP c).env,cQ (bP c).mem [],(bP c).nx+0⟩ o.dst wq=bP c':=e.symm;refine fun QX K X hX=>GY (HC (GI hg hv) wq fun F β w=>.cS false .u undef oS fun _=>rfl) hs C r n QX fun β' a' w' J M=>?_;rw[U] at J M;exact X rfl β' a' w' J M
  .rename_i hv;exact UD O (GI hg hv) h hh hs C
def QE(e:Exit)(c':cW):Exit->St->Prop:=fun e2 C=>e2=e/\C=bP c'
theorem acH{call:qD}{e:Exit}{N tl:Nat}{β₀:aJ}{w₀:World}{a₀:Act}{QX:Exit->Act->World->Prop}(jX:Bx P hd call)(hh:n5 P F hd β₀ w₀)(al:qB a₀.tmps.size ops=true)
 (hX:∀ ch,e=.panic ch->∀ β w a,cK P F (bP c') β w a->eW N β₀ w₀ a₀ (bP c') β w a->QX (.panic ch) a w):
 ∀ (rest:List Oper) (k:Nat) (c:cW) (β:aJ) (w:World) (a:Act),(∀ j o,rest[j]? =some o->ops[k+j]? =some o)->yF P hd call ops rest c=some (e,c')->cK P F (bP c) β w a->eW N β₀ w₀ a₀ (bP c) β w a->
  (e=.normal->∀ β w a,cK P F (bP c') β w a->eW N β₀ w₀ a₀ (bP c') β w a->wpOpsIn (Fe r) n P ops QX (List.range' (k+rest.length) tl) a w)->
  wpOpsIn (Fe r) n P ops QX (List.range' k (rest.length+tl)) a w:=by
 intro rest
 induction rest with
 |nil=>
  intro k c β w a hk h hs C U;simp only[yF,aV,cN] at h;obtain⟨rfl,rfl⟩:=h;simpa using U rfl β w a hs C
 |cons o rest ih=>
  intro k c β w a hk h hs C U;have ho:ops[k]? =some o:=hk 0 o rfl;have e1:(o::rest).length+tl=(rest.length+tl)+1:=by simp;omega
  rw[e1,List.range'_succ,wpOpsIn_cons];refine GG ho ?_;have lY:∀ t,o.dst=some t->t<a.tmps.size:=fun t ht=>by rw[C.size];exact DK al ho t ht
  simp only[yF] at h;split at h
  .rename_i X h1;refine HG jX h1 (hh.step C.step) hs lY _ _ (fun _ β' a' w' M O=>ih (k+1) X β' w' a' (fun j o hj=>by rw[Nat.add_right_comm];exact hk (j+1) o (by simpa using hj)) h M (C.trans O) fun he β w a q1 q2=>?_) (fun ch J=>by cases J);have:=U he β w a q1 q2;rw[show k+(o::rest).length=k+1+rest.length by simp;omega] at this;exact this
  .rename_i ch X h1;simp only[aV,cN] at h;obtain⟨rfl,rfl⟩:=h
   exact HG jX h1 (hh.step C.step) hs lY _ _ (fun J=>by cases J) fun ch' J β' w' M O=>by
    cases J;exact hX _ rfl β' w' a M (C.trans O)
  .cases h
theorem aet{call:qD}{e:Exit}{N:Nat}{β₀:aJ}{w₀:World}{a₀:Act}(J:Bx P hd call)(hh:n5 P F hd β₀ w₀)(al:qB a₀.tmps.size ops=true){c:cW}{β:aJ}{w:World}{a:Act}(h:yF P hd call ops ops.toList c=some (e,c'))(hs:cK P F (bP c) β w a)(C:eW N β₀ w₀ a₀ (bP c) β w a):
 wpOpsIn (Fe r) n P ops (ep P F N β₀ w₀ a₀ (QE e c')) (List.range ops.size) a w:=by
 have:=acH (r:=r) (n:=n) (tl:=0) (QX:=ep P F N β₀ w₀ a₀ (QE e c')) J hh al (fun ch he β w a h1 h2=>⟨_,β,⟨he.symm,rfl⟩,h1,h2⟩) ops.toList 0 c β w a (fun j o hj=>by simpa using hj) h hs C fun he β w a h1 h2=>⟨_,β,⟨he.symm,rfl⟩,h1,h2⟩
 rw[List.range_eq_range'];simpa using this
end
section
variable{P:Program}{F:Nat->Prop}{ops:Array Oper}{β:aJ}{w:World}{a:Act}{c c':cW}{hd:Hd}{cf:List (Nat×Nat)}{Q:Exit->St->Prop}
theorem GP{l:List Nat}:∀ {xs:List Nat},meets l xs=false->∀ x∈xs,x∉l
 |[],_,x,hx=>by cases hx
 |y::xs,h,x,hx=>by
  simp only[meets,Bool.or_eq_false_iff,Bool.not_eq_false'] at h;rcases List.mem_cons.1 hx with rfl|hx
  .exact(L1 _ _).1 h.1
  .exact GP h.2 x hx
theorem KW{ps:List bL}:∀ {l:List (Nat×Nat)},zJ ps l=true->∀ q∈l,rU (ps.map fun p=>(p.rd,p.wr)) q.1 q.2
 |[],_,q,hq=>by cases hq
 |p::l,h,q,hq=>by
  simp only[zJ,aB] at h;rcases List.mem_cons.1 hq with rfl|hq
  .have h:=h.1;unfold VM at h;split at h
   .rename_i x y hx hy;simp only[aB,Bool.not_eq_true'] at h;simp only[rU,List.getD,List.getElem?_map,hx,hy,Option.map_some,Option.getD_some];exact⟨fun z hz=>⟨GP h.1 z hz,GP h.2.1 z hz⟩,fun z hz=>GP h.2.2 z hz⟩
   .cases h
  .exact KW h.2 q hq
theorem Lw{call:sY}(C:Ec P call):∀ {os:List Oper} {ps:List bL} {c c':cW} {tr:mP},BS P call ops os c=some (ps,c')->(∀ q∈cf,rU (tr++ps.map fun p=>(p.rd,p.wr)) q.1 q.2)->Q .normal (bP c')->D' P ops cf Q os ps (bP c) tr
 |[],ps,c,c',tr,h,h1,h2=>by
  simp only[BS,aV,cN] at h;obtain⟨rfl,rfl⟩:=h;exact⟨by simpa using h1,h2⟩
 |o::os,ps,c,c',tr,h,h1,h2=>by
  simp only[BS] at h;split at h
  .rename_i p hp;split at h
   .rename_i M J;split at h
    .rename_i ps1 c2 X;simp only[aV,cN] at h;obtain⟨rfl,rfl⟩:=h;obtain⟨O,U⟩:=aeq C hp;refine⟨O,U,?_⟩;have e:wY (bP c) o p=bP M:=(UB J).symm;rw[e];exact Lw C X (by simpa using h1) h2
    .cases h
   .cases h
  .cases h
theorem aeu{EG:qD}{Ce:sY}{r:Option Nat}{n id:Nat}{e:Exit}(lV:P.follows .mixedOrders=true)(ht:Bx P hd EG)(hp:Ec P Ce)(al:qB a.tmps.size ops=true)(h:NW P hd EG Ce ops c (bV ops)=some (e,c'))
 (hh:n5 P F hd β w) (hs:cK P F (bP c) β w a):(Code.region id ops true).wpIn (Fe r) n P (ep P F c.nx β w a (QE e c')) a w:=by
 cases hi:bV ops with
 |none=>rw[hi] at h;cases h
 |some cf=>
  rw[hi] at h;simp only[NW] at h;split at h
  .rename_i ps U h1;cases C:zJ ps cf with
   |false=>rw[C] at h;cases h
   |true=>
    rw[C] at h;simp only[cond_true,aV,cN] at h;obtain⟨rfl,rfl⟩:=h;have o8:=Lw (Q:=QE .normal U) hp (tr:=[]) h1 (by simpa using KW C) ⟨rfl,rfl⟩;have J:=DJ (fun j=>ops.toList.getD j default) (fun j=>ps.getD j default) (bP c) ops.toList ps 0 [] (fun j o hj=>by simp at hj;simp[hj]) (fun j p hj=>by simp[hj]) rfl oS o8;simp only[Nat.zero_add,Array.length_toList] at J;obtain⟨k1,k2,k3⟩:=J;exact Ln lV hi al (bM _) (fun j hj=>k1 j (Nat.zero_le _) hj) (fun _=>k2) (fun h=>absurd h (Nat.lt_irrefl _)) k3 hs (eW.refl (bP c) β w a)
  .cases hl:zX ops with
   |false=>rw[hl] at h;cases h
   |true=>
    rw[hl] at h;simp only[cond_true] at h;split at h
    .rename_i ps U h1;cases C:zJ ps cf with
     |false=>rw[C] at h;cases h
     |true=>
      rw[C] at h;simp only[cond_true] at h;obtain⟨lZ,hb⟩:=RK hl;have o8:=Lw (Q:=fun _ st=>st=bP U) hp (tr:=[]) h1 (by simpa using KW C) rfl;have hlen:(ops.toList.take (ops.size - 1)).length=ops.size - 1:=by simp
      have J:=DJ (fun j=>ops.toList.getD j default) (fun j=>ps.getD j default) (bP c) (ops.toList.take (ops.size - 1)) ps 0 [] (fun j o hj=>by
       have lJ:j<ops.size - 1:=by rw[<- hlen];exact(bX.1 hj).1
       rw[List.getElem?_take,if_pos lJ] at hj
       simp at hj;simp[hj]) (fun j p hj=>by simp[hj]) rfl oS o8
      rw[hlen] at J;simp only[Nat.zero_add] at J;obtain⟨k1,k2,k3⟩:=J;refine Ln lV hi al (nl:=ops.size - 1) oG (fun j hj=>k1 j (Nat.zero_le _) hj) (fun h=>by omega) (fun _=>⟨oG,hb,fun r n=>?_⟩) k3 hs (eW.refl (bP c) β w a);rw[k2];have r6:ops.size - 1<ops.size:=by omega
      have hx:ops[ops.size - 1]? =some (ops.toList.getD (ops.size - 1) default):=by simp[r6]
      have ji:ops.toList.drop (ops.size - 1)=[ops.toList.getD (ops.size - 1) default]:=by
       have F6:ops.size - 1<ops.toList.length:=by simp;omega
       rw[List.drop_eq_getElem_cons F6,List.drop_eq_nil_of_le oP];simp[List.getD,r6]
      rw[ji] at h;intro β1 w1 a1 iE M K hK;have lY:∀ t,(ops.toList.getD (ops.size - 1) default).dst=some t->t<a1.tmps.size:=fun t ht=>by rw[M.size];exact DK al hx t ht
      simp only[yF] at h;split at h
      .rename_i c2 h2;simp only[aV,cN] at h;obtain⟨rfl,rfl⟩:=h;exact HG ht h2 (hh.step M.step) iE lY _ _ (fun _ β' a' w' X g2=>hK _ _ ⟨_,β',⟨rfl,rfl⟩,X,M.trans g2⟩) fun ch O=>by cases O
      .rename_i ch c2 h2;simp only[aV,cN] at h;obtain⟨rfl,rfl⟩:=h
       exact HG ht h2 (hh.step M.step) iE lY _ _ (fun O=>by cases O) fun ch' O β' w' X g2=>by
        cases O;exact⟨_,β',⟨rfl,rfl⟩,X,M.trans g2⟩
      .cases h
    .cases h
end
def z6(P:Program)(F:Nat->Prop)(rf:Bool)(N:Nat)(β:aJ)(w:World)(a:Act)(e:Exit)(s':cW)(e2:Exit)(a2:Act)(C:World):Prop:=EE P F N β w a (QE e s') e2 a2 C/\(rf=false->a2.defers=a.defers)
def Ct(P:Program)(ev:Ev):Prop:=∀ (hd:Hd) (rf:Bool) (c:Code) (s:cW) (e:Exit) (s':cW),ev hd rf c s=some (e,s')->∀ (F:Nat->Prop) (r:Option Nat) (n:Nat) (β:aJ) (w:World) (a:Act),
 (rf=true->r=none)->n5 P F hd β w->iO a.tmps.size c=true->cK P F (bP s) β w a->c.wpIn (Fe r) n P (z6 P F rf s.nx β w a e s') a w
def I5(P:Program)(lH:FuncId->Option (Func×Code)):Prop:=∀ f fn c,lH f=some (fn,c)->wH P f fn c
section
variable{P:Program}{F:Nat->Prop}{fn:Func}{x:Ctx}{ev:Ev}{hd:Hd}{c:cW}
theorem Tz{t C:T D}{i:Nat}{d:D}(h:t.put i (some d)=some C):jL C=up (jL t) i d:=by
 funext j;simp only[jL,getD,T.Mr h,Bk];by_cases hj:j=i<;>simp[hj]
theorem RX:∀ (ds:List D) (k:Nat) (t C:T D),BT k ds t=some C->∀ j,jL C j=if k<=j/\j<k+ds.length then ds.getD (j - k) .u else jL t j
 |[],k,t,C,h,j=>by
  simp only[BT,aV] at h;subst h;rw[if_neg (by simp only[List.length_nil];omega)]
 |d::ds,k,t,C,h,j=>by
  simp only[BT] at h;split at h
  .rename_i J h1;rw[RX ds (k+1) J C h j,Tz h1];simp only[List.length_cons,Bk];by_cases hj:j=k
   .subst hj;rw[if_neg oG,if_pos rfl,if_pos ⟨bM _,oG⟩];simp
   .by_cases h2:k+1<=j/\j<k+1+ds.length
    .rw[if_pos h2,if_pos oG];have:j - k=(j - (k+1))+1:=by omega
     rw[this];simp
    .rw[if_neg h2,if_neg hj,if_neg oG]
  .cases h
theorem acI{args:List D}{t:T D}(h:BT 0 args .leaf=some t):jL t=nn args:=by
 funext j;rw[RX args 0 .leaf t h j];unfold nn;by_cases hj:j<args.length
 .rw[if_pos ⟨Nat.zero_le _,oG⟩];simp
 .rw[if_neg oG];simp only[jL,Abs.getD];have:(T.leaf:T D).get j=none:=by unfold T.get;exact zu _
  simp[this,hj]
theorem age{r:ResultVar}{d:D}(h:OT P c r=some d):∃ p:Prop,r8 P (bP c) r=some (p,d)/\p:=by
 unfold OT at h;split at h
 .cases h;exact⟨True,rfl,trivial⟩
 .rename_i a t;split at h
  .rename_i i off ha;split at h
   .rename_i cs e hm;cases hb:(aO P t&&lE (off+P.cellsOf t) cs) with
    |false=>rw[hb] at h;cases h
    |true=>
     rw[hb] at h;simp only[cond_true,aV] at h;simp only[aB,oF] at hb;refine⟨aO P t=true/\off+P.cellsOf t<=cs.length,?_,hb⟩;have C:(bP c).env a=.rp i off:=ha;have J:(bP c).mem i=some (.cells cs e):=hm;simp only[r8,C,J, <- h,Bo,qq]
   .cases h
  .rename_i cs ha;cases hb:(aO P t&&lE (P.cellsOf t) cs) with
   |false=>rw[hb] at h;cases h
   |true=>
    rw[hb] at h;simp only[cond_true,aV] at h;simp only[aB,oF] at hb;refine⟨aO P t=true/\P.cellsOf t<=cs.length,?_,hb⟩;have C:(bP c).env a=.pt cs:=ha;simp only[r8,C, <- h,Bo]
  .cases h
theorem UE{K:List D->Prop}:∀ (rs:List ResultVar) (ds C:List D),E3 P c rs=some ds->K (C++ds)->qP P (bP c) rs C K
 |[],ds,C,h,hk=>by
  simp only[E3,aV] at h;subst h;simpa[qP] using hk
 |r::rs,ds,C,h,hk=>by
  simp only[E3] at h;split at h
  .rename_i d hd;split at h
   .rename_i J h1;cases h;obtain⟨p,h2,M⟩:=age hd;simp only[qP,h2];exact⟨M,UE rs J (C++[d]) h1 (by simpa using hk)⟩
   .cases h
  .cases h
theorem Mt(lV:P.follows .mixedOrders=true)(OU:I5 P x.lH)(sv:Ct P ev){f:FuncId}{args:List D}{m m':T Row}{nx aD:Nat}{y:D ⊕ List PanicEntry}(h:yG P x ev hd f args m nx=some (y,m',aD)):ZC P hd f args (bE m) nx y (bE m') aD:=by
 unfold yG at h;split at h
 .cases h
 .rename_i fn c hf;obtain⟨X,hb,al,he⟩:=OU _ _ _ hf;refine⟨he,fun F β w vs hh hm gy hR=>?_⟩;cases hn:lE args.length (List.replicate fn.ntmps .u) with
  |false=>rw[hn] at h;cases h
  |true=>
   rw[hn] at h;have eO:args.length<=fn.ntmps:=by simpa[oF] using hn
   simp only[cond_true] at h;split at h
   .cases h
   .rename_i t ht;cases hx:ev hd true c ⟨t,m,nx⟩ with
    |none=>rw[hx] at h;cases h
    |some es=>
     obtain⟨e,s⟩:=es;rw[hx] at h;have J:bP ⟨t,m,nx⟩=⟨nn args,bE m,nx⟩:=by rw[<- acI ht];rfl
     refine Tn X hb eO hm gy hR (fun a ha hs=>wpIn_mono (sv hd true c ⟨t,m,nx⟩ e s hx F none 0 β w a (fun _=>rfl) hh (by rw[ha];exact al) (by rw[J];exact hs)) fun _ _ _ h=>h.1) ?_;rintro e2 st' β' w' a' ⟨rfl,rfl⟩ hs O C U
     have M:IB P fn s=some (y,m',aD)->∃ v,(results fn a'.tmps).run P w'=.ok v w'/\Ends P F β w nx y (bE m') aD (.returned v) w':=fun h=>by
      unfold IB at h;split at h
      .rename_i ds gG;simp only[aV,cN] at h;obtain⟨rfl,rfl,rfl⟩:=h;obtain⟨v,d,g1,rfl,g3⟩:=Rp (fn:=fn) (K:=fun d=>d=wG ds) hs (UE _ ds [] gG rfl);exact⟨v,g1,β',⟨v,rfl,g3⟩,hs.m,hs.n,O,C,U⟩
      .cases h
     cases e2 with
     |normal=>exact M h
     |ret=>exact M h
     |panic ch=>
      simp only[VN,aV,cN] at h;obtain⟨rfl,rfl,rfl⟩:=h;exact⟨β',rfl,hs.m,hs.n,O,C,U⟩
     |_=>cases h
end
section
variable{P:Program}{F:Nat->Prop}{β β':aJ}{w w':World}{m:Mem}
theorem I6{O:aJ}{M:World}{i l:Nat}{L:Loop}{k:RS}(hm:aL P F m β w)(hi:m i=some (.lp k))(h1:O i=some (.lp l))(U:M.heap[l]? =some (.loop L))(hs:Step O M β w):
 β i=some (.lp l)/\∃ st pe,w.heap[l]? =some (.loop { L with state:=st,pending:=pe })/\RS.Is { L with state:=st,pending:=pe } k:=by
 obtain⟨p,hp,hr⟩:=hm.row i _ hi;cases hr with
 |lp _ r X hb hk=>
  have C:β i=some (.lp l):=by
   rcases hs.iR i _ h1 with h2|h2
   .exact h2
   .rw[h2] at hp;cases hp
  rw[C] at hp;cases hp;obtain⟨st,pe,J⟩:=hs.lp i l h1 C L U;rw[J] at hb;cases hb;exact⟨C,st,pe,J,hk⟩
theorem L3{i l:Nat}{L:Loop}{st:LoopState}{pe:Option Code}{r:Option Row}(hm:aL P F m β w)(C:β i=some (.lp l))(X:w.heap[l]? =some (.loop L))
 (hr:∀ r',r=some r'->∃ k,r'=.lp k/\RS.Is { L with state:=st,pending:=pe } k):
 aL P F (up m i r) β (w.putObj l (.loop { L with state:=st,pending:=pe }))/\Step β w β (w.putObj l (.loop { L with state:=st,pending:=pe }))/\(w.putObj l (.loop { L with state:=st,pending:=pe })).heap[l]? =some (.loop { L with state:=st,pending:=pe }):=by
 have al:=hm.lt i _ l C rfl;have J:(w.putObj l (.loop { L with state:=st,pending:=pe })).heap[l]? =some (.loop { L with state:=st,pending:=pe }):=World.putObj_heap_same al
 have hs:Step β w β (w.putObj l (.loop { L with state:=st,pending:=pe })):=⟨oS,fun b _ hf=>⟨World.putObj_heap_other fun e=>hf i _ C (by rw[e];rfl),hf⟩,fun _ _ h=>.inl h,⟨rfl,rfl⟩,fun j q _ _=>by
  by_cases hq:q=l
  .subst hq;intro L0 O;rw[X] at O;cases O;exact⟨st,pe,J⟩
  .exact px (World.putObj_heap_other hq)⟩
 refine⟨⟨fun j r' hj=>?_,hm.inj,fun j p b hp hb=>by simpa using hm.lt j p b hp hb,hm.nf,hm.fb.next (fun b hb=>by simpa using hm.fb.lt b hb) (fun _ h=>h) fun t ht U=>World.putObj_heap_other fun e=>hm.nf i _ l C rfl (e▸U)⟩,hs,J⟩;by_cases M:j=i
 .subst M;rw[an] at hj;obtain⟨k,rfl,hk⟩:=hr r' hj;exact⟨_,C,.lp k l _ J hk⟩
 .rw[aZ _ _ M] at hj;obtain⟨p,hp,aA⟩:=hm.row j r' hj;exact⟨p,hp,aA.step hs fun b hb=>World.putObj_heap_other fun e=>M (hm.inj j i p _ l hp C (by rw[hb,e]) rfl)⟩
theorem Rz:∀ (ps:List Tmp) (ds:List D) (t C:T D),Bv t ps ds=some C->jL C=vX (jL t) ps ds
 |[],ds,t,C,h=>by simp only[Bv,aV] at h;subst h;rfl
 |_::_,[],t,C,h=>by simp only[Bv,aV] at h;subst h;rfl
 |p::ps,d::ds,t,C,h=>by
  simp only[Bv] at h;split at h
  .rename_i J h1;rw[Rz ps ds J C h,Tz h1];rfl
  .cases h
theorem z6.trans{rf:Bool}{s J s':cW}{a a1 a':Act}{O:aJ}{M:World}{e C:Exit}(h:o7 s.nx β w a (bP J) O M a1)(hd:rf=false->a1.defers=a.defers)(k:z6 P F rf J.nx O M a1 e s' C a' w'):z6 P F rf s.nx β w a e s' C a' w':=by
 obtain⟨⟨st',β',h1,h2,U⟩,X⟩:=k;exact⟨⟨st',β',h1,h2,h.trans U⟩,fun e=>(X e).trans (hd e)⟩
structure yk(P:Program)(x:Ctx):Prop where
 mix:P.follows .mixedOrders=true
 lH:I5 P x.lH
 known:∀ f args r,x.known f args=some r->az P f args r
 Ew:∀ f args m nx y m' aD,x.Ew f args m nx=some (y,m',aD)->ZC P [] f args (bE m) nx y (bE m') aD
variable{x:Ctx}{ev:Ev}{hd:Hd}
theorem ZC.any{f:FuncId}{args:List D}{nx aD:Nat}{y:D ⊕ List PanicEntry}{m':Mem}(h:ZC P [] f args m nx y m' aD):ZC P hd f args m nx y m' aD:=
 ⟨h.1,fun F β w vs _=>h.2 F β w vs L2⟩
theorem aev(hx:yk P x)(sv:Ct P ev){g:Operand}{ps:Array Tmp}{assign body:Code}{s s':cW}{e:Exit}{rf:Bool}(h:M9 g ps assign body P x ev hd rf s=some (e,s')){r:Option Nat}{n:Nat}{a:Act}
 (gi:rf=true->r=none) (hh:n5 P F hd β w) (al:iO a.tmps.size (.rangeFunc g ps assign body)=true) (hs:cK P F (bP s) β w a):(Code.rangeFunc g ps assign body).wpIn (Fe r) n P (EE P F s.nx β w a (QE e s')) a w:=by
 unfold M9 at h;cases rf with
 |false=>cases h
 |true=>
 have hr:=gi rfl;subst hr;simp only[cond_true] at h;split at h
 rotate_left
 .cases h
 rename_i f fs cs hv;split at h
 .cases h
 rename_i m0 ln;simp only[iO,aB,bT,Nat.blt_eq] at al;obtain⟨o8,Ow,Ox⟩:=al
 obtain⟨y,X,CT,dX⟩:∃ y X CT,yG P x ev ((s.nx,Ex ev hd s.nx s.env ps.toList assign body)::hd) f (fs++[.yl s.nx]++cs) m0 (s.nx+1)=some (y,X,CT):=by
  generalize yG P x ev ((s.nx,Ex ev hd s.nx s.env ps.toList assign body)::hd) f (fs++[.yl s.nx]++cs) m0 (s.nx+1)=z at h;cases z with
  |none=>cases h
  |some z=>obtain⟨y,X,CT⟩:=z;exact⟨_,_,_,rfl⟩
 rw[dX] at h;have hz:=Mt hx.mix hx.lH sv dX
 have hR:R F β w (.fn (.func f) fs cs) (a.eval g):=by
  rw[<- hv,D3];exact hs.e.un.opd g
 refine wpIn_rangeFunc fun fn q6=>?_;obtain⟨L,O⟩:∃ L:Loop,L={ state:=.ready,pending:=none,fn,tmps:=a.tmps,params:=ps,assign,body,defers:=w.heap.size }:=⟨_,rfl⟩
 obtain⟨J,q9⟩:∃ J,(w.alloc (.deferred (some []))).alloc (.loop L)=J:=⟨_,rfl⟩
 obtain⟨l,hl⟩:∃ l,l=w.heap.size+1:=⟨_,rfl⟩
 obtain⟨us,vs,d,FE,sj,hu,AA,n1,hinv⟩:=Rc (P:=P) hR hz.1 l J;have hn:∀ i,s.nx<=i->β i=none:=hs.n;have wS:Step β w β (w.alloc (.deferred (some []))):=Bj oS fun b hb=>heap_alloc_old w _ hb;have XV:aL P F (bE s.mem) β (w.alloc (.deferred (some []))):=hs.m.ext oS fun b hb=>heap_alloc_old w _ hb;have Cj:∀ b,(Pl.lp l).bF=some b->b=(w.alloc (.deferred (some []))).heap.size:=fun b hb=>by simp only[Pl.bF,aV] at hb;simp;omega
 have Fb:J.heap[l]? =some (.loop L):=by
  rw[<- q9,hl];have:=World.alloc_heap_new (w.alloc (.deferred (some []))) (.loop L)
  rwa[World.size_alloc] at this
 have FF:aL P F (bE m0) (up β s.nx (some (.lp l))) J:=by
  rw[Br ln, <- q9];refine XV.alloc (hn _ (bM _)) _ _ _ Cj (.lp _ l L ?_ ⟨by rw[O],by rw[O]⟩);rw[q9];exact Fb
 have iE:Step β w (up β s.nx (some (.lp l))) J:=by
  rw[<- q9];exact wS.trans (Bb XV _ (hn _ (bM _)) _ Cj)
 have Df:(up β s.nx (some (.lp l))) s.nx=some (.lp l):=an _ _ _
 have rk:∀ i,s.nx+1<=i->(up β s.nx (some (.lp l))) i=none:=fun i hi=>by
  rw[aZ _ _ (show i≠s.nx by omega)];exact hn i oG
 have PF:J.heap[w.heap.size]? =some (.deferred (some [])):=by
  rw[<- q9,heap_alloc_old _ _ oS];exact World.alloc_heap_new w _
 have Et:aJ.free (up β s.nx (some (.lp l))) w.heap.size:=
  sE (fun i p hp e=>by have:=hs.m.lt i p _ hp e;omega) (by rintro q hq;cases hq;simp[Pl.bF];omega)
 have al9:J.heap.size=w.heap.size+2:=by rw[<- q9];simp
 have hh1:n5 P F ((s.nx,Ex ev hd s.nx s.env ps.toList assign body)::hd) (up β s.nx (some (.lp l))) J:=by
  intro i hf Dg;simp only[E0] at Dg;by_cases hi:s.nx=i
  rotate_left
  .have:Nat.beq s.nx i=false:=by cases hb:Nat.beq s.nx i with|false=>rfl|true=>exact absurd (Nat.eq_of_beq_eq_true hb) hi
   rw[this] at Dg;exact(hh.step iE) i hf Dg
  .subst hi;rw[Nat.beq_refl] at Dg;simp only[cond_true,aV] at Dg;subst Dg;refine⟨l,.inl Df,fun args m nx b m' aD U C=>?_⟩;intro β2 w2 wT Ck vq yY wU;unfold Ex at C;cases hlen:Nat.beq args.length ps.toList.length with
   |false=>rw[hlen] at C;cases C
   |true=>
   rw[hlen] at C;have uG:args.length=ps.size:=by simpa using hlen
   simp only[cond_true] at C;split at C
   rotate_left
   .cases C
   rename_i t ht
   obtain⟨e3,M,Y3⟩:∃ e3 M,ev hd false assign ⟨t,m,nx⟩=some (e3,M):=by
    generalize ev hd false assign ⟨t,m,nx⟩=z at C;cases z with
    |none=>cases C
    |some z=>exact⟨z.1,z.2,rfl⟩
   rw[Y3] at C;obtain⟨hβ2,PX,pe2,XW,F7⟩:=I6 vq (show bE m s.nx=some (.lp .ready) from U) Df Fb Ck
   have eL:({ L with state:=PX,pending:=pe2 }:Loop)=L:=by
    obtain⟨k1,k2⟩:=F7;simp only at k1 k2;rw[O,k1,k2]
   rw[eL] at XW;have Oz:wT.size=ps.size:=by rw[wU.1];exact uG
   have hy:=run_yield (P:=P) (args:=wT) XW (by rw[O];exact Oz);simp only[O,Sg] at hy;refine⟨fn,_,assign,body,hy,fun n'=>?_⟩;have WV:=iE.trans Ck;have Y4:n5 P F hd β2 w2:=hh.step WV;have PH:gP F β2 w2 (jL s.env) { tmps:=a.tmps,defers:=[] }:=fun t=>(hs.e t).step WV;obtain⟨PI,EX⟩:=K4 ps.toList args wT.toList (jL s.env) a.tmps (by simp[wU.1]) (fun j d v hd hv=>wU.2 j d v hd (by simpa using hv)) (fun t ht=>o8 t ht) PH
   have aiu:cK P F (bP ⟨t,m,nx⟩) β2 w2 { tmps:=(ps.toList.zip wT.toList).foldl (fun tmps (t,a)=>tmps.setIfInBounds t a) a.tmps,defers:=[] }:=⟨by
    show gP F β2 w2 (jL t) _
    rw[Rz _ _ _ _ ht];exact PI,vq,yY⟩
   have OA:=sv hd false assign _ e3 M Y3 F (some l) n' β2 w2 _ (fun h=>by cases h) Y4 (by show iO (Array.size _) assign=true;rw[EX];exact Ow) aiu;refine roundIn_of_wpIn trivial (wpIn_mono OA fun e a3 w3 hp=>?_);obtain⟨⟨_,β3,⟨rfl,rfl⟩,sr,iF⟩,_⟩:=hp;unfold VP at C;split at C
   rotate_left
   .cases C
   rename_i s3' oh;cases oh;split at C
   rotate_left
   .cases C
   rename_i amj;split at C
   rotate_left
   .cases C
   rename_i m4 hm4;obtain⟨hβ3,kQ,pe3,OV,hk3⟩:=I6 sr.m (show bE M.mem s.nx=some (.lp .ready) from amj) Df Fb (Ck.trans iF.step)
   have eL3:({ L with state:=kQ,pending:=pe3 }:Loop)=L:=by
    obtain⟨k1,k2⟩:=hk3;simp only at k1 k2;rw[O,k1,k2]
   rw[eL3] at OV;obtain⟨hmb,OW,aq2⟩:=L3 (st:=.busy) (pe:=none) (r:=some (.lp .busy)) sr.m hβ3 OV (fun r' iD=>⟨.busy,(Option.some.inj iD).symm,rfl,rfl⟩);have eLb:({ L with state:=.busy }:Loop)={ L with state:=.busy,pending:=none }:=by rw[O]
   refine⟨_,run_beginRound OV (by rw[O]),?_⟩;rw[eLb]
   obtain⟨e5,s5,Y5⟩:∃ e5 s5,ev hd false body ⟨M.env,m4,M.nx⟩=some (e5,s5):=by
    generalize ev hd false body ⟨M.env,m4,M.nx⟩=z at C;cases z with
    |none=>cases C
    |some z=>exact⟨z.1,z.2,rfl⟩
   rw[Y5] at C
   have aiv:cK P F (bP ⟨M.env,m4,M.nx⟩) β3 (w3.putObj l (.loop { L with state:=.busy,pending:=none })) a3:=⟨sr.e.step OW,by
    show aL P F (bE m4) β3 _
    rw[Br hm4];exact hmb,sr.n⟩
   have NA:=sv hd false body _ e5 s5 Y5 F (some l) n' β3 _ a3 (fun h=>by cases h) ((Y4.step iF.step).step OW) (by rw[iF.size];show iO (Array.size _) body=true;rw[EX];exact Ox) aiv;refine wpIn_mono NA fun e a5 w5 hp5=>?_;obtain⟨⟨_,β5,⟨rfl,rfl⟩,P4,F8⟩,_⟩:=hp5;have XX:Step β2 w2 β5 w5:=(iF.step.trans OW).trans F8.step
   have fin:∀ (jump:Option Code) (bb:Bool) (k:RS),bb=jump.isNone->RS.Is { L with state:=if jump.isNone then .ready else .done,pending:=jump } k->EH s.nx bb k s5=some (b,m',aD)->
    ∃ v w',(Instr.endRound l jump).run P w5=.ok v w'/\∃ v' d m2 iU β',Ending.returned v=.returned v'/\(d=.s (.bool b)/\m2=bE m'/\iU=aD)/\aL P F m2 β' w'/\(∀ i,iU<=i->β' i=none)/\R F β' w' d v'/\Step β2 w2 β' w'/\nx<=iU/\∀ i,i<nx->β2 i=none->β' i=none:=fun jump bb k PC hk tx=>by
    unfold EH at tx;split at tx
    rotate_left
    .cases tx
    rename_i amk;split at tx
    rotate_left
    .cases tx
    rename_i X tz;simp only[aV,cN] at tx;obtain⟨rfl,rfl,rfl⟩:=tx;obtain⟨hβ5,st5,pe5,XY,hk5⟩:=I6 P4.m (show bE s5.mem s.nx=some (.lp .busy) from amk) Df Fb (Ck.trans XX);obtain⟨P5,OX,aq3⟩:=L3 (st:=if jump.isNone then .ready else .done) (pe:=jump) (r:=some (.lp k)) P4.m hβ5 XY (fun r' iD=>⟨k,(Option.some.inj iD).symm,hk⟩);refine⟨_,_,run_endRound (P:=P) jump XY,.bool jump.isNone,.s (.bool bb),bE X,s5.nx,β5,rfl,⟨rfl,rfl,rfl⟩,?_,P4.n,?_,XX.trans OX,Nat.le_trans iF.le F8.le,fun i hi hb=>F8.grow i (Nat.lt_of_lt_of_le hi iF.le) (iF.grow i hi hb)⟩
    .rw[Br tz];exact P5
    .rw[PC];exact .s _ rfl
   unfold VO at C;cases e with
   |normal=>exact fin none true .ready rfl ⟨rfl,rfl⟩ C
   |ret=>exact fin (some .ret) false (.done .ret) rfl ⟨rfl,rfl⟩ C
   |exit id=>exact fin (some (.exit id)) false (.done (.exit id)) rfl ⟨rfl,rfl⟩ C
   |_=>cases C
 refine⟨l,[mark w.heap.size],J,d,J,f,_,J,?_,n1,fun f' _=>trivial,hinv,fun hd=>by simp at hd,Hg ?_⟩
 .rw[<- q9,O,hl];exact run_enterLoop_outer _ _ _ _ _
 refine(hz.2 F _ J _ hh1 FF rk ?_).mono ?_
 .refine Rs.append (Rs.append ?_ ?_) ?_
  .exact⟨by simp[FE],fun k d v hd hv=>(hu k d v hd (by simpa using hv)).step iE⟩
  .refine⟨rfl,fun k d v hd hv=>?_⟩;cases k with
   |zero=>
    simp only[List.getElem?_cons_zero,aV] at hd;simp only[List.getElem?_toArray,List.getElem?_cons_zero,aV] at hv;subst hd;subst hv;exact .yl _ l Df
   |succ k=>simp at hd
  .exact⟨by simp[sj],fun k d v hd hv2=>(AA k d v hd (by simpa using hv2)).step iE⟩
 rintro e6 w6 ⟨β6,hy6,tz,YM,n2,XG,OB⟩;cases y with
 |inr ch=>cases h
 |inl dy=>
 obtain⟨v6,rfl,_⟩:=hy6
 have fin:∀ (k:RS) (jump:Option Code) (e1:Exit),(∀ Lx:Loop,RS.Is Lx k->Lx.state≠ .busy/\Lx.pending=jump)->X.get s.nx=some (.lp k)->E8 s.nx s.env X CT e1=some (e,s')->
  ∃ w7,(Instr.endLoop l).run P w6=.ok jump w7/\EE P F s.nx β w a (QE e s') e1 { a with defers:=[mark w.heap.size]++a.defers } w7:=fun k jump e1 hk U he=>by
  unfold E8 at he;split at he
  rotate_left
  .cases he
  rename_i m7 hm7;simp only[aV,cN] at he;obtain⟨rfl,rfl⟩:=he;obtain⟨hβ6,st6,Y6,XZ,hk6⟩:=I6 tz (show bE X s.nx=some (.lp k) from U) Df Fb n2;obtain⟨hk7,P6⟩:=hk _ hk6;have P6:Y6=jump:=P6;subst P6;have dX:=run_endLoop (P:=P) XZ hk7;obtain⟨P5,OX,_⟩:=L3 (st:=.exhausted) (pe:=Y6) (r:=none) tz hβ6 XZ (fun r' iD=>by cases iD);have X0:=(iE.trans n2).trans OX;have hl6:w.heap.size<w6.heap.size:=by have:=n2.size;omega
  refine⟨_,dX,_,β6,⟨rfl,rfl⟩,⟨fun t=>(hs.e t).step X0,?_,YM⟩,⟨X0,Nat.le_trans (Nat.le_succ _) XG,fun i hi hb=>OB i (Nat.lt_succ_of_lt hi) ?_,rfl,[mark w.heap.size],rfl,w.heap.size,rfl,bM _,by simpa using hl6,?_,(n2.fp _ oG Et).2,trivial⟩⟩
  .show aL P F (bE m7) β6 _;rw[Br hm7];exact P5
  .rw[aZ _ _ (show i≠s.nx by omega)];exact hb
  .exact(World.putObj_heap_other oG).trans ((n2.fp _ oG Et).1.trans PF)
 simp only[VQ] at h;split at h
 .rename_i U;obtain⟨w7,h1,h2⟩:=fin .ready none .normal (fun Lx hk=>⟨by rw[hk.1];simp,hk.2⟩) U h;exact⟨none,w7,h1,h2⟩
 .rename_i U;obtain⟨w7,h1,h2⟩:=fin (.done .ret) (some .ret) .ret (fun Lx hk=>⟨by rw[hk.1];simp,hk.2⟩) U h;exact⟨some .ret,w7,h1,wpIn_ret h2⟩
 .rename_i id U;obtain⟨w7,h1,h2⟩:=fin (.done (.exit id)) (some (.exit id)) (.exit id) (fun Lx hk=>⟨by rw[hk.1];simp,hk.2⟩) U h;exact⟨some (.exit id),w7,h1,wpIn_exit h2⟩
 .cases h
end
section
variable{P:Program}{F:Nat->Prop}{β:aJ}{w:World}
theorem sV:∀ {n:Nat} {d:D},rm n d=true->Tr d
 |0,_,h=>by cases h
 |n+1,d,h=>by
  cases d with
  |rs=>cases h
  |rp=>cases h
  |mp=>cases h
  |sc=>cases h
  |yl=>cases h
  |cS c d=>exact .cS (sV h)
  |agg cs=>exact .agg fun d hd=>sV (bT.1 h d hd)
  |bd cs=>exact .bd fun d hd=>sV (bT.1 h d hd)
  |sl cs n=>exact .sl fun d hd=>sV (bT.1 h d hd)
  |pt cs=>exact .pt fun d hd=>sV (bT.1 h d hd)
  |fn f fs cs=>
   simp only[rm,aB] at h;exact .fn (fun d hd=>sV (bT.1 h.1 d hd)) fun d hd=>sV (bT.1 h.2 d hd)
  |im es=>exact .im fun x hx=>sV (bT.1 h x hx)
  |s v=>exact .s v
  |ub=>exact .ub
  |u=>exact .u
  |z=>exact .z
theorem G4{α β:Type}{f:α->Option (β×List Nat)}:∀ {xs:List α} {ys:List β} {r:List Nat},jv f xs=some (ys,r)->
 ys.length=xs.length/\(∀ (k:Nat) (y:β),ys[k]? =some y->∃ x r',xs[k]? =some x/\f x=some (y,r')/\∀ i∈r',i∈r)
 |[],ys,r,h=>by simp only[jv,aV,cN] at h;obtain⟨rfl,rfl⟩:=h;simp
 |x::xs,ys,r,h=>by
  simp only[jv] at h;cases hx:f x with
  |none=>rw[hx] at h;cases h
  |some y=>
   rw[hx] at h;simp only at h;cases C:jv f xs with
   |none=>rw[C] at h;cases h
   |some J=>
    rw[C] at h;simp only[aV,cN] at h;obtain⟨rfl,rfl⟩:=h;obtain⟨h1,h2⟩:=G4 (ys:=J.1) (r:=J.2) C;refine⟨by simp[h1],fun k z hz=>?_⟩;cases k with
    |zero=>
     simp only[List.getElem?_cons_zero,aV] at hz;subst hz;exact⟨x,y.2,rfl,hx,fun i hi=>by simp[hi]⟩
    |succ k=>
     obtain⟨X,r',M,O,U⟩:=h2 k z (by simpa using hz);exact⟨X,r',by simpa using M,O,fun i hi=>by simp[U i hi]⟩
theorem sK{α β:Type}{f:α->Option (β×List Nat)}{xs:List α}{ys:List β}{r:List Nat}(h:jv f xs=some (ys,r)){p:β->Prop}(hp:∀ x y r',f x=some (y,r')->p y):∀ y∈ys,p y:=fun y hy=>by
 obtain⟨k,hk⟩:=dR hy;obtain⟨x,r',_,h2,_⟩:=(G4 h).2 k y hk;exact hp x y r' h2
theorem HH{m:T Row}:∀ {n:Nat} {d d':D} {r:List Nat},de P m n d=some (d',r)->Tr d'
 |0,_,_,_,h=>by cases h
 |n+1,d,d',r,h=>by
  have ih:∀ x y r',de P m n x=some (y,r')->Tr y:=fun x y r' h=>HH h
  have C:∀ (x:Value×D) (y:Value×D) r',(de P m n x.2).map (fun y=>((x.1,y.1),y.2))=some (y,r')->Tr y.2:=fun x y r' h=>by
   simp only[dI,cN] at h;obtain⟨z,hz,rfl,_⟩:=h;exact HH (r:=z.2) hz
  cases d with
  |sc=>cases h
  |yl=>cases h
  |mp i=>
   simp only[de] at h;split at h
   .simp only[dI,cN] at h;obtain⟨x,hx,rfl,_⟩:=h;exact .im (sK (ys:=x.1) (r:=x.2) hx C)
   .cases h
  |im es=>
   simp only[de,dI,cN] at h;obtain⟨x,hx,rfl,_⟩:=h;exact .im (sK (ys:=x.1) (r:=x.2) hx C)
  |rs i off k=>
   simp only[de] at h;split at h
   .simp only[dI,cN] at h;obtain⟨x,hx,rfl,_⟩:=h;exact .sl (sK (ys:=x.1) (r:=x.2) hx ih)
   .cases h
  |rp i off=>
   simp only[de] at h;split at h
   .simp only[dI,cN] at h;obtain⟨x,hx,rfl,_⟩:=h;exact .pt (sK (ys:=x.1) (r:=x.2) hx ih)
   .cases h
  |cS c d=>
   cases c with
   |true=>
    simp only[de,dI,cN] at h;obtain⟨x,hx,rfl,_⟩:=h;exact .cS (HH (r:=x.2) hx)
   |false=>simp only[de,aV,cN] at h;obtain⟨rfl,_⟩:=h;exact .cS .u
  |agg cs=>
   simp only[de,dI,cN] at h;obtain⟨x,hx,rfl,_⟩:=h;exact .agg (sK (ys:=x.1) (r:=x.2) hx ih)
  |bd cs=>
   simp only[de,dI,cN] at h;obtain⟨x,hx,rfl,_⟩:=h;exact .bd (sK (ys:=x.1) (r:=x.2) hx ih)
  |sl cs k=>
   simp only[de,dI,cN] at h;obtain⟨x,hx,rfl,_⟩:=h;exact .sl (sK (ys:=x.1) (r:=x.2) hx ih)
  |pt cs=>
   simp only[de,dI,cN] at h;obtain⟨x,hx,rfl,_⟩:=h;exact .pt (sK (ys:=x.1) (r:=x.2) hx ih)
  |fn f fs cs=>
   simp only[de] at h;cases hx:jv (de P m n) fs with
   |none=>rw[hx] at h;cases h
   |some x=>
    rw[hx] at h;simp only[dI,cN] at h;obtain⟨y,hy,rfl,_⟩:=h;exact .fn (sK (ys:=x.1) (r:=x.2) hx ih) (sK (ys:=y.1) (r:=y.2) hy ih)
  |s v=>simp only[de,aV,cN] at h;obtain⟨rfl,_⟩:=h;exact .s v
  |ub=>simp only[de,aV,cN] at h;obtain⟨rfl,_⟩:=h;exact .ub
  |u=>simp only[de,aV,cN] at h;obtain⟨rfl,_⟩:=h;exact .u
  |z=>simp only[de,aV,cN] at h;obtain⟨rfl,_⟩:=h;exact .z
def Looks(P:Program)(F:Nat->Prop)(β:aJ)(w:World)(m:T Row)(br:List Nat):Prop:=∀ i∈br,∀ r,m.get i=some r->∃ p,β i=some p/\c7 P F β w r p/\∀ b,p.bF=some b->¬ F b
theorem A'(b:Nat):iN.free b:=fun i p hp=>by cases hp
theorem Ey{m:T Row}:∀ {n:Nat} {d d':D} {r:List Nat},de P m n d=some (d',r)->Looks P F β w m r->∀ {v:Value},R F β w d v->R F iN w d' v
 |0,_,_,_,h,_,_,_=>by cases h
 |n+1,d,d',r,h,hl,v,hv=>by
  have many:∀ {xs ys:List D} {r':List Nat},jv (de P m n) xs=some (ys,r')->(∀ i∈r',i∈r)->ys.length=xs.length/\∀ (k:Nat) (d:D) (u:Value),ys[k]? =some d->(∀ d0,xs[k]? =some d0->R F β w d0 u)->R F iN w d u:=fun h hr=>by
   obtain⟨h1,h2⟩:=G4 h;refine⟨h1,fun k d u hd hu=>?_⟩;obtain⟨x,r2,C,J,O⟩:=h2 k d hd;exact Ey J (fun i hi=>hl i (hr i (O i hi))) (hu x C)
  have look:∀ {i:Nat} {cs:List D} {e:TypeId},i∈r->m.get i=some (.cells cs e)->∃ p,β i=some p/\c7 P F β w (.cells cs e) p/\∀ b,p.bF=some b->¬ F b:=fun hi hm=>hl _ hi _ hm
  have X2:∀ {es ys:List (Value×D)} {r':List Nat} {ms:Array MapEntry},jv (fun x=>(de P m n x.2).map fun y=>((x.1,y.1),y.2)) es=some (ys,r')->(∀ i∈r',i∈r)->ms.size=es.length->(es.map (·.1)).Nodup->
   (∀ (k:Nat) (x:Value×D) (m:MapEntry),es[k]? =some x->ms[k]? =some m->m.key=x.1/\R F β w x.2 m.val)->
   ms.size=ys.length/\(ys.map (·.1)).Nodup/\(∀ (k:Nat) (x:Value×D) (m:MapEntry),ys[k]? =some x->ms[k]? =some m->m.key=x.1)/\∀ (k:Nat) (x:Value×D) (m:MapEntry),ys[k]? =some x->ms[k]? =some m->R F iN w x.2 m.val:=fun {es ys r' ms} h hr bS eN hh=>by
   obtain⟨h1,h2⟩:=G4 h
   have key:∀ (k:Nat) (y:Value×D),ys[k]? =some y->∃ x r2,es[k]? =some x/\y.1=x.1/\de P m n x.2=some (y.2,r2)/\∀ i∈r2,i∈r':=fun k y hy=>by
    obtain⟨x,r2,C,J,O⟩:=h2 k y hy;simp only[dI,cN] at J;obtain⟨z,hz,rfl,rfl⟩:=J;exact⟨x,z.2,C,rfl,hz,O⟩
   have keys:ys.map (·.1)=es.map (·.1):=by
    refine List.ext_getElem? fun k=>?_;simp only[List.getElem?_map];cases hy:ys[k]? with
    |some y=>
     obtain⟨x,_,C,J,_⟩:=key k y hy;simp[C,J]
    |none=>
     have:es[k]? =none:=by
      rw[List.getElem?_eq_none_iff] at hy ⊢;omega
     simp[this]
   refine⟨by rw[h1];exact bS,by rw[keys];exact eN,fun k y mm hy gh=>?_,fun k y mm hy gh=>?_⟩
   .obtain⟨x,r2,C,J,_⟩:=key k y hy;rw[J];exact(hh k x mm C gh).1
   .obtain⟨x,r2,C,_,O,U⟩:=key k y hy;exact Ey O (fun i hi=>hl i (hr i (U i hi))) (hh k x mm C gh).2
  cases d with
  |sc=>cases h
  |yl=>cases h
  |mp i=>
   simp only[de] at h;split at h
   .rename_i es hm;simp only[dI,cN] at h;obtain⟨x,hx,rfl,rfl⟩:=h;obtain⟨p,hp,aA,xg⟩:=hl i (List.mem_cons_self ..) _ hm;cases hv with
    |AB _ _ h1 _=>rw[h1] at hp;cases hp;exact absurd rfl aA.live
    |mp _ b h1=>
     rw[h1] at hp;cases hp;cases aA with
     |map _ _ ms clock C J O U=>
      obtain⟨k1,X,k3,k4⟩:=X2 (ys:=x.1) (r':=x.2) hx (fun i hi=>List.mem_cons_of_mem _ hi) J O U;exact .im x.1 b ms clock (xg b rfl) (A' b) C k1 X k3 k4
   .cases h
  |im es=>
   simp only[de,dI,cN] at h;obtain⟨x,hx,rfl,rfl⟩:=h;cases hv with
   |im _ b ms clock hf hb hc J O U g5=>
    obtain⟨k1,X,k3,k4⟩:=X2 (ys:=x.1) (r':=x.2) hx (fun _ h=>h) J O (fun k x m hx hm=>⟨U k x m hx hm,g5 k x m hx hm⟩);exact .im x.1 b ms clock hf (A' b) hc k1 X k3 k4
  |rs i off k=>
   simp only[de] at h;split at h
   .rename_i cs e hm;simp only[dI,cN] at h;obtain⟨x,hx,rfl,rfl⟩:=h;obtain⟨p,hp,aA,xg⟩:=look (List.mem_cons_self ..) hm;obtain⟨C,J⟩:=many (ys:=x.1) (r':=x.2) hx (fun i hi=>List.mem_cons_of_mem _ hi)
    have nil:(cs.drop off).take (k*P.cellsOf e)=[]->x.1=[]:=fun e=>by
     rw[e] at C;exact List.eq_nil_of_length_eq_zero (by simpa using C)
    cases hv with
    |l9 _ _ _ _ h1 _=>
     rw[h1] at hp;cases hp;exact absurd rfl aA.live
    |jO _ a h1=>
     rw[h1] at hp;cases hp;cases aA;rw[nil oS];exact .jy a 0
    |kO _ _ a b o len room sz h1=>
     rw[nil oS];exact .jy a 0
    |rs _ _ _ cap b o len room sz h1 hn dO h2 h3=>
     rw[h1] at hp;cases hp;obtain⟨bY,hl,bS,_⟩:=aA.rd;obtain⟨us,u1,u2⟩:=(bY.drop off).take (k*P.cellsOf e)
     have al:b<w.heap.size:=by
      cases aA with
      |cells _ _ _ _ _ _ c hb=>exact(Array.getElem?_eq_some_iff.1 hb).1
     exact .sl x.1 k b (o+off) cap us (xg b rfl) (A' b) al hn dO (fun j hj=>u1 j (by rw[<- C];exact hj)) fun j d hd=>J j d _ hd fun d0 M=>u2 j d0 M
   .cases h
  |rp i off=>
   simp only[de] at h;split at h
   .rename_i cs e hm;simp only[dI,cN] at h;obtain⟨x,hx,rfl,rfl⟩:=h;obtain⟨p,hp,aA,xg⟩:=look (List.mem_cons_self ..) hm;obtain⟨C,J⟩:=many (ys:=x.1) (r':=x.2) hx (fun i hi=>List.mem_cons_of_mem _ hi);cases hv with
    |tw _ _ _ h1 _=>
     rw[h1] at hp;cases hp;exact absurd rfl aA.live
    |rp _ _ b o len room sz h1=>
     rw[h1] at hp;cases hp;obtain⟨bY,hl,bS,_⟩:=aA.rd;obtain⟨us,u1,u2⟩:=bY.drop off
     have al:b<w.heap.size:=by
      cases aA with
      |cells _ _ _ _ _ _ c hb=>exact(Array.getElem?_eq_some_iff.1 hb).1
     exact .pt x.1 b (o+off) us (xg b rfl) (A' b) al (fun j hj=>u1 j (by rw[<- C];exact hj)) fun j d hd=>J j d _ hd fun d0 M=>u2 j d0 M
   .cases h
  |cS c d=>
   cases hv with
   |cS _ _ _ h1 h2=>
   cases c with
   |true=>
    simp only[de,dI,cN] at h;obtain⟨x,hx,rfl,rfl⟩:=h;exact .cS true _ v (fun _=>Ey (r:=x.2) hx hl (h1 rfl)) oS
   |false=>simp only[de,aV,cN] at h;obtain⟨rfl,_⟩:=h;exact .cS false _ v oS h2
  |agg cs=>
   simp only[de,dI,cN] at h;obtain⟨x,hx,rfl,rfl⟩:=h;obtain⟨vs,rfl,sj,hh⟩:=hv.sM;obtain⟨C,J⟩:=many (ys:=x.1) (r':=x.2) hx (fun _ h=>h);exact .agg _ vs (by rw[C];exact sj) fun k d u hd hu=>J k d u hd fun d0 M=>hh k d0 u M hu
  |bd cs=>
   simp only[de,dI,cN] at h;obtain⟨x,hx,rfl,rfl⟩:=h;obtain⟨vs,rfl,sj,hh⟩:=hv.Bt;obtain⟨C,J⟩:=many (ys:=x.1) (r':=x.2) hx (fun _ h=>h);exact .bd _ vs (by rw[C];exact sj) fun k d u hd hu=>J k d u hd fun d0 M=>hh k d0 u M hu
  |sl cs k=>
   simp only[de,dI,cN] at h;obtain⟨x,hx,rfl,rfl⟩:=h;obtain⟨C,J⟩:=many (ys:=x.1) (r':=x.2) hx (fun _ h=>h);cases hv with
   |jy a cap=>
    have:x.1=[]:=List.eq_nil_of_length_eq_zero (by simpa using C);rw[this];exact .jy a cap
   |sl _ _ b o cap us hf hb al pT dO hc hh=>
    exact .sl _ k b o cap us hf (A' b) al pT dO (fun j hj=>hc j (by rw[<- C];exact hj)) fun j d hd=>J j d _ hd fun d0 M=>hh j d0 M
  |pt cs=>
   simp only[de,dI,cN] at h;obtain⟨x,hx,rfl,rfl⟩:=h;obtain⟨C,J⟩:=many (ys:=x.1) (r':=x.2) hx (fun _ h=>h);cases hv with
   |pt _ b o us hf hb al hc hh=>
    exact .pt _ b o us hf (A' b) al (fun j hj=>hc j (by rw[<- C];exact hj)) fun j d hd=>J j d _ hd fun d0 M=>hh j d0 M
  |fn f fs cs=>
   simp only[de] at h;cases hx:jv (de P m n) fs with
   |none=>rw[hx] at h;cases h
   |some x=>
    rw[hx] at h;simp only[dI,cN] at h;obtain⟨y,hy,rfl,rfl⟩:=h;obtain⟨C,J⟩:=many (ys:=x.1) (r':=x.2) hx (fun _ h=>List.mem_append_left _ h);obtain⟨k1,X⟩:=many (ys:=y.1) (r':=y.2) hy (fun _ h=>List.mem_append_right _ h);cases hv with
    |fn _ _ _ us vs FE sj h1 h2=>
     exact .fn f _ _ us vs (by rw[C];exact FE) (by rw[k1];exact sj) (fun k d u hd hu=>J k d u hd fun d0 M=>h1 k d0 u M hu) fun k d u hd hu=>X k d u hd fun d0 M=>h2 k d0 u M hu
  |s v=>simp only[de,aV,cN] at h;obtain⟨rfl,_⟩:=h;obtain⟨rfl,h⟩:=hv.cI;exact .s _ h
  |ub=>simp only[de,aV,cN] at h;obtain⟨rfl,_⟩:=h;obtain⟨b,rfl⟩:=hv.Ep;exact .ub b
  |u=>simp only[de,aV,cN] at h;obtain⟨rfl,_⟩:=h;exact .u v
  |z=>simp only[de,aV,cN] at h;obtain⟨rfl,_⟩:=h;rw[hv.yD];exact .z
theorem KX{m:T Row}{n:Nat}{br:List Nat}:∀ {aS bs:List D} {r:List Nat},jv (de P m n) aS=some (bs,r)->(∀ i∈r,i∈br)->jx P br (bE m) aS bs
 |[],bs,r,h,_=>by
  simp only[jv,aV,cN] at h;obtain⟨rfl,_⟩:=h;trivial
 |a::aS,bs,r,h,hr=>by
  simp only[jv] at h;split at h
  .cases h
  .rename_i y hy;split at h
   .cases h
   .rename_i ys C;simp only[aV,cN] at h;obtain⟨rfl,rfl⟩:=h;exact⟨fun F β w v hl hv=>Ey (r:=y.2) hy (fun i hi=>hl i (hr i (List.mem_append_left _ hi))) hv,KX (r:=ys.2) C fun i hi=>hr i (List.mem_append_right _ hi)⟩
theorem Sw:bE .leaf=fun _=>none:=by funext j;exact zu _
theorem aew{f:FuncId}{args:List D}{d r:D}{m':T Row}{n aD:Nat}{br:List Nat}(hz:ZC P [] f args (bE .leaf) 0 (.inl d) (bE m') aD)(ht:∀ a∈args,Tr a)(hd:de P m' n d=some (r,br)):az P f args r:=
 ⟨hz.1,ht,fun F w vs C hR=>(hz.2 F iN w vs L2 (Sw▸GZ C) (fun _ _=>rfl) hR).mono fun e w' ⟨β',⟨v,he,hv⟩,hm,hn,bH,_⟩=>
  ⟨v,he,Ey hd (fun i hi r hr=>by obtain⟨p,hp,aA⟩:=hm.row i r hr;exact⟨p,hp,aA,fun b hb=>hm.nf i p b hp hb⟩) hv,KN bH⟩⟩
variable{x:Ctx}{ev:Ev}
def Nb(P:Program)(f:FuncId)(args:List D):D ⊕ (List D×Nat×TypeId)->Prop
 | .inl r=>az P f args r
 | .inr (es,k,t)=>nj P f args es k t
theorem aex{f:FuncId}{args:List D}{M:D ⊕ List PanicEntry}{m':T Row}{aD:Nat}{y:D ⊕ (List D×Nat×TypeId)}(h:NX P (some (M,m',aD))=some y)(hz:ZC P [] f args (bE .leaf) 0 M (bE m') aD)(ht:∀ a∈args,Tr a):Nb P f args y:=by
 cases M with
 |inr ch=>cases h
 |inl d=>
  have deep:∀ {d},I1 P m' d=some y->ZC P [] f args (bE .leaf) 0 (.inl d) (bE m') aD->Nb P f args y:=fun {d} hd hz=>by
   unfold I1 at hd;split at hd
   .rename_i r br dc;cases hd;exact aew hz ht dc
   .cases hd
  unfold NX at h;split at h
  .rename_i i k m2 X J;cases J;split at h
   .rename_i es t U;cases C:es.all (rm depth) with
    |false=>rw[C] at h;exact deep h hz
    |true=>
     rw[C] at h;cases h;exact To hz.1 ht (fun a ha=>sV (bT.1 C a ha)) fun F w vs O hR=>(hz.2 F iN w vs L2 (Sw▸GZ O) (fun _ _=>rfl) hR).mono fun e w' ⟨β',⟨v,he,hv⟩,hm,hn,bH,_⟩=>⟨v,i,_,β',he,U,hv,hm,bH⟩
   .cases h
  .rename_i J;cases J;exact deep h hz
  .cases h
theorem L4(hx:yk P x)(C:Ct P ev){f:FuncId}{args:List D}{y:D ⊕ (List D×Nat×TypeId)}(h:wv P x ev f args=some y)(ht:∀ a∈args,Tr a):Nb P f args y:=by
 unfold wv at h;cases hr:yG P x ev [] f args .leaf 0 with
 |none=>rw[hr] at h;cases h
 |some z=>
  obtain⟨J,m',aD⟩:=z;rw[hr] at h;exact aex h (Mt hx.mix hx.lH C hr) ht
theorem TA:∀ {n:Nat} {d:D},Cf n d=true->Nt d
 |0,d,h=>by cases h
 |n+1,d,h=>fun F F' β β' w w' v hv=>by
  have many:∀ {cs:List D},cs.all (Cf n)=true->∀ {vs:List Value},(∀ (k:Nat) (d:D) (u:Value),cs[k]? =some d->vs[k]? =some u->R F β w d u)->∀ (k:Nat) (d:D) (u:Value),cs[k]? =some d->vs[k]? =some u->R F' β' w' d u:=
   fun hc _ hh k d u hd hu=>TA (bT.1 hc d (cx hd)) F F' β β' w w' u (hh k d u hd hu)
  unfold Cf at h;split at h
  .rw[hv.cI.1];exact .s _ hv.cI.2
  .obtain⟨b,rfl⟩:=hv.Ep;exact .ub b
  .rw[hv.yD];exact .z
  .obtain⟨vs,rfl,hl,hh⟩:=hv.sM;exact .agg _ vs hl (many h hh)
  .obtain⟨vs,rfl,hl,hh⟩:=hv.Bt;exact .bd _ vs hl (many h hh)
  .cases h
theorem TC{hd:Hd}(hx:yk P x)(U:Ct P ev):Bx P hd (I3 P x ev hd):=fun f args m nx y m' aD h=>by
 unfold I3 at h;split at h
 .rename_i r hr;cases h;have hp:=hx.known _ _ _ hr;exact⟨hp.1,fun F β w vs _ hm C hR=>(Sc hm hp hR).mono fun e w' ⟨v,h1,h2,J,M⟩=>⟨β,⟨v,h1,h2⟩,J,C,M,bM _,fun _ _ h=>h⟩⟩
 .split at h
  .rename_i r hr;cases h;exact(hx.Ew _ _ _ _ _ _ _ hr).any
  .split at h
   .rename_i r hr;cases h;cases hi:AO f x.deep with
    |false=>rw[hi] at hr;cases hr
    |true=>
    rw[hi] at hr;simp only[cond_true] at hr;unfold WR at hr;split at hr
    rotate_left
    .cases hr
    rename_i X br O;split at hr
    rotate_left
    .cases hr
    rename_i r' hk;cases hn:Cf depth r' with
    |false=>rw[hn] at hr;cases hr
    |true=>
     rw[hn] at hr;cases hr;have hp:=hx.known _ _ _ hk;exact⟨hp.1,fun F β w vs _ hm C hR=>(Sd hm (KX O fun _ h=>h) (fun _ _ _=>rfl) hp (TA hn) hR).mono fun e w' ⟨v,h1,h2,J,M⟩=>⟨β,⟨v,h1,h2⟩,J,C,M,bM _,fun _ _ h=>h⟩⟩
   .exact Mt hx.mix hx.lH U h
theorem aey(hx:yk P x)(X:Ct P ev):Ec P (NY P x ev):=fun f args m nx p h o st hg hm hn ha hc=>by
 have M:gp #[] o st true:=zs hg
 have U:∀ r,az P f args r->p=⟨r,[],[],0⟩->p.Ok P #[] o st/\∀ i∈p.wr,st.mem i≠none\/(nx<=i/\i<nx+p.new):=fun r hr hp=>by
  subst hp;exact⟨Mp M ha hc hr,by simp[bL.wr]⟩
 unfold NY at h;split at h
 .rename_i r hr;cases h;exact U r (hx.known _ _ _ hr) rfl
 .cases C:args.all (rm depth) with
  |true=>
   rw[C] at h;simp only[cond_true] at h;have ht:∀ a∈args,Tr a:=fun a ha=>sV (bT.1 C a ha);cases hp:wv P x ev f args with
   |none=>rw[hp] at h;cases h
   |some y=>
    rw[hp] at h;have h1:=L4 hx X hp ht;cases y with
    |inl r=>cases h;exact U r h1 rfl
    |inr y=>
     obtain⟨es,k,t⟩:=y;cases h;subst hn;exact⟨VA M ha hc h1,by simp[bL.wr]⟩
  |false=>
   rw[C] at h;simp only[cond_false] at h;split at h
   .cases h
   .rename_i J br O;have iA:jx P br st.mem args J:=by rw[hm];exact KX O fun _ h=>h
    have snap:∀ r,az P f J r->I2 br (some (.inl r))=some p->p.Ok P #[] o st/\∀ i∈p.wr,st.mem i≠none\/(nx<=i/\i<nx+p.new):=fun r hr hp=>by
     simp only[I2] at hp;cases hs:r.jt with
     |false=>rw[hs] at hp;cases hp
     |true=>
      rw[hs] at hp;cases hp;exact⟨Uu M ha hc iA hr hs,by simp[bL.wr]⟩
    split at h
    .rename_i r hr;exact snap r (hx.known _ _ _ hr) h
    .cases hp:wv P x ev f J with
     |none=>rw[hp] at h;cases h
     |some y=>
      rw[hp] at h;cases y with
      |inl r=>exact snap r (L4 hx X hp (sK O fun x y r' h=>HH h)) h
      |inr y=>cases h
theorem ahs(hx:yk P x):∀ n,Ct P (lu P x n):=by
 intro n
 induction n using Nat.strongRecOn with
 |_ n ih=>
 cases n with
 |zero=>intro hd rf c s e s' h;cases h
 |succ n=>
  have hn:=ih n (Nat.lt_succ_self n);intro hd rf c s e s' h F r k β w a gi hh al hs;replace h:codeF c P x (lu P x n) hd rf s=some (e,s'):=h
  have self:∀ {e0},some (e0,s)=some (e,s')->z6 P F rf s.nx β w a e s' e0 a w:=fun {e0} h=>by
   cases h;exact⟨⟨_,β,⟨rfl,rfl⟩,hs,(eW.refl (bP s) β w a).Az⟩,fun _=>rfl⟩
  have andThen:∀ {O c2:Code} {Q:Exit->Act->World->Prop},iO a.tmps.size O=true->I4 (lu P x n) hd rf c2 (lu P x n hd rf O s)=some (e,s')->(∀ J C a1 M U,lu P x n hd rf O s=some (J,C)->cK P F (bP C) U M a1->o7 s.nx β w a (bP C) U M a1->(rf=false->a1.defers=a.defers)->
   (J=.normal->lu P x n hd rf c2 C=some (e,s')->Q .normal a1 M)/\(J≠ .normal->J=e->C=s'->Q J a1 M))->O.wpIn (Fe r) k P Q a w:=fun {O c2 Q} hl ht hk=>by
   cases h1:lu P x n hd rf O s with
   |none=>rw[h1] at ht;cases ht
   |some es=>
    obtain⟨J,C⟩:=es;rw[h1] at ht;refine wpIn_mono (hn hd rf O s J C h1 F r k β w a gi hh hl hs) fun e2 a2 w2 hp=>?_;obtain⟨⟨_,β2,⟨rfl,rfl⟩,tN,rq⟩,iH⟩:=hp;have:=hk e2 C a2 w2 β2 h1 tN rq iH;cases e2 with
    |normal=>exact this.1 rfl ht
    |_=>cases ht;exact this.2 oS rfl rfl
  cases c with
  |skip=>exact wpIn_skip (self h)
  |ret=>exact wpIn_ret (self h)
  |exit id=>exact wpIn_exit (self h)
  |label l=>exact wpIn_label (self h)
  |region id ops dr=>
   have hl:qB a.tmps.size ops=true:=al;refine wpIn_mono (Q:=ep P F s.nx β w a (QE e s')) ?_ fun J a1 M ⟨st',β',h1,h2,h3⟩=>⟨⟨st',β',h1,h2,h3.Az⟩,fun _=>h3.defers⟩
   cases dr with
   |false=>
    refine wpIn_region ?_;exact aet (TC hx hn) hh hl h hs (eW.refl (bP s) β w a)
   |true=>exact aeu hx.mix (TC hx hn) (aey hx hn) hl h hh hs
  |seq O c2=>
   simp only[iO,aB] at al;refine wpIn_seq (andThen al.1 h fun J C a1 M U _ iE X dc=>⟨fun he h2=>?_,fun he h2 h3=>?_⟩)
   .refine wpIn_mono (hn hd rf c2 C e s' h2 F r k U M a1 gi (hh.step X.step) (by rw[X.size];exact al.2) iE) fun e2 a2 w2 hp=>z6.trans X dc hp
   .subst h2;subst h3;have hq:z6 P F rf s.nx β w a J C J a1 M:=⟨⟨_,U,⟨rfl,rfl⟩,iE,X⟩,dc⟩
    cases J with
    |normal=>exact absurd rfl he
    |_=>exact hq
  |loop b=>
   refine Rb (fun j a1 M=>∃ C U,j<=n+1/\lu P x j hd rf (.loop b) C=some (e,s')/\cK P F (bP C) U M a1/\o7 s.nx β w a (bP C) U M a1/\(rf=false->a1.defers=a.defers)) (j₀:=n+1) ⟨s,β,bM _,h,hs,(eW.refl (bP s) β w a).Az,fun _=>rfl⟩ ?_;rintro j a1 M ⟨C,U,hj,h1,iE,X,dc⟩;cases j with
   |zero=>cases h1
   |succ j=>
    replace h1:I4 (lu P x j) hd rf (.loop b) (lu P x j hd rf b C)=some (e,s'):=h1;cases h2:lu P x j hd rf b C with
    |none=>rw[h2] at h1;cases h1
    |some es=>
     obtain⟨e2,s2⟩:=es;rw[h2] at h1;refine wpIn_mono (ih j oG hd rf b C e2 s2 h2 F r k U M a1 gi (hh.step X.step) (by rw[X.size];exact al) iE) fun e3 a3 w3 hp=>?_;obtain⟨⟨_,β3,⟨rfl,rfl⟩,sr,iF⟩,Kb⟩:=hp;cases e3 with
     |normal=>exact⟨j,Nat.lt_succ_self j,s2,β3,oG,h1,sr,X.trans iF,fun e=>(Kb e).trans (dc e)⟩
     |_=>cases h1;exact⟨⟨_,β3,⟨rfl,rfl⟩,sr,X.trans iF⟩,fun e=>(Kb e).trans (dc e)⟩
  |cond c O c2=>
   simp only[iO,aB] at al
   replace h:(match iS s.env c with
    | .s (.bool true)=>lu P x n hd rf O s
    | .s (.bool false)=>lu P x n hd rf c2 s
    |_=>none)=some (e,s'):=h
   have hR:R F β w (iS s.env c) (a.eval c):=by rw[D3];exact hs.e.un.opd c
   split at h
   .rename_i hv;rw[hv] at hR;exact wpIn_cond_split hR.cI.1 (fun _=>hn hd rf O s e s' h F r k β w a gi hh al.1 hs) fun h=>by cases h
   .rename_i hv;rw[hv] at hR;exact wpIn_cond_split hR.cI.1 (fun h=>by cases h) fun _=>hn hd rf c2 s e s' h F r k β w a gi hh al.2 hs
   .cases h
  |scope b=>
   replace h:XU (lu P x n hd rf b s)=some (e,s'):=h;cases h1:lu P x n hd rf b s with
   |none=>rw[h1] at h;cases h
   |some es=>
    obtain⟨J,C⟩:=es;rw[h1] at h;refine RH (wpIn_mono (hn hd rf b s J C h1 F r k β w a gi hh al hs) fun e2 a2 w2 hp=>?_);obtain⟨⟨_,β2,⟨rfl,rfl⟩,tN,rq⟩,iH⟩:=hp;cases e2 with
    |goto l=>cases h
    |_=>cases h;exact⟨⟨_,β2,⟨rfl,rfl⟩,tN,rq⟩,iH⟩
  |block id b=>
   replace h:NZ id (lu P x n hd rf b s)=some (e,s'):=h;cases h1:lu P x n hd rf b s with
   |none=>rw[h1] at h;cases h
   |some es=>
    obtain⟨J,C⟩:=es;rw[h1] at h;refine wpIn_block (wpIn_mono (hn hd rf b s J C h1 F r k β w a gi hh al hs) fun e2 a2 w2 hp=>?_);obtain⟨⟨_,β2,⟨rfl,rfl⟩,tN,rq⟩,iH⟩:=hp;cases e2 with
    |exit i=>
     simp only[NZ] at h;simp only[Exit.inBlock];by_cases hi:i=id
     .rw[if_pos hi];subst hi;rw[Nat.beq_refl] at h;cases h;exact⟨⟨_,β2,⟨rfl,rfl⟩,tN,rq⟩,iH⟩
     .rw[if_neg hi];have:Nat.beq i id=false:=by cases hb:Nat.beq i id with|false=>rfl|true=>exact absurd (Nat.eq_of_beq_eq_true hb) hi
      rw[this] at h;cases h;exact⟨⟨_,β2,⟨rfl,rfl⟩,tN,rq⟩,iH⟩
    |_=>cases h;exact⟨⟨_,β2,⟨rfl,rfl⟩,tN,rq⟩,iH⟩
  |rangeFunc g ps assign body=>
   refine wpIn_mono (aev hx hn h gi hh al hs) fun _ _ _ hp=>⟨hp,fun e=>?_⟩
   subst e;cases h
  |_=>cases h
theorem oz(hx:yk P x)(n:Nat){f:FuncId}{args:List D}{r:D}(h:wv P x (lu P x n) f args=some (.inl r))(ht:args.all (rm depth)=true):az P f args r:=
 L4 hx (ahs hx n) h fun a ha=>sV (bT.1 ht a ha)
end
section
variable{P:Program}{ops:Array Oper}{Q:Exit->St->Prop}{F:Nat->Prop}{N₀:Nat}{β₀:aJ}{w₀:World}{a₀:Act}
end
section
variable{P:Program}{F:Nat->Prop}{ops:Array Oper}{β:aJ}{w:World}{a:Act}{c c':cW}
variable{Ce:sY}{EG:qD}
end
section
variable{P:Program}{F:Nat->Prop}{β:aJ}{w:World}{a:Act}{x:Ctx}{ev:Ev}
end
def P7(P:Program)(f:Nat):Bool:=match P.funcs[f]? with
 |some fn=>match fn.body with
  |some c=>iO fn.ntmps c&&na P f
  |none=>false
 |none=>false
noncomputable def WW:Option Func->Option (Func×Code)
 |some fn=>match fn.body with
  |some c=>some (fn,c)
  |none=>none
 |none=>none
noncomputable def Jr(P:Program)(ids:List Nat)(f:FuncId):Option (Func×Code):=bif AO f ids then WW P.funcs[f]? else none
theorem UF{f:Nat}:∀ {l:List Nat},AO f l=true->f∈l
 |[],h=>by cases h
 |g::l,h=>by
  simp only[AO] at h;cases hg:Nat.beq g f with
  |true=>rw[Nat.eq_of_beq_eq_true hg];exact List.mem_cons_self ..
  |false=>rw[hg] at h;exact List.mem_cons_of_mem _ (UF h)
theorem UG{P:Program}{ids:List Nat}(h:ids.all (P7 P)=true):I5 P (Jr P ids):=fun f fn c hf=>by
 unfold Jr at hf;cases hi:AO f ids with
 |false=>rw[hi] at hf;cases hf
 |true=>
  rw[hi] at hf;have hb:=bT.1 h f (UF hi);simp only[cond_true,WW] at hf;unfold P7 at hb;split at hf
  .rename_i J C;split at hf
   .rename_i c' hc;cases hf;rw[C] at hb;simp only[hc,aB] at hb;exact⟨C,hc,hb.1,hb.2⟩
   .cases hf
  .cases hf
noncomputable def OY:Value->Value->Bool
 | .int k a,.int k' b=>mD k k'&&AM a b
 | .bool a,.bool b=>bif a then b else !b
 | .string a,.string b=>Dc a.data.toList b.data.toList
 | .pointer none,.pointer none=>true
 | .nilFunc,.nilFunc=>true
 | .nilIface,.nilIface=>true
 | .map none,.map none=>true
 |_,_=>false
noncomputable def wJ(g:D->D->Bool):List D->List D->Bool
 |[],[]=>true
 |a::xs,b::bs=>g a b&&wJ g xs bs
 |_,_=>false
noncomputable def yH:Nat->D->D->Bool
 |0,_,_=>false
 |n+1,a,b=>match a,b with
  | .s x,.s y=>OY x y
  | .z,.z=>true
  | .agg xs,.agg ys=>wJ (yH n) xs ys
  | .bd xs,.bd ys=>wJ (yH n) xs ys
  | .pt xs,.pt ys=>wJ (yH n) xs ys
  | .sl xs k,.sl ys l=>Nat.beq k l&&wJ (yH n) xs ys
  |_,_=>false
noncomputable def IE:List (Nat×List D×D)->FuncId->List D->Option D
 |[],_,_=>none
 |(g,aS,r)::l,f,bs=>bif Nat.beq g f&&wJ (yH 8) aS bs then some r else IE l f bs
theorem agf{a b:Value}(h:OY a b=true):a=b:=by
 unfold OY at h;split at h
 .simp only[aB,VR,beq_iff_eq] at h;rw[Bp _ _ h.1,h.2]
 .rename_i a b;cases a<;>cases b<;>first|rfl|cases h
 .rename_i a b;rw[ID,beq_iff_eq] at h;have:a.data=b.data:=Array.toList_inj.1 h;cases a;cases b;cases this;rfl
 all_goals first|rfl|cases h
theorem Mu{g:D->D->Bool}(hg:∀ a b,g a b=true->a=b):∀ {xs ys:List D},wJ g xs ys=true->xs=ys
 |[],[],_=>rfl
 |a::xs,b::ys,h=>by
  simp only[wJ,aB] at h;rw[hg a b h.1,Mu hg h.2]
 |[],_::_,h=>by cases h
 |_::_,[],h=>by cases h
theorem UH:∀ (n:Nat) (a b:D),yH n a b=true->a=b
 |0,_,_,h=>by cases h
 |n+1,a,b,h=>by
  have ih:=fun {xs ys:List D}=>Mu (UH n) (xs:=xs) (ys:=ys);simp only[yH] at h;split at h
  .rw[agf h]
  .rfl
  .rw[ih h]
  .rw[ih h]
  .rw[ih h]
  .simp only[aB] at h;rw[Nat.eq_of_beq_eq_true h.1,ih h.2]
  .cases h
theorem Sx{P:Program}:∀ {l:List (Nat×List D×D)},(∀ e∈l,az P e.1 e.2.1 e.2.2)->∀ f args r,IE l f args=some r->az P f args r
 |[],_,f,args,r,h=>by cases h
 |(g,aS,q)::l,hl,f,args,r,h=>by
  simp only[IE] at h;cases hc:Nat.beq g f&&wJ (yH 8) aS args with
  |true=>
   rw[hc] at h;simp only[aB] at hc;cases h;rw[<- Nat.eq_of_beq_eq_true hc.1, <- Mu (UH 8) hc.2];exact hl _ (List.mem_cons_self ..)
  |false=>
   rw[hc] at h;exact Sx (fun e he=>hl e (List.mem_cons_of_mem _ he)) f args r h
end Go.Abs
