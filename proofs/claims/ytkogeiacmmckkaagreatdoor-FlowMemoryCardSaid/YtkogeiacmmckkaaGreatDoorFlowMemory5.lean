/- Part 5. -/
import Derived.Test.YtkogeiacmmckkaaGreatDoorFlowMemory4
import Derived.IntWalk
import Derived.Lib.Strings
set_option linter.all false
namespace Go.Abs
theorem IH:∀ (f i j:Nat),i+1<2 ^ f->j+1<2 ^ f->tz f i=tz f j->i=j
 |0,i,j,hi,_,_=>by simp at hi
 |f+1,i,j,hi,hj,h=>by
  have h2:2 ^ (f+1)=2*2 ^ f:=by rw[Nat.pow_succ];omega
  simp only[tz,Bool.cond_eq_ite,Nat.beq_eq] at h;by_cases J:i=0<;>by_cases O:j=0
  .omega
  .rw[if_pos J,if_neg O] at h;split at h<;>cases h
  .rw[if_neg J,if_pos O] at h;split at h<;>cases h
  .rw[if_neg J,if_neg O] at h;by_cases i1:i % 2=1<;>by_cases C:j % 2=1
   .rw[if_pos i1,if_pos C] at h;have:=IH f (i / 2) (j / 2) oG oG (List.cons.inj h).2;omega
   .rw[if_pos i1,if_neg C] at h;cases h
   .rw[if_neg i1,if_pos C] at h;cases h
   .rw[if_neg i1,if_neg C] at h;have:=IH f (i / 2 - 1) (j / 2 - 1) oG oG (List.cons.inj h).2;omega
theorem wX{α:Type}:∀ p:List Bool,r8 p (T.leaf:T α)=none
 |[]=>rfl
 |_::_=>rfl
theorem Pe{α:Type}(v:Option α):∀ (p q:List Bool) (t:T α),r8 q (AJ v p t)=if q=p then v else r8 q t
 |[],[],t=>by cases t<;>rfl
 |[],b::q,t=>by
  cases t with
  |leaf=>cases b<;>simp only[reduceCtorEq,if_false]<;>exact wX q
  |node u l r=>rfl
 |b::p,[],t=>by cases t<;>cases b<;>rfl
 |b::p,c::q,t=>by
  have ih:=fun t=>Pe v p q t;cases t with
  |leaf=>
   cases b<;>cases c
   .show r8 q (AJ v p .leaf)=_;rw[ih,wX];simp;rfl
   .show r8 q .leaf=_;rw[wX];simp;rfl
   .show r8 q .leaf=_;rw[wX];simp;rfl
   .show r8 q (AJ v p .leaf)=_;rw[ih,wX];simp;rfl
  |node u l r=>
   cases b<;>cases c
   .show r8 q (AJ v p r)=_;rw[ih];simp;rfl
   .simp;rfl
   .simp;rfl
   .show r8 q (AJ v p l)=_;rw[ih];simp;rfl
theorem Eb:∀ (f i:Nat),(i+1<2 ^ f->(tz f i).length<f)/\(2 ^ f<=i+1->(tz f i).length=f)
 |0,i=>⟨fun h=>by simp at h,fun _=>rfl⟩
 |f+1,i=>by
  have h2:2 ^ (f+1)=2*2 ^ f:=by rw[Nat.pow_succ];omega
  have hp:0<2 ^ f:=Nat.two_pow_pos f;simp only[tz,Bool.cond_eq_ite,Nat.beq_eq];by_cases C:i=0
  .rw[if_pos C];exact⟨fun _=>by simp,fun h=>by omega⟩
  .rw[if_neg C];split
   .obtain⟨a,b⟩:=Eb f (i / 2);exact⟨fun h=>by have:=a oG;simp;omega,fun h=>by have:=b oG;simp;omega⟩
   .obtain⟨a,b⟩:=Eb f (i / 2 - 1);exact⟨fun h=>by have:=a oG;simp;omega,fun h=>by have:=b oG;simp;omega⟩
theorem T.Jz{α:Type}{t C:T α}{i:Nat}{v:Option α}(h:t.put i v=some C)(j:Nat):C.get j=if j=i then v else t.get j:=by
 unfold T.put at h;cases hb:Nat.blt i 1000000 with
 |false=>rw[hb] at h;cases h
 |true=>
  rw[hb] at h;simp only[cond_true,aH] at h;subst h;have hi:i<1000000:=by simpa using hb
  unfold T.get;rw[Pe];by_cases e:j=i
  .subst e;simp
  .have J:bits j≠bits i:=fun h=>by
    have hl:(bits i).length<20:=(Eb 20 i).1 oG;rcases Nat.lt_or_ge (j+1) (2 ^ 20) with h1|h1
    .exact e (IH 20 j i h1 oG h)
    .have:(bits j).length=20:=(Eb 20 j).2 h1;rw[h] at this;omega
   rw[if_neg e,if_neg J]
theorem ld:∀ (n:Nat) (l:List D),io n l=true↔n<=l.length
 |0,l=>by show true=true↔_;simp
 |n+1,[]=>by
  show false=true↔_;simp
 |n+1,d::l=>by
  show io n l=true↔_;rw[ld n l];simp
theorem uS:∀ (n:Nat) (l:List D),sd n l=true↔l.length=n
 |0,[]=>by show true=true↔_;simp
 |0,d::l=>by show false=true↔_;simp
 |n+1,[]=>by show false=true↔_;simp
 |n+1,d::l=>by
  show sd n l=true↔_;rw[uS n l];simp
theorem Qc:∀ (n:Nat) (l:List D),KU n l=l.drop n
 |0,l=>rfl
 |n+1,[]=>rfl
 |n+1,d::l=>by show KU n l=_;rw[Qc n l];rfl
theorem oi(l:List D)(n:Nat):nI l n=l.drop n:=Qc n l
theorem uI:∀ (n:Nat) (l:List D),xP n l=l.take n
 |0,l=>by show []=_;simp
 |n+1,[]=>rfl
 |n+1,d::l=>by show d::xP n l=_;rw[uI n l];rfl
theorem zw(P:Program)(t:TypeId)(cs:List D):vw P t cs=jk P t cs:=by
 unfold vw jk;rw[uI];cases bq P t with
 |true=>rfl
 |false=>cases cs<;>rfl
theorem FM(a b:Int):nY a b=decide (a<b):=by
 rw[Bool.eq_iff_iff];cases a<;>cases b<;>simp[nY]<;>omega
theorem Sb(a b:Int):yR a b=(a==b):=by
 rw[Bool.eq_iff_iff];cases a<;>cases b<;>simp[yR]<;>omega
theorem zx(k k':IntKind)(h:gF k k'=true):k=k':=by cases k<;>cases k'<;>first|rfl|cases h
theorem aaI(k:IntKind)(n:Int)(h:Hy k n=true):k.wrap n=n:=by
 unfold Hy at h;split at h
 .exact IntWalk.i64_in _ (by simp at h ⊢;omega)
 .exact IntWalk.i64_in _ (by simp at h;omega)
 .exact IntWalk.u8_in _ (by simp at h ⊢;omega)
 .exact IntWalk.u64_in _ (by simp at h ⊢;omega)
 .cases h
theorem Qd(k:IntKind)(n:Int):xQ k n=k.wrap n:=by
 unfold xQ;cases h:Hy k n with
 |true=>exact(aaI k n h).symm
 |false=>rfl
theorem FN:∀ (a b:List UInt8),A6 a b=(a==b)
 |[],[]=>rfl
 |[],_::_=>rfl
 |_::_,[]=>rfl
 |a::aS,b::bs=>by
  show(Nat.beq a.toNat b.toNat&&A6 aS bs)=(a==b&&aS==bs)
  rw[FN aS bs];congr 1;rw[Bool.eq_iff_iff];simp[UInt8.toNat_inj]
theorem Ki:∀ (a b:List UInt8),Dr a b=Op.bytesLess a b
 |[],[]=>rfl
 |_::_,[]=>rfl
 |[],_::_=>rfl
 |a::aS,b::bs=>by
  show(Nat.blt a.toNat b.toNat||(Nat.beq a.toNat b.toNat&&Dr aS bs))=(decide (a<b)||(a==b&&Op.bytesLess aS bs))
  rw[Ki aS bs];congr 1
  .rw[Bool.eq_iff_iff];simp[UInt8.lt_iff_toNat_lt]
  .congr 1;rw[Bool.eq_iff_iff];simp[UInt8.toNat_inj]
theorem Jb:∀ (i:Nat) (l:List Nat),Ap i l=true↔i∉l
 |i,[]=>by simp[Ap]
 |i,j::l=>by
  simp only[Ap,aw,Bool.not_eq_true',Jb i l,List.mem_cons,not_or];rw[<- Bool.not_eq_true,Nat.beq_eq];exact⟨fun h=>⟨fun e=>h.1 e.symm,h.2⟩,fun h=>⟨fun e=>h.1 e.symm,h.2⟩⟩
theorem BE(P:Program)(t:TypeId):∀ es:List (Value×D),xC P t es=es.all fun e=>df P t e.1
 |[]=>rfl
 |e::es=>by simp[xC,BE P t es]
theorem Re:∀ (l:List D) (n:Nat) (d:D),LU l n=some d->n<l.length/\l.getD n .u=d
 |[],n,d,h=>by cases n<;>cases h
 |x::l,0,d,h=>by cases h;simp
 |x::l,n+1,d,h=>by
  obtain⟨h1,h2⟩:=Re l n d h;exact⟨by simp;omega,by simpa using h2⟩
theorem parts_eq(ρ:Operand->D):∀ l:List (Nat×Operand),parts ρ l=l.map fun q=>(q.1,ρ q.2)
 |[]=>rfl
 |q::l=>by simp[parts,parts_eq ρ l]
theorem Eo{place:Nat->Option (Nat×Nat)}:∀ (l:List (Nat×D)) (cells cs:List D),An place cells l=some cs->iU place cells l=some cs
 |[],cells,cs,h=>h
 |(i,d)::rest,cells,cs,h=>by
  simp only[An] at h;simp only[iU];cases hp:place i with
  |none=>rw[hp] at h;cases h
  |some q=>
   obtain⟨off,size⟩:=q;rw[hp] at h;simp only at h ⊢;cases hb:(sd size d.cells&&io (off+size) cells)&&d.cells.all D.one with
   |false=>rw[hb] at h;cases h
   |true=>
    rw[hb] at h;simp only[aw,uS,ld] at hb;rw[if_pos ⟨hb.1.1,hb.1.2,hb.2⟩];exact Eo rest _ cs h
theorem D5:∀ {ds:List D} {l:List Int},Ao ds=some l->ds=kB l
 |[],l,h=>by cases h;rfl
 |d::ds,l,h=>by
  unfold Ao at h;split at h
  .rename_i hd;cases hd
  .rename_i n J hd;cases hd;split at h
   .rename_i C h';cases h;rw[D5 h'];rfl
   .cases h
  .cases h
theorem Ep{P:Program}{t:TypeId}(h:A7 P t=true):pc P t:=by
 unfold A7 at h;simp only[aw,Nat.beq_eq] at h;obtain⟨⟨h1,h2⟩,C⟩:=h;refine⟨h1,?_,C⟩;split at h2
 .assumption
 .cases h2
theorem zo(b:ByteArray):b.data.toList.length=b.size:=by rw[Array.length_toList];rfl
inductive dn(P:Program)(o:Op)(ρ:Operand->D)(m:Mem)(nx:Nat):aY->Prop
 |a (e:cR) (h:aM P o ρ m nx=some e) (hp:e.pre):dn P o ρ m nx ⟨e.val,e.aL,e.rd,e.new⟩
 |n (e:cR) (h:cI P ρ m nx o e):dn P o ρ m nx ⟨e.val,e.aL,e.rd,e.new⟩
noncomputable def aQ(t:T Row):Mem:=fun i=>t.get i
section
variable{P:Program}{o:Op}{ρ:Operand->D}{m:T Row}{nx:Nat}{p:aY}
theorem dY{b:Bool}{d:D}(h:fr b d=some p):b=true/\p=⟨d,[],[],0⟩:=by
 cases b with
 |true=>exact⟨rfl,(Option.some.inj h).symm⟩
 |false=>cases h
theorem om{b:Bool}{d:D}{i:Nat}(h:nX b d i=some p):b=true/\p=⟨d,[],[i],0⟩:=by
 cases b with
 |true=>exact⟨rfl,(Option.some.inj h).symm⟩
 |false=>cases h
theorem sP{b:Bool}{d:D}{n:Nat}{r:Row}{rd:List Nat}(h:sa b n d r rd=some p):b=true/\p=⟨d,[(n,some r)],rd,1⟩:=by
 cases b with
 |true=>exact⟨rfl,(Option.some.inj h).symm⟩
 |false=>cases h
theorem BL{b:Bool}{i:Nat}{r:Row}(h:A5 b i r=some p):b=true/\p=⟨.aT [],[(i,some r)],[i],0⟩:=by
 cases b with
 |true=>exact⟨rfl,(Option.some.inj h).symm⟩
 |false=>cases h
theorem w8{α:Type _}{b:Bool}{x e:α}(h:(bif b then some x else none)=some e):b=true/\e=x:=by
 cases b with
 |true=>exact⟨rfl,(Option.some.inj h).symm⟩
 |false=>cases h
theorem dn.of{pre:Prop}{val:D}{aL:List (Nat×Option Row)}{rd:List Nat}{new:Nat}(h:aM P o ρ (aQ m) nx=some ⟨pre,val,aL,rd,new⟩)(hp:pre)(he:p=⟨val,aL,rd,new⟩):dn P o ρ (aQ m) nx p:=he▸ .a ⟨pre,val,aL,rd,new⟩ h hp
theorem dn.nw{e:cR}(h:cI P ρ (aQ m) nx o e)(he:p=⟨e.val,e.aL,e.rd,e.new⟩):dn P o ρ (aQ m) nx p:=he▸ .n e h
theorem aaJ{c a b:Operand}(h:KV c a b P ρ m nx=some p):dn P (.pick c a b) ρ (aQ m) nx p:=by
 unfold KV at h;split at h
 .rename_i hc;split at h
  .rename_i v ha;cases h;refine .of (by simp only[aM,hc,D.core,D.eT];rfl) ?_ (by simp[ha,D.core,D.eT]);simp[ha,D.ask,D.core,D.eT]
  .cases h
 .rename_i hc;split at h
  .rename_i v hb;cases h;refine .of (by simp only[aM,hc,D.core,D.eT];rfl) ?_ (by simp[hb,D.core,D.eT]);simp[hb,D.ask,D.core,D.eT]
  .cases h
 .cases h
theorem Zh{t:TypeId}(h:J9 t P ρ m nx=some p):dn P (.alloc t) ρ (aQ m) nx p:=by
 unfold J9 at h;cases hb:yc t with
 |true=>
  rw[hb] at h;simp only[cond_true] at h;split at h
  .rename_i hz;obtain⟨h1,h2⟩:=sP h;exact .nw (.zW t hb h1 hz) h2
  .cases h
 |false=>
  rw[hb] at h;simp only[cond_false] at h;obtain⟨h1,h2⟩:=sP h;exact .of rfl h1 h2
theorem ack{t:TypeId}{x:Operand}(h:LO t x P ρ m nx=some p):dn P (.box t x) ρ (aQ m) nx p:=by
 unfold LO at h;cases hb:yc t with
 |true=>
  rw[hb] at h;simp only[cond_true] at h;split at h
  .rename_i d hx;obtain⟨h1,h2⟩:=sP h;simp only[aw,Nat.beq_eq] at h1;exact .nw (.ye t x d hb hx h1.1 h1.2) h2
  .cases h
 |false=>
  rw[hb] at h;simp only[cond_false] at h;obtain⟨h1,h2⟩:=sP h;exact .of rfl h1 h2
theorem Zi{t:TypeId}{ps:Array (Nat×Operand)}(h:Ka t ps P ρ m nx=some p):dn P (.build t ps) ρ (aQ m) nx p:=by
 unfold Ka at h
 have agg:∀ {b:Bool} {o:Option (List D)},KW b o=some p->b=true/\∃ cs,o=some cs/\p=⟨.agg cs,[],[],0⟩:=fun {b o} h=>by
  cases o with
  |none=>cases h
  |some cs=>exact⟨(dY h).1,cs,rfl,(dY h).2⟩
 split at h
 .rename_i fs hu;obtain⟨h1,cs,h2,J⟩:=agg h;simp only[aw] at h1;have C:=Eo _ _ _ h2;rw[parts_eq] at C
  have e:J' P fs=fun i=>(fs[i]?).map fun f=>(f.offset,P.cellsOf f.type):=by
   funext i;unfold J';cases fs[i]? <;>rfl
  rw[e] at C;refine .of (by simp only[aM,hu,C,Option.map_some];rfl) ?_ J;exact h1
 .rename_i n e hu;obtain⟨h1,cs,h2,J⟩:=agg h;simp only[aw] at h1;have C:=Eo _ _ _ h2;rw[parts_eq] at C;refine .of (by simp only[aM,hu,C,Option.map_some];rfl) ?_ J;exact h1
 .cases h
theorem Xi{t:TypeId}{n:Nat}{ps:Array (Nat×Operand)}(h:Ia t n ps P ρ m nx=some p):dn P (.buildSlice t n ps) ρ (aQ m) nx p:=by
 unfold Ia S9 at h;split at h
 .rename_i cs h2;obtain⟨h1,J⟩:=sP h;simp only[aw,Nat.ble_eq] at h1;have C:=Eo _ _ _ h2;rw[parts_eq] at C;refine .of (by simp only[aM,C,Option.map_some];rfl) ?_ J;exact⟨h1.2,h1.1.2.1,h1.1.1,h1.1.2.2⟩
 .cases h
theorem aaK{t:TypeId}{a:Operand}(h:KY t a P ρ m nx=some p):dn P (.load t a) ρ (aQ m) nx p:=by
 unfold KY at h;split at h
 .rename_i cs ha;obtain⟨h1,h2⟩:=dY h;simp only[aw,ld] at h1;rw[zw] at h2;refine .of (by simp only[aM,ha];rfl) ?_ h2;exact h1
 .rename_i i off ha;split at h
  .rename_i cs e hm;have hm:aQ m i=some (.cells cs e):=hm;obtain⟨h1,h2⟩:=om h;simp only[aw,ld] at h1;rw[zw,oi] at h2;refine .of (by simp only[aM,ha,hm];rfl) ?_ h2;exact h1
  .rename_i u x T hm;obtain⟨h1,h2⟩:=om h;simp only[aw,Nat.beq_eq,Bool.not_eq_true'] at h1;obtain⟨rfl,C,J⟩:=h1;exact .nw (.xL t a i u x T ha hm C J) h2
  .cases h
 .cases h
theorem Zj{t:TypeId}{a x:Operand}(h:Kb t a x P ρ m nx=some p):dn P (.store t a x) ρ (aQ m) nx p:=by
 unfold Kb at h;split at h
 .rename_i i off ha;split at h
  .rename_i cs e hm;have hm:aQ m i=some (.cells cs e):=hm;obtain⟨h1,h2⟩:=BL h;simp only[aw,ld,uS] at h1;refine .of (by simp only[aM,ha,hm];rfl) ?_ h2;exact⟨h1.1.1,h1.1.2,h1.2.1,h1.2.2⟩
  .rename_i u y T hm;obtain⟨h1,h2⟩:=BL h;simp only[aw,Nat.beq_eq,Bool.not_eq_true'] at h1;obtain⟨rfl,C,J,O⟩:=h1;exact .nw (.ve t a x i u y T ha hm C J O) h2
  .cases h
 .cases h
theorem Xx{x:Operand}(h:IG x P ρ m nx=some p):dn P (.nilCheck x) ρ (aQ m) nx p:=by
 unfold IG at h;split at h
 .rename_i cs hx;cases h;refine .of (by simp only[aM,hx];rfl) ?_ rfl;exact trivial
 .rename_i i off hx;split at h
  .rename_i r hm;have hm:aQ m i=some r:=hm;cases h;refine .of (by simp only[aM,hx,hm];rfl) ?_ rfl;exact trivial
  .cases h
 .cases h
theorem aaL{op:BinOp}{t:TypeId}{d:D}{y:Operand}(h1:y≠ .const (.slice none 0 0))(h2:y≠ .const (.pointer none)):jZ P (aQ m) op t d y=none:=by
 unfold jZ;split
 .exact absurd rfl h1
 .exact absurd rfl h2
 .exact absurd rfl h2
 .rfl
theorem zG{op:BinOp}{t:TypeId}{e:D}{q:Prop}{x y:Operand}{ty:TypeId}(h1:y≠ .const (.slice none 0 0))(h2:y≠ .const (.pointer none))(h:oO P op t (ρ x) (ρ y)=some (q,e))(hq:q)(hp:p=⟨e,[],[],0⟩):
 dn P (.binOp op t x y ty) ρ (aQ m) nx p:=
 .of (pre:=q) (by simp only[aM,aaL h1 h2,h,Option.map_some]) hq hp
theorem nlt(a b:Int):(!decide (b<a))=decide (a<=b):=by
 rw[Bool.eq_iff_iff];simp
theorem acm{op:BinOp}{k k':IntKind}{a b:Int}(h:LP op k k' a b=some p):∃ q v,mS op (.int k a) (.int k' b)=some (q,v)/\q/\p=⟨.s v,[],[],0⟩:=by
 have hs:∀ {c:Bool} {n:Int},sI c k n=some p->c=true/\p=⟨.s (.int k n),[],[],0⟩:=fun h=>dY h;have hb:∀ {c v:Bool},sB c v=some p->c=true/\p=⟨.s (.bool v),[],[],0⟩:=fun h=>dY h;have ne:∀ {c d:Bool},(c&& !d)=true->c=true/\d=false:=fun h=>by simpa using h
 cases op<;>simp only[LP,Qd,FM,Sb,nlt] at h
 case shl=>
  obtain⟨h1,rfl⟩:=hs h;exact⟨_,_,rfl,by simpa using h1,rfl⟩
 case shr=>
  obtain⟨h1,rfl⟩:=hs h;exact⟨_,_,rfl,by simpa using h1,rfl⟩
 case quo=>
  obtain⟨h1,rfl⟩:=hs h;obtain⟨h2,C⟩:=ne h1;exact⟨_,_,rfl,⟨zx _ _ h2,by simpa using C⟩,rfl⟩
 case rem=>
  obtain⟨h1,rfl⟩:=hs h;obtain⟨h2,C⟩:=ne h1;exact⟨_,_,rfl,⟨zx _ _ h2,by simpa using C⟩,rfl⟩
 all_goals first
  |(obtain⟨h1,rfl⟩:=hs h;exact⟨_,_,rfl,zx _ _ h1,rfl⟩)
  |(obtain⟨h1,rfl⟩:=hb h;exact⟨_,_,rfl,zx _ _ h1,rfl⟩)
theorem acn{op:BinOp}{x y:Operand}{t ty:TypeId}{a b:ByteArray}(hx:ρ x=.s (.string a))(hy:ρ y=.s (.string b))(h1:y≠ .const (.slice none 0 0))(h2:y≠ .const (.pointer none))(h:LQ op a.data.toList b.data.toList=some p):
 dn P (.binOp op t x y ty) ρ (aQ m) nx p:=by
 have hb:∀ {v:Bool},sB true v=some p->p=⟨.s (.bool v),[],[],0⟩:=fun h=>(dY h).2
 have fin:∀ {v:Bool},mS op (.string a) (.string b)=some (True,.bool v)->p=⟨.s (.bool v),[],[],0⟩->dn P (.binOp op t x y ty) ρ (aQ m) nx p:=fun {v} hv hp=>
  zG h1 h2 (q:=True) (e:=.s (.bool v)) (by rw[hx,hy];simp only[oO,hv,Option.map_some]) trivial hp
 unfold LQ at h;split at h
 .exact fin (by simp only[mS,ByteArray.toList_eq, <- FN]) (hb h)
 .exact fin (by simp only[mS,ByteArray.toList_eq, <- FN]) (hb h)
 .exact fin (by simp only[mS,ByteArray.toList_eq, <- Ki]) (hb h)
 .exact fin (by simp only[mS,ByteArray.toList_eq, <- Ki]) (hb h)
 .obtain⟨C,J⟩:=dY h
  have e:(⟨⟨a.data.toList++b.data.toList⟩⟩:ByteArray)=a++b:=by
   apply ByteArray.ext;simp only[ByteArray.data_append];apply Array.ext';simp
  rw[e] at J;simp only[Nat.ble_eq,zo] at C;exact .nw (.add t ty x y a b hx hy C) J
 .cases h
theorem aco{op:BinOp}{x y:Operand}{t ty:TypeId}(h:LR op t x y P ρ m nx=some p):dn P (.binOp op t x y ty) ρ (aQ m) nx p:=by
 have O:∀ {b:Bool},GK op=some b->op=if b then .eql else .neq:=fun {b} h=>by
  cases op<;>simp only[GK,aH,reduceCtorEq] at h<;>subst h<;>rfl
 unfold LR at h;split at h
 ·
   split at h
   .rename_i b hb;have ho:=O hb;unfold Ta at h;split at h
    .rename_i hx;obtain⟨h1,h2⟩:=dY h;exact .nw (.yg b op t ty x ho hx h1) (by rw[h2];cases b<;>rfl)
    .rename_i i off n hx;split at h
     .rename_i cs e hm;obtain⟨h1,h2⟩:=om h;simp only[aw,Nat.blt_eq] at h1;exact .nw (.yh b op t ty x i off n cs e ho hx hm h1.2 h1.1) (by rw[h2];cases b<;>rfl)
     .cases h
    .rename_i es n hx;cases b with
     |false=>cases h
     |true=>
      simp only[if_true] at ho;subst ho;obtain⟨h1,h2⟩:=dY h;refine .of (by simp only[aM,jZ,hx];rfl) ?_ ?_
      .exact h1
      .exact(by rw[h2];cases n<;>rfl)
    .cases h
   .cases h
 ·
   split at h
   .rename_i b hb;have ho:=O hb;unfold Tb at h;split at h
    .rename_i i off hx;split at h
     .rename_i r hm;have hm:aQ m i=some r:=hm;obtain⟨h1,h2⟩:=om h;cases b with
      |true=>
       simp only[if_true] at ho;subst ho;refine .of (by simp only[aM,jZ,hx,hm];rfl) ?_ h2;exact h1
      |false=>
       simp only[Bool.false_eq_true,if_false] at ho;subst ho;refine .of (by simp only[aM,jZ,hx,hm];rfl) ?_ h2;exact h1
     .cases h
    .cases h
   .cases h
 .rename_i h1 h2;have h1:y≠ .const (.slice none 0 0):=fun e=>h1 e;have h2:y≠ .const (.pointer none):=fun e=>h2 e;unfold S' at h;split at h
  .rename_i k a k' b hx hy;obtain⟨q,v,C,J,U⟩:=acm h;exact zG h1 h2 (by rw[hx,hy];simp only[oO,C,Option.map_some]) J U
  .rename_i a b hx hy;exact acn hx hy h1 h2 h
  .rename_i a b hx hy;split at h
   .obtain⟨C,J⟩:=dY h;exact zG h1 h2 (by rw[hx,hy];rfl) C J
   .obtain⟨C,J⟩:=dY h;exact zG h1 h2 (by rw[hx,hy];rfl) C J
   .cases h
  .rename_i xs ys hx hy;unfold RZ at h;split at h
   .rename_i X q hk hz;obtain⟨C,J⟩:=dY h;simp only[aw,decide_eq_true_eq,Bool.not_eq_true'] at C;exact zG h1 h2 (by rw[hx,hy];simp only[oO,xu,hk,hz]) C J
   .rename_i X q hk hz;obtain⟨C,J⟩:=dY h;simp only[aw,decide_eq_true_eq,Bool.not_eq_true'] at C;exact zG h1 h2 (by rw[hx,hy];simp only[oO,xu,hk,hz]) C J
   .cases h
  .cases h
theorem ads{op:UnOp}{t:TypeId}{x:Operand}(h:M4 op x P ρ m nx=some p):dn P (.unOp op t x) ρ (aQ m) nx p:=by
 unfold M4 at h;split at h
 .rename_i v hx;split at h
  .rename_i r hr;cases h;refine .of (by simp only[aM,hx,hr,Option.map_some];rfl) ?_ rfl;trivial
  .cases h
 .cases h
theorem aaM{src dst:TypeId}{x:Operand}(h:KZ src dst x P ρ m nx=some p):dn P (.convert src dst x) ρ (aQ m) nx p:=by
 have str:∀ {b:Bool} {n:Nat} {rd:List Nat} {o:Option (List Int)},GL b n rd o=some p->b=true/\∃ l,o=some l/\l.length=n/\p=⟨.s (.string (mkStr l)),[],rd,0⟩:=fun {b n rd o} h=>by
  unfold GL at h;split at h
  .rename_i l;obtain⟨h1,h2⟩:=w8 h;simp only[aw,Nat.beq_eq] at h1;exact⟨h1.1,l,rfl,h1.2,h2⟩
  .cases h
 unfold KZ at h;split at h
 .rename_i k hd;unfold R2 at h;split at h
  .rename_i k' n hx;obtain⟨h1,h2⟩:=dY h;rw[Qd] at h2;refine .of (by simp only[aM,hd,hx];rfl) ?_ h2;exact h1
  .cases h
 .rename_i hd;have C:eN P dst=true:=by simp only[eN,hd]
  unfold R0 at h;split at h
  .rename_i es n hx;obtain⟨h1,l,h2,rfl,J⟩:=str h;rw[D5 h2] at hx;exact .nw (.Ah src dst x l hx (Ep h1) C) J
  .rename_i i off n hx;split at h
   .rename_i cs e hm;obtain⟨h1,l,h2,rfl,J⟩:=str h;have O:=D5 h2;rw[uI,oi] at O;exact .nw (.Ai src dst x l i off cs e hx hm O (Ep h1) C) J
   .cases h
  .rename_i k n hx;split at h
   .rename_i k' hk;obtain⟨h1,h2⟩:=dY h;simp only[aw,Bool.not_eq_true',FM,decide_eq_false_iff_not,decide_eq_true_eq,Int.not_lt] at h1;exact .nw (.rune src dst x k k' n hx hk C h1.1 h1.2) h2
   .cases h
  .cases h
 .rename_i e hd;split at h
  .rename_i he;unfold R1 at h;split at h
   .rename_i b hx;obtain⟨h1,h2⟩:=dY h;simp only[aw,Nat.ble_eq,zo] at h1 h2;refine .of (by simp only[aM,hd,hx,he];rfl) ?_ h2;exact h1
   .cases h
  .cases h
 .cases h
theorem acp{t:TypeId}{r:Option Operand}(h:LS r P ρ m nx=some p):dn P (.makeMap t r) ρ (aQ m) nx p:=by
 unfold LS at h;split at h
 .cases h;refine .of (by simp only[aM];rfl) ?_ rfl;trivial
 .cases h
theorem aaN{t:TypeId}{l c:Operand}(h:K0 t l c P ρ m nx=some p):dn P (.makeSlice t l c) ρ (aQ m) nx p:=by
 unfold K0 at h;split at h
 .rename_i n k hl hc;obtain⟨h1,h2⟩:=sP h;simp only[aw,Nat.ble_eq,Nat.beq_eq] at h1;obtain⟨⟨rfl,C⟩,J,O⟩:=h1;refine .of (by simp only[aM,hl,hc];rfl) ?_ h2;refine⟨?_,by first|rfl|trivial,?_,?_,O⟩
  .exact Int.natCast_nonneg n
  .exact Int.ofNat_le.2 C
  .show(P.bytesOf (aq P t):Int)*(n:Int)<=_;rw[<- Int.natCast_mul];exact Int.ofNat_le.2 J
 .cases h
theorem aaO{t:TypeId}{x k:Operand}{ok:Bool}(h:K2 t x k ok P ρ m nx=some p):dn P (.lookup t x k ok) ρ (aQ m) nx p:=by
 unfold K2 at h;split at h
 .rename_i key i hk hx;split at h
  .rename_i es hm;have hm:aQ m i=some (.map es):=hm;obtain⟨h1,h2⟩:=om h;simp only[aw,BE] at h1;refine .of (by simp only[aM,mB,hk,hx,hm];rfl) ?_ h2;exact h1
  .cases h
 .rename_i key es hk hx;obtain⟨h1,h2⟩:=dY h;simp only[aw,BE] at h1;refine .of (by simp only[aM,mB,hk,hx];rfl) ?_ h2;exact h1
 .rename_i key hk hx;obtain⟨h1,h2⟩:=dY h;simp only[aw] at h1;refine .of (by simp only[aM,mB,hk,hx];rfl) ?_ h2;exact h1
 .cases h
theorem Rf{t:TypeId}{x k v:Operand}(h:GN t x k v P ρ m nx=some p):dn P (.mapUpdate t x k v) ρ (aQ m) nx p/\dn P (.insert t x k v) ρ (aQ m) nx p:=by
 unfold GN at h;split at h
 .rename_i key i hk hx;split at h
  .rename_i es hm;have hm:aQ m i=some (.map es):=hm;obtain⟨h1,h2⟩:=BL h;simp only[aw,BE] at h1;constructor
   .refine .of (by simp only[aM,mC,hk,hx,hm];rfl) ?_ h2;exact h1
   .refine .of (by simp only[aM,mC,hk,hx,hm];rfl) ?_ h2;exact h1
  .cases h
 .cases h
theorem EI{o:Option Operand}{d n:Nat}(h:pP ρ o d=some n):eg (o.map ρ) d=some (n:Int):=by
 unfold pP at h;split at h
 .cases h;rfl
 .rename_i x;split at h
  .rename_i k n' hx;cases h;simp[eg,hx,D.int?]
  .cases h
theorem zy{o:Option Operand}{n:Nat}(h:pP ρ o 0=some n):eg (o.map ρ) 0=some (n:Int):=EI h
theorem Zk{t:TypeId}{x:Operand}{lo hi mx:Option Operand}(h:Kc t x lo hi mx P ρ m nx=some p):dn P (.slice t x lo hi mx) ρ (aQ m) nx p:=by
 have JA:∀ {l h:Nat},l<=h->((h:Int) - (l:Int)).toNat=h - l:=fun {l h} _=>by omega
 unfold Kc at h;split at h
 .unfold Ra at h;split at h
  .rename_i es n hx;split at h
   .rename_i l hh h1 h2;obtain⟨C,J⟩:=dY h;simp only[aw,Nat.ble_eq] at C;obtain⟨O,U,h7⟩:=C;simp only[uI,oi] at J;refine .of (val:=.sl ((es.drop (l*P.cellsOf (aq P t))).take ((hh - l)*P.cellsOf (aq P t))) (hh - l)) (pre:=aW P t=true/\(0:Int)<=l/\(l:Int)<=hh/\(hh:Int)<=n) ?_ ?_ J
    .simp only[aM,kz,hx,zy h1,EI h2,Option.map_none,JA U,iv]
    .exact⟨O,oG,oG,oG⟩
   .cases h
  .rename_i i off n hx;split at h
   .rename_i cs e l hh hm h1 h2;have hm:aQ m i=some (.cells cs e):=hm;obtain⟨C,J⟩:=om h;simp only[aw,Nat.ble_eq,Nat.beq_eq] at C;obtain⟨⟨O,h8⟩,U,h7⟩:=C;refine .of (val:=.rs i (off+l*P.cellsOf (aq P t)) (hh - l)) (pre:=(aW P t=true/\P.cellsOf e=P.cellsOf (aq P t))/\(0:Int)<=l/\(l:Int)<=hh/\(hh:Int)<=n) ?_ ?_ J
    .simp only[aM,kz,hx,hm,zy h1,EI h2,Option.map_none,JA U,iv]
    .exact⟨⟨O,h8⟩,oG,oG,oG⟩
   .cases h
  .rename_i b hx;split at h
   .rename_i l hh h1 h2;obtain⟨C,J⟩:=dY h;simp only[aw,Nat.ble_eq,zo] at C;obtain⟨O,U,h7⟩:=C;rw[zo] at h2
    have e:(⟨⟨(b.data.toList.drop l).take (hh - l)⟩⟩:ByteArray)=b.extract l hh:=by
     obtain⟨⟨bl⟩⟩:=b;apply ByteArray.ext;apply Array.ext';exact(Lib.extract_data (⟨⟨bl⟩⟩:ByteArray) l hh).symm
    rw[e] at J;refine .of (val:=.s (.string (b.extract l hh))) (pre:=eN P t=true/\(0:Int)<=l/\(l:Int)<=hh/\(hh:Int)<=b.size) ?_ ?_ J
    .simp only[aM,kz,hx,zy h1,EI h2,Option.map_none,iv]
    .exact⟨O,oG,oG,oG⟩
   .cases h
  .rename_i hx;split at h
   .rename_i h1 h2;obtain⟨C,J⟩:=dY h;exact .nw (.AX t x lo hi hx (zy h1) (zy h2) C) J
   .cases h
  .cases h
 .rename_i c;cases hR:I9 P t ρ m (ρ x) lo hi c with
  |some q=>
   rw[hR] at h;cases h;unfold I9 at hR;split at hR
   .rename_i i off n hy kk k hx hc;split at hR
    .rename_i cs e X hh hm h2;have hm:aQ m i=some (.cells cs e):=hm;cases hb:(Nat.beq hh n&&Nat.beq k n) with
     |true=>
      rw[hb] at hR;simp only[cond_true] at hR;obtain⟨C,rfl⟩:=om hR;simp only[aw,Nat.beq_eq,uS] at hb C;obtain⟨rfl,rfl⟩:=hb;exact .nw (.AD t x hy c i off _ cs e X kk hx hm h2 hc C.1 C.2.symm) rfl
     |false=>rw[hb] at hR;cases hR
    .cases hR
   .cases hR
  |none=>
  rw[hR] at h;simp only at h;unfold Q9 at h;split at h
  .rename_i es n l hy kk k hx h1 hc;split at h
   .rename_i X hh h2;cases hb:(Nat.beq l 0&&(Nat.beq hh n&&Nat.beq k n)&&lo.isNone) with
    |true=>
     rw[hb] at h;simp only[cond_true] at h;obtain⟨C,J⟩:=dY h;simp only[aw,Nat.beq_eq,uS,Option.isNone_iff_eq_none] at hb C;obtain⟨⟨rfl,rfl,rfl⟩,rfl⟩:=hb;exact .nw (.cut t x hy c es _ X kk hx h2 hc C.1 C.2.symm) J
    |false=>
     rw[hb] at h;simp only[cond_false] at h;obtain⟨C,J⟩:=dY h;simp only[aw,Nat.ble_eq] at C;obtain⟨O,U,h7,h8⟩:=C;simp only[uI,oi] at J;have fM:eg (some (ρ hy)) n=some (hh:Int):=by simp[eg,h2,D.int?]
     refine .of (val:=.sl ((es.drop (l*P.cellsOf (aq P t))).take ((hh - l)*P.cellsOf (aq P t))) (hh - l)) (pre:=aW P t=true/\((some hy).map ρ).isSome=true/\(0:Int)<=l/\(l:Int)<=hh/\(hh:Int)<=k/\(k:Int)<=n) ?_ ?_ J
     .simp only[aM,kz,hx,zy h1,fM,Option.map_some,hc,D.int?,JA U,iv,Int.ofNat_eq_natCast]
     .exact⟨O,rfl,oG,oG,oG,oG⟩
   .cases h
  .rename_i hy kk k hx hc;split at h
   .rename_i X hh h2;cases hb:(Nat.beq hh 0&&Nat.beq k 0&&lo.isNone) with
    |true=>
     rw[hb] at h;simp only[cond_true] at h;obtain⟨C,J⟩:=dY h;simp only[aw,Nat.beq_eq,Option.isNone_iff_eq_none] at hb;obtain⟨⟨rfl,rfl⟩,rfl⟩:=hb;exact .nw (.AB t x hy c X kk hx h2 hc C) J
    |false=>rw[hb] at h;cases h
   .cases h
  .cases h
theorem Xr{t:TypeId}{x:Operand}{k:Nat}(h:Iq t x k P ρ m nx=some p):dn P (.fieldAddr t x k) ρ (aQ m) nx p:=by
 unfold Iq at h;split at h
 .rename_i off C hf;split at h
  .rename_i cs hx;obtain⟨h1,h2⟩:=dY h;rw[oi] at h2;refine .of (by simp only[aM,hf,hx];rfl) ?_ h2;simpa using h1
  .rename_i i o hx;split at h
   .rename_i r hm;have hm:aQ m i=some r:=hm;obtain⟨h1,h2⟩:=om h;refine .of (by simp only[aM,hf,hx,hm];rfl) ?_ h2;simpa using h1
   .cases h
  .cases h
 .cases h
theorem Zl{t:TypeId}{x:Operand}{k:Nat}(h:Kd t x k P ρ m nx=some p):dn P (.field t x k) ρ (aQ m) nx p:=by
 unfold Kd at h;split at h
 .rename_i off C cs hf hx;obtain⟨h1,h2⟩:=dY h;simp only[aw,ld] at h1;rw[zw,oi] at h2;refine .of (by simp only[aM,hf,hx];rfl) ?_ h2;exact h1
 .cases h
theorem Xs{t:TypeId}{x i:Operand}(h:Ir t x i P ρ m nx=some p):dn P (.indexAddr t x i) ρ (aQ m) nx p:=by
 unfold Ir at h;split at h
 .rename_i es n kk k hx hi;obtain⟨h1,h2⟩:=dY h;simp only[aw,ld,Nat.blt_eq] at h1;rw[oi] at h2;refine .of (by simp only[aM,hx,hi];rfl) ?_ h2;exact⟨h1.1,oS,by simp only[Int.ofNat_eq_natCast];omega,h1.2.2⟩
 .rename_i j off n kk k hx hi;split at h
  .rename_i r hm;have hm:aQ m j=some r:=hm;obtain⟨h1,h2⟩:=om h;simp only[aw,Nat.blt_eq] at h1;refine .of (by simp only[aM,hx,hi,hm];rfl) ?_ h2;exact⟨h1.1,oS,by simp only[Int.ofNat_eq_natCast];omega⟩
  .cases h
 .rename_i j off kk k hx hi;split at h
  .rename_i r hm;have hm:aQ m j=some r:=hm;obtain⟨h1,h2⟩:=om h;simp only[aw,Nat.blt_eq] at h1;refine .of (by simp only[aM,hx,hi,hm];rfl) ?_ h2;exact⟨h1.1,oS,by simp only[Int.ofNat_eq_natCast];omega⟩
  .cases h
 .cases h
theorem Zm{t:TypeId}{x i:Operand}(h:Ke t x i P ρ m nx=some p):dn P (.index t x i) ρ (aQ m) nx p:=by
 unfold Ke at h;split at h
 .rename_i b kk k hx hi;obtain⟨h1,h2⟩:=dY h;simp only[aw,Nat.blt_eq,zo] at h1;refine .of (by simp only[aM,hx,hi];rfl) ?_ h2;exact⟨h1.1,oS,by simp only[Int.ofNat_eq_natCast];omega⟩
 .rename_i cs kk k hx hi;obtain⟨h1,h2⟩:=dY h;simp only[aw,Nat.blt_eq,ld] at h1;rw[zw,oi] at h2;refine .of (by simp only[aM,hx,hi];rfl) ?_ h2;exact⟨h1.1,oS,by simp only[Int.ofNat_eq_natCast];omega,h1.2.2⟩
 .cases h
theorem XU{x:Operand}{k:Nat}(h:Ja x k P ρ m nx=some p):dn P (.extract x k) ρ (aQ m) nx p:=by
 unfold Ja at h;split at h
 .rename_i cs hx;split at h
  .rename_i d hd;cases h;obtain⟨h1,h2⟩:=Re _ _ _ hd;refine .of (by simp only[aM,hx];rfl) ?_ (by rw[h2]);exact h1
  .cases h
 .cases h
theorem Zn{t:TypeId}{x:Operand}(h:Kf t x P ρ m nx=some p):dn P (.makeInterface t x) ρ (aQ m) nx p:=by
 unfold Kf at h;split at h
 .rename_i v hv;obtain⟨h1,h2⟩:=dY h;simp only[aw] at h1;exact .nw (.mkIf t x v hv h1.1 h1.2) h2
 .cases h
theorem Yl{x:Operand}{u t:TypeId}{ok:Bool}(h:Jy x t ok P ρ m nx=some p):dn P (.typeAssert x u t ok) ρ (aQ m) nx p:=by
 unfold Jy at h;cases ok with
 |false=>cases h
 |true=>
  simp only[cond_true] at h;split at h
  .rename_i v hv;obtain⟨h1,h2⟩:=dY h;simp only[aw] at h1;exact .nw (.AE x u t v hv h1.1.1 h1.1.2 h1.2.1 h1.2.2) h2
  .cases h
theorem Pf{sz:Nat}{d:D}{rd:List Nat}{k:Nat}{news:List D}(h:FI m sz d=some (rd,k,news)):∃ q:Prop,gY (aQ m) sz d=some (q,rd,k,news)/\q:=by
 unfold FI at h;split at h
 .rename_i es n;obtain⟨h1,h2⟩:=w8 h;cases h2;rw[ld] at h1;exact⟨_,by simp only[gY,uI],h1⟩
 .cases h;exact⟨True,rfl,trivial⟩
 .rename_i i off n;split at h
  .rename_i cs e hm;have hm:aQ m i=some (.cells cs e):=hm;obtain⟨h1,h2⟩:=w8 h;cases h2;rw[ld] at h1;exact⟨_,by simp only[gY,hm,uI,oi],h1⟩
  .cases h
 .cases h
theorem acq{c:Call}{b:Builtin}{xs:List Operand}{ts:List TypeId}(hc:c.callee=.builtin b)(hx:c.args.toList=xs)(ht:c.argTypes.toList=ts):c={ callee:=.builtin b,args:=xs.toArray,argTypes:=ts.toArray }:=by
 obtain⟨C,args,J⟩:=c;simp only at hc hx ht;subst hc hx ht;simp
theorem sO{b:Builtin}{xs:List Operand}{ts:List TypeId}(hl:ts.length=xs.length):aM P (.call { callee:=.builtin b,args:=xs.toArray,argTypes:=ts.toArray }) ρ (aQ m) nx=dS P (aQ m) nx b ts.toArray (xs.map ρ):=by
 simp[aM,hl]
theorem Ib{c:Call}{b:Builtin}(hc:c.callee=.builtin b)(h:BK b c.args c.argTypes P ρ m nx=some p):dn P (.call c) ρ (aQ m) nx p:=by
 unfold BK at h;generalize hx:c.args.toList=xs at h;generalize ht:c.argTypes.toList=ts at h;rw[acq hc hx ht];have b1:∀ {t:TypeId},([t]:List TypeId).toArray.getD 0 0=t:=rfl;have b2:∀ {t u:TypeId},([t,u]:List TypeId).toArray.getD 0 0=t/\([t,u]:List TypeId).toArray.getD 1 0=u:=⟨rfl,rfl⟩
 unfold VV at h;split at h
 ·
   unfold Uu at h;split at h
   .rename_i x t;split at h
    .rename_i es n hd;obtain⟨h1,h2⟩:=dY h;refine .of (by rw[sO rfl];simp only[dS,List.map_cons,List.map_nil,kJ,hd,b1];rfl) ?_ h2;exact h1
    .rename_i i off n hd;split at h
     .rename_i r hm;have hm:aQ m i=some r:=hm;obtain⟨h1,h2⟩:=om h;refine .of (by rw[sO rfl];simp only[dS,List.map_cons,List.map_nil,kJ,hd,hm,b1];rfl) ?_ h2;exact h1
     .cases h
    .rename_i hd;obtain⟨h1,h2⟩:=dY h;refine .of (by rw[sO rfl];simp only[dS,List.map_cons,List.map_nil,kJ,hd,b1];rfl) ?_ h2;exact h1
    .rename_i bs hd;obtain⟨h1,h2⟩:=dY h;rw[zo] at h2;refine .of (by rw[sO rfl];simp only[dS,List.map_cons,List.map_nil,kJ,hd,b1];rfl) ?_ h2;exact h1
    .rename_i cs hd;obtain⟨h1,h2⟩:=dY h;refine .of (by rw[sO rfl];simp only[dS,List.map_cons,List.map_nil,kJ,hd,b1];rfl) ?_ h2;exact h1
    .rename_i i hd;split at h
     .rename_i es hm;obtain⟨h1,h2⟩:=om h;exact .nw (.yd _ x t i es rfl hd hm h1) h2
     .cases h
    .cases h
   .cases h
 ·
   unfold Rb at h;split at h
   .rename_i s x t u;split at h
    .rename_i bs hd;unfold Tc at h;split at h
     .rename_i hs;obtain⟨h1,h2⟩:=sP h;simp only[aw,Nat.ble_eq] at h1;exact .nw (.uQ _ s x t u bs rfl hs hd (Ep h1.1.1) h1.1.2 h1.2.1 h1.2.2) h2
     .rename_i i off n hs;split at h
      .rename_i cs e hm;obtain⟨h1,rfl⟩:=w8 h;simp only[aw,Nat.ble_eq,Nat.beq_eq,uS] at h1;obtain⟨⟨rfl,C,J⟩,U,O,h7⟩:=h1;exact .nw (.vd _ s x t u bs i off n cs rfl hs hd hm (Ep C) J U.symm O h7) (by rw[oi])
      .cases h
     .cases h
    .rename_i dE;cases M6:Nat.beq t u with
     |false=>rw[M6] at h;cases h
     |true=>
     rw[M6] at h;simp only[cond_true] at h;obtain rfl:=Nat.eq_of_beq_eq_true M6;split at h
     .rename_i rd k news cg;obtain⟨q,bG,X⟩:=Pf cg
      have hb:∀ {e:Option cR},py P (aQ m) nx t (ρ s) (ρ x)=e->aM P (.call { callee:=.builtin .append,args:=[s,x].toArray,argTypes:=[t,t].toArray }) ρ (aQ m) nx=e:=fun {e} he=>by
       rw[sO rfl];simp only[dS,List.map_cons,List.map_nil,b2,if_true];exact he
      unfold Uv at h;split at h
      .rename_i hs;obtain⟨h1,h2⟩:=sP h;simp only[aw,Nat.ble_eq,Nat.blt_eq] at h1;refine .of (hb (by simp only[py,bG,hs];rfl)) ?_ h2;exact⟨h1.1,X,h1.2.1,h1.2.2.1,h1.2.2.2⟩
      .rename_i es n hs;obtain⟨h1,h2⟩:=sP h;simp only[aw,Nat.ble_eq,Nat.blt_eq,uS] at h1;obtain⟨⟨C,J⟩,⟨U,O⟩,h7,h8⟩:=h1;exact .nw (.xK _ s x t es news n k q rd rfl hs bG X C J.symm U O h7 h8) h2
      .rename_i i off n hs;split at h
       .rename_i cs e hm;have hm:aQ m i=some (.cells cs e):=hm;obtain⟨h1,rfl⟩:=w8 h;simp only[aw,Nat.ble_eq,Nat.blt_eq,Nat.beq_eq,uS,Jb] at h1;obtain⟨⟨⟨C,rfl⟩,J,U⟩,⟨O,h7⟩,h8⟩:=h1;refine .of (hb (by simp only[py,bG,hs,hm];rfl)) ?_ (by rw[oi]);exact⟨C,by first|rfl|trivial,X,J,U.symm,O,h7,h8⟩
       .cases h
      .cases h
     .cases h
   .cases h
 ·
   unfold Uw at h;split at h
   .rename_i x y t u;split at h
    .rename_i k a k' b o8 hy';obtain⟨h1,h2⟩:=dY h;have:=zx _ _ h1;subst this
     have e:(bif nY b a then b else a)=if b<a then b else a:=by
      rw[FM];by_cases ag:b<a<;>simp[ag]
     rw[e] at h2;refine .of (by rw[sO rfl];simp only[dS,List.map_cons,List.map_nil,o8,hy'];rfl) ?_ h2
     first|rfl|trivial
    .cases h
   .cases h
 ·
   unfold R3 at h;split at h
   .rename_i x t;split at h
    .rename_i i off n hd;split at h
     .rename_i cs e hm;have hm:aQ m i=some (.cells cs e):=hm;obtain⟨h1,h2⟩:=BL h;simp only[aw,Nat.beq_eq,ld] at h1;refine .of (by rw[sO rfl];simp only[dS,List.map_cons,List.map_nil,hd,hm,b1];rfl) ?_ h2;exact⟨h1.1,h1.2.2,h1.2.1⟩
     .cases h
    .cases h
   .cases h
 ·
   unfold Rc at h;split at h
   .rename_i x k t u;split at h
    .rename_i key i hk o8;split at h
     .rename_i es hm;have hm:aQ m i=some (.map es):=hm;obtain⟨h1,h2⟩:=BL h;simp only[aw,BE] at h1;refine .of (by rw[sO rfl];simp only[dS,List.map_cons,List.map_nil,sZ,hk,o8,hm,b2];rfl) ?_ h2;exact h1
     .cases h
    .cases h
   .cases h
 ·
   unfold Td at h;split at h
   .rename_i x y t u;split at h
    .rename_i i off n o8;split at h
     .rename_i cs e rd k news hm cg;obtain⟨q,bG,X⟩:=Pf cg;obtain⟨h1,rfl⟩:=w8 h;simp only[aw,Nat.beq_eq,Nat.ble_eq,ld] at h1;obtain⟨⟨rfl,rfl⟩,h2,C,J⟩:=h1;exact .nw (.copy _ x y t i off n k cs news q rd rfl o8 hm bG X h2 C J) rfl
     .cases h
    .cases h
   .cases h
 ·
   unfold R4 at h;split at h
   .rename_i s t;split at h
    .rename_i i off n hs;split at h
     .rename_i r hm;obtain⟨h1,h2⟩:=om h;exact .nw (.vr _ s t i off n r rfl hs hm (by simpa using h1)) h2
     .cases h
    .cases h
   .cases h
 ·
   unfold Te at h;split at h
   .rename_i x y t u;split at h
    .rename_i i off k0 k hp hn;split at h
     .rename_i cs e hm;split at h
      .rename_i l e' hl he;obtain⟨h1,rfl⟩:=w8 h;simp only[aw,Nat.beq_eq,Nat.blt_eq,Nat.ble_eq,cv,Bool.not_eq_true',FM,decide_eq_false_iff_not,decide_eq_true_eq,Int.not_lt] at h1;obtain⟨⟨rfl,rfl⟩,⟨h2,C⟩,J,U⟩:=h1;have O:=D5 hl;rw[uI,oi] at O;exact .nw (.vH _ x y t u e' l i off cs k0 rfl hp hn hm O (by intro e;rw[e] at h2;simp at h2) he C J U) rfl
      .cases h
     .cases h
    .cases h
   .cases h
 .cases h
theorem Kj{o:Op}(h:Ds o P ρ m nx=some p):dn P o ρ (aQ m) nx p:=by
 unfold Ds at h;split at h
 .cases h;refine .of (by simp only[aM];rfl) ?_ rfl;trivial
 .cases h;refine .of (by simp only[aM];rfl) ?_ rfl;trivial
 .exact aaJ h
 .exact Zh h
 .exact ack h
 .exact Zi h
 .exact Xi h
 .exact aaK h
 .exact Zj h
 .exact Xx h
 .exact aco h
 .exact ads h
 .exact aaM h
 .cases h;refine .of (by simp only[aM];rfl) ?_ rfl;trivial
 .exact acp h
 .exact aaN h
 .exact aaO h
 .exact(Rf h).1
 .exact(Rf h).2
 .exact Zk h
 .exact Xr h
 .exact Zl h
 .exact Xs h
 .exact Zm h
 .exact XU h
 .exact Zn h
 .exact Yl h
 .rename_i c;unfold Tf at h;cases hc:c.callee with
  |builtin b=>rw[hc] at h;exact Ib hc h
  |_=>rw[hc] at h;cases h
 .cases h
end
noncomputable def eB(t:T D):Env:=fun i=>getD t i
noncomputable def aP(c:bw):St:=⟨eB c.env,aQ c.mem,c.nx⟩
noncomputable def lD(env:Env):Env:=fun i=>sA (env i)
theorem acr(d:D):(sA d).ask/\(sA d).core=sA d:=by cases d<;>exact⟨trivial,rfl⟩
theorem acs(v:Value):(wk v).ask/\(wk v).core=wk v:=by
 unfold wk;split<;>exact⟨trivial,rfl⟩
theorem Kk(env:Env)(x:Operand):(opd (lD env) x).ask/\(opd (lD env) x).core=opd (lD env) x:=by
 cases x with
 |tmp t=>exact acr _
 |const v=>exact acs v
 |global g=>exact⟨trivial,rfl⟩
 |func f=>exact⟨trivial,rfl⟩
theorem uT(env:Env)(o:Op):asks (lD env) o:=by
 unfold asks;cases o<;>first|exact(Kk env _).1|exact fun x _=>(Kk env x).1
theorem adt(env:Env)(o:Op):aZ (lD env) o=opd (lD env):=by
 unfold aZ;cases o<;>first|rfl|(funext x;exact(Kk env x).2)
theorem zz(t:T D):dD t=opd (lD (eB t)):=by
 funext x;cases x<;>rfl
theorem xc(t:T D)(o:Op):aZ (lD (eB t)) o=dD t:=(adt _ o).trans (zz t).symm
section
variable{P:Program}{F:Nat->Prop}{ops:Array Oper}{o:Oper}{β:av}{w:World}{a:Act}{c c':bw}{p:aY}
theorem R.un{d:D}{v:Value}(h:R F β w d v):R F β w (sA d) v:=by
 cases d with
 |cu=>exact .u v
 |_=>exact h
theorem ez.un{env:Env}(h:ez F β w env a):ez F β w (lD env) a:=fun t=>(h t).un
theorem zH{dst:Option Nat}{d:D}{m:T Row}{nx:Nat}(h:vJ c dst d m nx=some c'):aP c'=St.put ⟨eB c.env,aQ m,nx⟩ dst d:=by
 unfold vJ at h;cases dst with
 |none=>
  simp only[LV,aH] at h;subst h;rfl
 |some i=>
  simp only[LV] at h;split at h
  .rename_i t ht;cases h
   have e:eB t=up (eB c.env) i d:=by
    funext j;simp only[eB,getD,T.Jz ht,uE];by_cases hj:j=i<;>simp[hj]
   simp only[aP,St.put,e]
  .cases h
theorem w9{m m':T Row}{i:Nat}{r:Option Row}(h:m.put i r=some m'):aQ m'=up (aQ m) i r:=by
 funext j;simp only[aQ,T.Jz h,uE]
theorem Qe:∀ {us:List (Nat×Option Row)} {m m':T Row},CD m us=some m'->aQ m'=bT (aQ m) us
 |[],m,m',h=>by simp only[CD,aH] at h;subst h;rfl
 |(i,r)::us,m,m',h=>by
  simp only[CD] at h;cases hp:m.put i r with
  |none=>rw[hp] at h;cases h
  |some C=>
   rw[hp] at h;simp only at h;rw[Qe h,w9 hp];rfl
theorem EJ{dst:Option Nat}(h:vK c dst p=some c'):aP c'=St.put ⟨eB c.env,bT (aQ c.mem) p.aL,c.nx+p.new⟩ dst p.val:=by
 unfold vK at h;split at h
 .rename_i m hm;rw[zH h,Qe hm]
 .cases h
theorem Tl{st:St}(U:fi ops o st true)(h:aY.Ok P #[] { o with guard:=none } ⟨lD st.env,st.mem,st.nx⟩ p):aY.Ok P ops o st p:=by
 intro F β w a m env N he C hm hr hn O r n QX K J
 have h1:=h F β w a m (lD env) N (fun t ht=>by
  have:t∈o.looksAt ops:=List.mem_append_left _ (by simpa[Oper.looksAt] using ht);show sA (env t)=sA (st.env t)
  rw[he t this]) C.un hm hr hn O r n QX K J
 unfold gk at h1 ⊢;rw[U F β w a env he C,if_pos rfl];rw[if_pos (by simp[Region.wanted])] at h1;exact h1
theorem Rg(C:fi ops o (aP c) true)(h:dn P o.op (dD c.env) (aQ c.mem) c.nx p):p.Ok P ops o (aP c):=by
 refine Tl C ?_;cases h with
 |a e h hp=>exact J8 (wU rfl) (uT _ _) (by rw[<- xc] at h;exact h) hp
 |n e h=>exact QY (wU rfl) (uT _ _) (by rw[<- xc] at h;exact h)
theorem Zo{st:St}{op:Op}{ρ:Operand->D}(h:dn P op ρ st.mem st.nx p):p.lW (cp op) st:=by
 cases h with
 |a e h hp=>
  obtain⟨t1,t2,t3,t4⟩:=I6 h;exact⟨t1,t2,t3,t4⟩
 |n e h=>
  obtain⟨t1,t2,t3,t4⟩:=h.tidy;exact⟨t1,t2,t3,t4⟩
theorem D0{j:Nat}{b g:Bool}(hg:o.guard=some (j,b))(h:FJ ops j b c=some g):fi ops o (aP c) g:=by
 unfold FJ at h;split at h
 .rename_i J C;split at h
  .rename_i t ht;exact Ip hg (t:=t) (by simp[C,ht]) h
  .cases h
 .cases h
def xd(P:Program)(call:mJ):Prop:=∀ f args m nx p,call f args m nx=some p->∀ (o:Oper) (st:St),o.guard=none->st.mem=aQ m->st.nx=nx->asks st.env o.op->cV (aZ st.env o.op) o.op=some (f,args)->
 p.Ok P #[] o st/\∀ i∈p.wr,st.mem i≠none\/(nx<=i/\i<nx+p.new)
theorem Jc{call:Call}{f:Operand}{ρ:Operand->D}{g:FuncId}{fs cs:List D}(hc:call.callee=.value f)(hv:ρ f=.fn (.func g) fs cs):cV ρ (.call call)=some (g,fs++call.args.toList.map ρ++cs):=by
 simp only[cV,hc,hv]
theorem Sc{call:mJ}(O:xd P call)(C:fi ops o (aP c) true)(h:HB o.op P call c=some p):p.Ok P ops o (aP c)/\p.lW (cp o.op) (aP c):=by
 have fin:∀ {q:aY},dn P o.op (dD c.env) (aQ c.mem) c.nx q->q.Ok P ops o (aP c)/\q.lW (cp o.op) (aP c):=fun hq=>⟨Rg C hq,Zo (st:=aP c) hq⟩
 have other:∀ k:fa,(∀ (c:bw) p,k P (dD c.env) c.mem c.nx=some p->dn P o.op (dD c.env) (aQ c.mem) c.nx p)->gK k P call c=some p->p.Ok P ops o (aP c)/\p.lW (cp o.op) (aP c):=fun k hk hg=>fin (hk c p hg);cases ho:o.op
 case call cl=>
  rw[ho] at h;simp only[HB] at h;unfold Th at h;cases hc:cl.callee with
  |value f=>
   rw[hc] at h;simp only[R7] at h;split at h
   .rename_i g fs cs hv;have U:=Jc hc hv
    have hk:cp (.call cl)=2:=by
     obtain⟨J,aS,ts⟩:=cl;cases hc;rfl
    obtain⟨h1,h2⟩:=O _ _ _ _ _ h { o with guard:=none } ⟨lD (eB c.env),aQ c.mem,c.nx⟩ rfl rfl rfl (uT _ _) (by rw[xc,ho];exact U);rw[hk];exact⟨Tl C h1,⟨h2,(fun h=>by simp at h),(fun h=>by simp at h),(fun h=>by simp at h)⟩⟩
   .cases h
  |builtin b=>
   rw[hc] at h;rw[<- ho];exact fin (by rw[ho];exact Ib hc h)
  |invoke=>rw[hc] at h;cases h
 all_goals (rw[ho] at h;exact ho▸fin (by rw[ho];exact Kj h))
theorem Qf{call:mJ}(C:xd P call)(h:Gg P call ops o c=some p):p.Ok P ops o (aP c)/\p.lW (cp o.op) (aP c):=by
 unfold Gg at h;split at h
 .rename_i hg;exact Sc C (wU hg) h
 .rename_i j b hg;split at h
  .cases h
  .rename_i hv;cases h;exact⟨EH (D0 hg hv) _ fun F β w=>.cu false .u undef oS fun _=>rfl,⟨by simp[aY.wr],fun _=>⟨rfl,rfl⟩,fun _=>rfl,fun _=>⟨rfl,by simp[aY.wr]⟩⟩⟩
  .rename_i hv;exact Sc C (D0 hg hv) h
end
section
variable{P:Program}{F:Nat->Prop}{ops:Array Oper}{o:Oper}{β β':av}{w w':World}{a:Act}{c c':bw}{hd:Hd}
def HOk(P:Program)(F:Nat->Prop)(C:av)(U:World)(i:Nat)(h:Hf):Prop:=
 ∃ l,(C i=some (.lp l)\/C i=some .dead)/\∀ args m nx b m' an,m.get i=some (.lp .ready)->h args m nx=some (b,m',an)->
  oB P F C U l args (aQ m) nx fun d O J=>d=.s (.bool b)/\O=aQ m'/\J=an
def lY(P:Program)(F:Nat->Prop)(hd:Hd)(β:av)(w:World):Prop:=∀ i h,CC hd i=some h->HOk P F β w i h
theorem lY.step(h:lY P F hd β w)(hs:Step β w β' w'):lY P F hd β' w':=fun i f hf=>by
 obtain⟨l,h1,h2⟩:=h i f hf;refine⟨l,?_,fun args m nx b m' an hm hr=>(h2 args m nx b m' an hm hr).base hs⟩;rcases h1 with h1|h1
 .exact hs.fG i _ h1
 .rcases hs.fG i _ h1 with h2|h2<;>exact .inr h2
theorem rv:lY P F [] β w:=fun i h hf=>by simp[CC] at hf
def Ends(P:Program)(F:Nat->Prop)(β:av)(w:World)(nx:Nat)(x:D ⊕ List PanicEntry)(m':Mem)(an:Nat)(e:Ending)(w':World):Prop:=
 ∃ β',(match x with
  | .inl d=>∃ v,e=.returned v/\R F β' w' d v
  | .inr ch=>e=.panicked ch)/\ax P F m' β' w'/\(∀ i,an<=i->β' i=none)/\Step β w β' w'/\nx<=an/\∀ i,i<nx->β i=none->β' i=none
def ZC(P:Program)(hd:Hd)(f:FuncId)(args:List D)(m:Mem)(nx:Nat)(x:D ⊕ List PanicEntry)(m':Mem)(an:Nat):Prop:=
 jU P f=true/\∀ F β w vs,lY P F hd β w->ax P F m β w->(∀ i,nx<=i->β i=none)->Rs F β w args vs->Calls P f vs w (Ends P F β w nx x m' an)
def s6(P:Program)(hd:Hd)(call:jX):Prop:=∀ f args m nx x m' an,call f args m nx=some (x,m',an)->ZC P hd f args (aQ m) nx x (aQ m') an
theorem II{env:Env}{f:FuncId}{args:List D}(O:Region.wanted o (yielded ops a.tmps)=true)(C:ez F β w env a)(ha:asks env o.op)
 (h:cV (aZ env o.op) o.op=some (f,args)) (he:jU P f=true) {r:Option Nat} {n:Nat} {QX:Exit->Act->World->Prop} {K:Act->World->Prop}
 (J:∀ vs,Rs F β w args vs->Calls P f vs w fun e w'=>(∃ v,e=.returned v/\K (a.put o.dst v) w')\/∃ ch,e=.panicked ch/\QX (.panic ch) a w'):gk r n P ops QX o K a w:=by
 obtain⟨vs,h1,h2⟩:=OB (F:=F) (β:=β) (w:=w) C ha h he;unfold gk;rw[O,if_pos rfl];refine⟨fun _ _=>trivial,?_⟩;rw[xB (Oo h),h1];refine⟨oS,Em ((J vs h2).mono ?_)⟩;rintro e w' (⟨v,rfl,hk⟩|⟨ch,rfl,hk⟩)
 .exact hk
 .exact hk
def Ar(P:Program)(F:Nat->Prop)(ops:Array Oper)(o:Oper)(c c':bw)(oc:Option (List PanicEntry))(β:av)(w:World)(a:Act)(r:Option Nat)(n:Nat):Prop:=
 ∀ (QX:Exit->Act->World->Prop) (K:Act->World->Prop),(oc=none->∀ β' a' w',bH P F (aP c') β' w' a'->de c.nx β w a (aP c') β' w' a'->K a' w')->
  (∀ ch,oc=some ch->∀ β' w',bH P F (aP c') β' w' a->de c.nx β w a (aP c') β' w' a->QX (.panic ch) a w')->gk r n P ops QX o K a w
variable{oc:Option (List PanicEntry)}{r:Option Nat}{n:Nat}
theorem Er{x:Option bw}(h:Dt x=some (oc,c')):oc=none/\x=some c':=by
 cases x with
 |none=>cases h
 |some C=>cases h;exact⟨rfl,rfl⟩
theorem aaP{p:Option aY}(hp:∀ q,p=some q->q.Ok P ops o (aP c))(h:Ux c o.dst p=some (oc,c'))(hs:bH P F (aP c) β w a)(hd:∀ t,o.dst=some t->t<a.tmps.size):Ar P F ops o c c' oc β w a r n:=by
 cases p with
 |none=>cases h
 |some q=>
  obtain⟨rfl,h1⟩:=Er h;refine fun QX K U hX=>D9 (hp q rfl) hs hd r n QX fun β' a' w' C J=>?_;have e:=EJ h1;have O:St.put ⟨(aP c).env,bT (aP c).mem q.aL,(aP c).nx+q.new⟩ o.dst q.val=aP c':=e.symm;rw[O] at C J;exact U rfl β' a' w' C J
theorem IJ{st:St}{m':Mem}{an:Nat}{dst:Option Nat}{d:D}{v:Value}(h1:Step β w β' w')(h2:st.nx<=an)(C:∀ i,i<st.nx->β i=none->β' i=none):de st.nx β w a (St.put ⟨st.env,m',an⟩ dst d) β' w' (a.put dst v):=
 ⟨h1,by rw[zl];exact h2,C,sS _ _ _,put_defers _ _ _⟩
theorem aaQ{f:FuncId}{args:List D}{x:Option ni}(hw:fi ops o (aP c) true)(hc:cV (dD c.env) o.op=some (f,args))(hz:∀ y m' an,x=some (y,m',an)->ZC P hd f args (aQ c.mem) c.nx y (aQ m') an)
 (h:LW c o.dst x=some (oc,c')) (hh:lY P F hd β w) (hs:bH P F (aP c) β w a) (eW:∀ t,o.dst=some t->t<a.tmps.size):Ar P F ops o c c' oc β w a r n:=by
 have VX:Region.wanted o (yielded ops a.tmps)=true:=hw F β w a (aP c).env (fun _ _=>rfl) hs.e;have hC:cV (aZ (lD (eB c.env)) o.op) o.op=some (f,args):=by rw[xc];exact hc
 cases x with
 |none=>cases h
 |some y=>
  obtain⟨y,m',an⟩:=y;have hz:=hz y m' an rfl;cases y with
  |inl d=>
   obtain⟨rfl,h1⟩:=Er h;have e:=zH h1;intro QX K hK _;refine II VX hs.e.un (uT _ _) hC hz.1 fun vs hR=>?_;refine(hz.2 F β w vs hh hs.m hs.n hR).mono fun e1 w' hp=>?_;obtain⟨β',⟨v,rfl,J⟩,O,U,C,X,g7⟩:=hp;refine .inl ⟨v,rfl,hK rfl β' _ w' ?_ ?_⟩
   .rw[e];exact bH.put (st':=⟨eB c.env,aQ m',an⟩) (hs.e.step C) eW J O U
   .rw[e];exact IJ (st:=aP c) C X g7
  |inr ch=>
   simp only[LW,aH,bR] at h;obtain⟨rfl,rfl⟩:=h;intro QX K _ hX;refine II VX hs.e.un (uT _ _) hC hz.1 fun vs hR=>?_;refine(hz.2 F β w vs hh hs.m hs.n hR).mono fun e1 w' hp=>?_;obtain⟨β',J,O,U,C,X,g7⟩:=hp;exact .inr ⟨ch,J,hX ch rfl β' w' ⟨hs.e.step C,O,U⟩ ⟨C,X,g7,rfl,rfl⟩⟩
theorem Zp{call:jX}{f:Operand}{cl:Call}{i:Nat}(ho:o.op=.call cl)(hf:cl.callee=.value f)(hw:fi ops o (aP c) true)(hv:dD c.env f=.yl i)
 (h:Kg i (cl.args.toList.map (dD c.env)) P hd call o.dst c=some (oc,c')) (hh:lY P F hd β w) (hs:bH P F (aP c) β w a) (eW:∀ t,o.dst=some t->t<a.tmps.size):Ar P F ops o c c' oc β w a r n:=by
 unfold Kg at h;split at h
 .rename_i wA hg af;cases hx:wA (cl.args.toList.map (dD c.env)) c.mem c.nx with
  |none=>rw[hx] at h;cases h
  |some x=>
   obtain⟨b,m',an⟩:=x;rw[hx] at h;obtain⟨rfl,h1⟩:=Er h;have e:=zH h1;obtain⟨l,J,g2⟩:=hh i wA hg;have hy:=g2 _ _ _ _ _ _ af hx;obtain⟨p,hp,A9⟩:=hs.m.row i _ af;have U:=hs.e.un;have hR:∀ x,R F β w (dD c.env x) (a.eval x):=fun x=>by rw[zz];exact U.opd x
   have yE:a.eval f=.func (.yield l) #[] #[]:=by
    have h2:=hR f;rw[hv] at h2;generalize a.eval f=u at h2;cases h2 with
    |yl _ l' C=>
     rcases J with J|J
     .rw[J] at C;cases C;rfl
     .rw[J] at C;cases C
    |AU _ _ C _=>rw[C] at hp;cases hp;cases A9
   obtain⟨q1,q2⟩:=zT (F:=F) (β:=β) (w:=w) (xs:=cl.args) (ρ:=dD c.env) (a:=a) (fun x _=>hR x);obtain⟨O,tmps,assign,body,k1,k2⟩:=hy β w (cl.args.map a.eval) (Step.refl β w) hs.m hs.n ⟨by simpa using q1,fun j d u hd hu=>q2 j d u hd (by simpa using hu)⟩;intro QX K hK _;unfold gk;rw[hw F β w a (aP c).env (fun _ _=>rfl) hs.e,if_pos rfl];refine⟨fun _ _=>trivial,?_⟩
   have X:(execOp a.eval o).run P w=(Instr.yield l (cl.args.map a.eval)).run P w:=by
    unfold execOp;rw[ho];simp only[resolve,hf,Sem.run_bind,yE,Deferred.ofValue,Sem.run_pure,Result.andThen_ok,invoke];simp
   rw[xB (fun c hc=>by rw[ho] at hc;cases hc),X,k1];refine⟨oS,?_⟩;refine RoundIn.mono (F:=Fe r) (show RoundIn (Fe r) (n - 1) P l O tmps assign body w _ from k2 (n - 1)) fun e1 w' hp=>?_;obtain⟨v,d,m2,gT,β',rfl,⟨rfl,rfl,rfl⟩,j3,j4,j5,j6,j7,j8⟩:=hp;refine hK rfl β' _ w' ?_ ?_
   .rw[e];exact bH.put (st':=⟨eB c.env,aQ m',gT⟩) (hs.e.step j6) eW j5 j3 j4
   .rw[e];exact IJ (st:=aP c) j6 j7 j8
 .cases h
theorem Rh{call:jX}(X:s6 P hd call)(C:fi ops o (aP c) true)(h:Du o.op P hd call o.dst c=some (oc,c'))(hh:lY P F hd β w)(hs:bH P F (aP c) β w a)(J:∀ t,o.dst=some t->t<a.tmps.size):
 Ar P F ops o c c' oc β w a r n:=by
 have U:∀ {k:fa},(∀ p,k P (dD c.env) c.mem c.nx=some p->dn P o.op (dD c.env) (aQ c.mem) c.nx p)->fK k P hd call o.dst c=some (oc,c')->Ar P F ops o c c' oc β w a r n:=fun hk hg=>aaP (fun q hq=>Rg C (hk q hq)) hg hs J;cases ho:o.op
 case call cl=>
  rw[ho] at h;simp only[Du] at h;unfold Tg at h;cases hc:cl.callee with
  |value f=>
   rw[hc] at h;simp only[R5] at h;split at h
   .rename_i g fs cs hv;exact aaQ C (by rw[ho];exact Jc hc hv) (fun y m' an hy=>X _ _ _ _ _ _ _ hy) h hh hs J
   .rename_i i hv;exact Zp ho hc C hv h hh hs J
   .cases h
  |builtin b=>
   rw[hc] at h;exact U (fun p hp=>by rw[ho];exact Ib hc hp) h
  |invoke=>rw[hc] at h;cases h
 case panic x=>
  rw[ho] at h;simp only[Du,R6] at h;split at h
  .rename_i t v hv;cases h;intro QX K _ hX;have hR:R F β w (dD c.env x) (a.eval x):=by rw[zz];exact hs.e.un.opd x
   rw[hv] at hR;unfold gk;rw[C F β w a (aP c).env (fun _ _=>rfl) hs.e,if_pos rfl];refine⟨fun _ _=>trivial,?_⟩
   have O:(execOp a.eval o).run P w=.halt (.panic (.iface t v)) w:=by
    unfold execOp;rw[ho];simp only[hR.cm.1,Sem.run_bind];rfl
   rw[xB (fun c hc=>by rw[ho] at hc;cases hc),O];exact hX _ rfl β w hs (de.refl (aP c) β w a)
  .cases h
 all_goals (rw[ho] at h;exact U (fun p hp=>by rw[ho];exact Kj hp) h)
theorem zI{call:jX}(U:s6 P hd call)(h:M5 P hd call ops o c=some (oc,c'))(hh:lY P F hd β w)(hs:bH P F (aP c) β w a)(C:∀ t,o.dst=some t->t<a.tmps.size):
 Ar P F ops o c c' oc β w a r n:=by
 unfold M5 at h;split at h
 .rename_i hg;exact Rh U (wU hg) h hh hs C
 .rename_i j b hg;split at h
  .cases h
  .rename_i hv;obtain⟨rfl,h1⟩:=Er h;have e:=zH h1;have X:St.put ⟨(aP c).env,bT (aP c).mem [],(aP c).nx+0⟩ o.dst tv=aP c':=e.symm;refine fun QX K hK hX=>D9 (EH (D0 hg hv) tv fun F β w=>.cu false .u undef oS fun _=>rfl) hs C r n QX fun β' a' w' J O=>?_;rw[X] at J O;exact hK rfl β' a' w' J O
  .rename_i hv;exact Rh U (D0 hg hv) h hh hs C
def QE(e:Exit)(c':bw):Exit->St->Prop:=fun e2 C=>e2=e/\C=aP c'
theorem Pg{call:jX}{e:Exit}{N tl:Nat}{β₀:av}{w₀:World}{a₀:Act}{QX:Exit->Act->World->Prop}(gG:s6 P hd call)(hh:lY P F hd β₀ w₀)(ag:kE a₀.tmps.size ops=true)
 (hX:∀ ch,e=.panic ch->∀ β w a,bH P F (aP c') β w a->de N β₀ w₀ a₀ (aP c') β w a->QX (.panic ch) a w):
 ∀ (rest:List Oper) (k:Nat) (c:bw) (β:av) (w:World) (a:Act),(∀ j o,rest[j]? =some o->ops[k+j]? =some o)->qH P hd call ops rest c=some (e,c')->bH P F (aP c) β w a->de N β₀ w₀ a₀ (aP c) β w a->
  (e=.normal->∀ β w a,bH P F (aP c') β w a->de N β₀ w₀ a₀ (aP c') β w a->wpOpsIn (Fe r) n P ops QX (List.range' (k+rest.length) tl) a w)->
  wpOpsIn (Fe r) n P ops QX (List.range' k (rest.length+tl)) a w:=by
 intro rest
 induction rest with
 |nil=>
  intro k c β w a hk h hs C X;simp only[qH,aH,bR] at h;obtain⟨rfl,rfl⟩:=h;simpa using X rfl β w a hs C
 |cons o rest ih=>
  intro k c β w a hk h hs C X;have ho:ops[k]? =some o:=hk 0 o rfl;have e1:(o::rest).length+tl=(rest.length+tl)+1:=by simp;omega
  rw[e1,List.range'_succ,wpOpsIn_cons];refine zd ho ?_;have eW:∀ t,o.dst=some t->t<a.tmps.size:=fun t ht=>by rw[C.size];exact rm ag ho t ht
  simp only[qH] at h;split at h
  .rename_i c1 h1;refine zI gG h1 (hh.step C.step) hs eW _ _ (fun _ β' a' w' O U=>ih (k+1) c1 β' w' a' (fun j o hj=>by rw[Nat.add_right_comm];exact hk (j+1) o (by simpa using hj)) h O (C.trans U) fun he β w a q1 q2=>?_) (fun ch J=>by cases J);have:=X he β w a q1 q2;rw[show k+(o::rest).length=k+1+rest.length by simp;omega] at this;exact this
  .rename_i ch c1 h1;simp only[aH,bR] at h;obtain⟨rfl,rfl⟩:=h
   exact zI gG h1 (hh.step C.step) hs eW _ _ (fun J=>by cases J) fun VY J β' w' O U=>by
    cases J;exact hX _ rfl β' w' a O (C.trans U)
  .cases h
theorem aaR{call:jX}{e:Exit}{N:Nat}{β₀:av}{w₀:World}{a₀:Act}(J:s6 P hd call)(hh:lY P F hd β₀ w₀)(ag:kE a₀.tmps.size ops=true){c:bw}{β:av}{w:World}{a:Act}(h:qH P hd call ops ops.toList c=some (e,c'))(hs:bH P F (aP c) β w a)(C:de N β₀ w₀ a₀ (aP c) β w a):
 wpOpsIn (Fe r) n P ops (cB P F N β₀ w₀ a₀ (QE e c')) (List.range ops.size) a w:=by
 have:=Pg (r:=r) (n:=n) (tl:=0) (QX:=cB P F N β₀ w₀ a₀ (QE e c')) J hh ag (fun ch he β w a h1 h2=>⟨_,β,⟨he.symm,rfl⟩,h1,h2⟩) ops.toList 0 c β w a (fun j o hj=>by simpa using hj) h hs C fun he β w a h1 h2=>⟨_,β,⟨he.symm,rfl⟩,h1,h2⟩
 rw[List.range_eq_range'];simpa using this
end
section
variable{P:Program}{F:Nat->Prop}{ops:Array Oper}{β:av}{w:World}{a:Act}{c c':bw}{hd:Hd}{cf:List (Nat×Nat)}{Q:Exit->St->Prop}
theorem wV{l:List Nat}:∀ {xs:List Nat},meets l xs=false->∀ x∈xs,x∉l
 |[],_,x,hx=>by cases hx
 |y::xs,h,x,hx=>by
  simp only[meets,Bool.or_eq_false_iff,Bool.not_eq_false'] at h;rcases List.mem_cons.1 hx with rfl|hx
  .exact(Jb _ _).1 h.1
  .exact wV h.2 x hx
theorem Ic{ps:List aY}:∀ {l:List (Nat×Nat)},xD ps l=true->∀ q∈l,mF (ps.map fun p=>(p.rd,p.wr)) q.1 q.2
 |[],_,q,hq=>by cases hq
 |p::l,h,q,hq=>by
  simp only[xD,aw] at h;rcases List.mem_cons.1 hq with rfl|hq
  .have h:=h.1;unfold R8 at h;split at h
   .rename_i x y hx hy;simp only[aw,Bool.not_eq_true'] at h;simp only[mF,List.getD,List.getElem?_map,hx,hy,Option.map_some,Option.getD_some];exact⟨fun z hz=>⟨wV h.1 z hz,wV h.2.1 z hz⟩,fun z hz=>wV h.2.2 z hz⟩
   .cases h
  .exact Ic h.2 q hq
theorem IK{call:mJ}(C:xd P call):∀ {os:List Oper} {ps:List aY} {c c':bw} {tr:kO},z1 P call ops os c=some (ps,c')->(∀ q∈cf,mF (tr++ps.map fun p=>(p.rd,p.wr)) q.1 q.2)->Q .normal (aP c')->BT P ops cf Q os ps (aP c) tr
 |[],ps,c,c',tr,h,h1,h2=>by
  simp only[z1,aH,bR] at h;obtain⟨rfl,rfl⟩:=h;exact⟨by simpa using h1,h2⟩
 |o::os,ps,c,c',tr,h,h1,h2=>by
  simp only[z1] at h;split at h
  .rename_i p hp;split at h
   .rename_i J ua;split at h
    .rename_i ps1 c2 X;simp only[aH,bR] at h;obtain⟨rfl,rfl⟩:=h;obtain⟨O,U⟩:=Qf C hp;refine⟨O,U,?_⟩;have e:tV (aP c) o p=aP J:=(EJ ua).symm;rw[e];exact IK C X (by simpa using h1) h2
    .cases h
   .cases h
  .cases h
theorem Qg{gl:jX}{iD:mJ}{r:Option Nat}{n id:Nat}{e:Exit}(jo:P.follows .mixedOrders=true)(ht:s6 P hd gl)(hp:xd P iD)(ag:kE a.tmps.size ops=true)(h:Gh P hd gl iD ops c (cb ops)=some (e,c'))
 (hh:lY P F hd β w) (hs:bH P F (aP c) β w a):(Code.region id ops true).wpIn (Fe r) n P (cB P F c.nx β w a (QE e c')) a w:=by
 cases hi:cb ops with
 |none=>rw[hi] at h;cases h
 |some cf=>
  rw[hi] at h;simp only[Gh] at h;split at h
  .rename_i ps X h1;cases C:xD ps cf with
   |false=>rw[C] at h;cases h
   |true=>
    rw[C] at h;simp only[cond_true,aH,bR] at h;obtain⟨rfl,rfl⟩:=h;have na:=IK (Q:=QE .normal X) hp (tr:=[]) h1 (by simpa using Ic C) ⟨rfl,rfl⟩;have J:=Bw (fun j=>ops.toList.getD j default) (fun j=>ps.getD j default) (aP c) ops.toList ps 0 [] (fun j o hj=>by simp at hj;simp[hj]) (fun j p hj=>by simp[hj]) rfl oS na;simp only[Nat.zero_add,Array.length_toList] at J;obtain⟨k1,k2,k3⟩:=J;exact Iz jo hi ag (a6 _) (fun j hj=>k1 j (Nat.zero_le _) hj) (fun _=>k2) (fun h=>absurd h (Nat.lt_irrefl _)) k3 hs (de.refl (aP c) β w a)
  .cases hl:tw ops with
   |false=>rw[hl] at h;cases h
   |true=>
    rw[hl] at h;simp only[cond_true] at h;split at h
    .rename_i ps X h1;cases C:xD ps cf with
     |false=>rw[C] at h;cases h
     |true=>
      rw[C] at h;simp only[cond_true] at h;obtain⟨jI,hb⟩:=Im hl;have na:=IK (Q:=fun _ st=>st=aP X) hp (tr:=[]) h1 (by simpa using Ic C) rfl;have hlen:(ops.toList.take (ops.size - 1)).length=ops.size - 1:=by simp
      have J:=Bw (fun j=>ops.toList.getD j default) (fun j=>ps.getD j default) (aP c) (ops.toList.take (ops.size - 1)) ps 0 [] (fun j o hj=>by
       have gw:j<ops.size - 1:=by rw[<- hlen];exact(bU.1 hj).1
       rw[List.getElem?_take,if_pos gw] at hj
       simp at hj;simp[hj]) (fun j p hj=>by simp[hj]) rfl oS na
      rw[hlen] at J;simp only[Nat.zero_add] at J;obtain⟨k1,k2,k3⟩:=J;refine Iz jo hi ag (nl:=ops.size - 1) oG (fun j hj=>k1 j (Nat.zero_le _) hj) (fun h=>by omega) (fun _=>⟨oG,hb,fun r n=>?_⟩) k3 hs (de.refl (aP c) β w a);rw[k2];have jG:ops.size - 1<ops.size:=by omega
      have hx:ops[ops.size - 1]? =some (ops.toList.getD (ops.size - 1) default):=by simp[jG]
      have iZ:ops.toList.drop (ops.size - 1)=[ops.toList.getD (ops.size - 1) default]:=by
       have Dw:ops.size - 1<ops.toList.length:=by simp;omega
       rw[List.drop_eq_getElem_cons Dw,List.drop_eq_nil_of_le oP];simp[List.getD,jG]
      rw[iZ] at h;intro β1 w1 a1 dF O K hK;have eW:∀ t,(ops.toList.getD (ops.size - 1) default).dst=some t->t<a1.tmps.size:=fun t ht=>by rw[O.size];exact rm ag hx t ht
      simp only[qH] at h;split at h
      .rename_i c2 h2;simp only[aH,bR] at h;obtain⟨rfl,rfl⟩:=h;exact zI ht h2 (hh.step O.step) dF eW _ _ (fun _ β' a' w' g1 g2=>hK _ _ ⟨_,β',⟨rfl,rfl⟩,g1,O.trans g2⟩) fun ch U=>by cases U
      .rename_i ch c2 h2;simp only[aH,bR] at h;obtain⟨rfl,rfl⟩:=h
       exact zI ht h2 (hh.step O.step) dF eW _ _ (fun U=>by cases U) fun VY U β' w' g1 g2=>by
        cases U;exact⟨_,β',⟨rfl,rfl⟩,g1,O.trans g2⟩
      .cases h
    .cases h
end
def qA(P:Program)(F:Nat->Prop)(rf:Bool)(N:Nat)(β:av)(w:World)(a:Act)(e:Exit)(s':bw)(e2:Exit)(a2:Act)(w2:World):Prop:=Cf P F N β w a (QE e s') e2 a2 w2/\(rf=false->a2.defers=a.defers)
def qI(P:Program)(ev:Ev):Prop:=∀ (hd:Hd) (rf:Bool) (c:Code) (s:bw) (e:Exit) (s':bw),ev hd rf c s=some (e,s')->∀ (F:Nat->Prop) (r:Option Nat) (n:Nat) (β:av) (w:World) (a:Act),
 (rf=true->r=none)->lY P F hd β w->eP a.tmps.size c=true->bH P F (aP s) β w a->c.wpIn (Fe r) n P (qA P F rf s.nx β w a e s') a w
def Gl(P:Program)(fH:FuncId->Option (Func×Code)):Prop:=∀ f fn c,fH f=some (fn,c)->tI P f fn c
section
variable{P:Program}{F:Nat->Prop}{fn:Func}{x:Ctx}{ev:Ev}{hd:Hd}{c:bw}
theorem Jd{t C:T D}{i:Nat}{d:D}(h:t.put i (some d)=some C):eB C=up (eB t) i d:=by
 funext j;simp only[eB,getD,T.Jz h,uE];by_cases hj:j=i<;>simp[hj]
theorem OQ:∀ (ds:List D) (k:Nat) (t C:T D),vj k ds t=some C->∀ j,eB C j=if k<=j/\j<k+ds.length then ds.getD (j - k) .u else eB t j
 |[],k,t,C,h,j=>by
  simp only[vj,aH] at h;subst h;rw[if_neg (by simp only[List.length_nil];omega)]
 |d::ds,k,t,C,h,j=>by
  simp only[vj] at h;split at h
  .rename_i t1 h1;rw[OQ ds (k+1) t1 C h j,Jd h1];simp only[List.length_cons,uE];by_cases hj:j=k
   .subst hj;rw[if_neg oG,if_pos rfl,if_pos ⟨a6 _,oG⟩];simp
   .by_cases h2:k+1<=j/\j<k+1+ds.length
    .rw[if_pos h2,if_pos oG];have:j - k=(j - (k+1))+1:=by omega
     rw[this];simp
    .rw[if_neg h2,if_neg hj,if_neg oG]
  .cases h
theorem IL{args:List D}{t:T D}(h:vj 0 args .leaf=some t):eB t=jW args:=by
 funext j;rw[OQ args 0 .leaf t h j];unfold jW;by_cases hj:j<args.length
 .rw[if_pos ⟨Nat.zero_le _,oG⟩];simp
 .rw[if_neg oG];simp only[eB,Abs.getD];have:(T.leaf:T D).get j=none:=by unfold T.get;exact wX _
  simp[this,hj]
theorem acu{r:ResultVar}{d:D}(h:LX P c r=some d):∃ p:Prop,r6 P (aP c) r=some (p,d)/\p:=by
 unfold LX at h;split at h
 .cases h;exact⟨True,rfl,trivial⟩
 .rename_i a t;split at h
  .rename_i i off ha;split at h
   .rename_i cs e hm;cases hb:(aB P t&&io (off+P.cellsOf t) cs) with
    |false=>rw[hb] at h;cases h
    |true=>
     rw[hb] at h;simp only[cond_true,aH] at h;simp only[aw,ld] at hb;refine⟨aB P t=true/\off+P.cellsOf t<=cs.length,?_,hb⟩;have C:(aP c).env a=.rp i off:=ha;have J:(aP c).mem i=some (.cells cs e):=hm;simp only[r6,C,J, <- h,zw,oi]
   .cases h
  .rename_i cs ha;cases hb:(aB P t&&io (P.cellsOf t) cs) with
   |false=>rw[hb] at h;cases h
   |true=>
    rw[hb] at h;simp only[cond_true,aH] at h;simp only[aw,ld] at hb;refine⟨aB P t=true/\P.cellsOf t<=cs.length,?_,hb⟩;have C:(aP c).env a=.pt cs:=ha;simp only[r6,C, <- h,zw]
  .cases h
theorem EK{K:List D->Prop}:∀ (rs:List ResultVar) (ds C:List D),CE P c rs=some ds->K (C++ds)->oQ P (aP c) rs C K
 |[],ds,C,h,hk=>by
  simp only[CE,aH] at h;subst h;simpa[oQ] using hk
 |r::rs,ds,C,h,hk=>by
  simp only[CE] at h;split at h
  .rename_i d hd;split at h
   .rename_i J h1;cases h;obtain⟨p,h2,O⟩:=acu hd;simp only[oQ,h2];exact⟨O,EK rs J (C++[d]) h1 (by simpa using hk)⟩
   .cases h
  .cases h
theorem JB(jo:P.follows .mixedOrders=true)(X:Gl P x.fH)(fN:qI P ev){f:FuncId}{args:List D}{m m':T Row}{nx an:Nat}{y:D ⊕ List PanicEntry}(h:vL P x ev hd f args m nx=some (y,m',an)):ZC P hd f args (aQ m) nx y (aQ m') an:=by
 unfold vL at h;split at h
 .cases h
 .rename_i fn c hf;obtain⟨wA,hb,ag,he⟩:=X _ _ _ hf;refine⟨he,fun F β w vs hh hm dG hR=>?_⟩;cases hn:io args.length (List.replicate fn.ntmps .u) with
  |false=>rw[hn] at h;cases h
  |true=>
   rw[hn] at h;have fA:args.length<=fn.ntmps:=by simpa[ld] using hn
   simp only[cond_true] at h;split at h
   .cases h
   .rename_i t ht;cases hx:ev hd true c ⟨t,m,nx⟩ with
    |none=>rw[hx] at h;cases h
    |some es=>
     obtain⟨e,s⟩:=es;rw[hx] at h;have yU:aP ⟨t,m,nx⟩=⟨jW args,aQ m,nx⟩:=by rw[<- IL ht];rfl
     refine P6 wA hb fA hm dG hR (fun a ha hs=>wpIn_mono (fN hd true c ⟨t,m,nx⟩ e s hx F none 0 β w a (fun _=>rfl) hh (by rw[ha];exact ag) (by rw[yU];exact hs)) fun _ _ _ h=>h.1) ?_;rintro e2 st' β' w' a' ⟨rfl,rfl⟩ hs U C J
     have O:qv P fn s=some (y,m',an)->∃ v,(results fn a'.tmps).run P w'=.ok v w'/\Ends P F β w nx y (aQ m') an (.returned v) w':=fun h=>by
      unfold qv at h;split at h
      .rename_i ds bm;simp only[aH,bR] at h;obtain⟨rfl,rfl,rfl⟩:=h;obtain⟨v,d,g1,rfl,g3⟩:=D3 (fn:=fn) (K:=fun d=>d=qF ds) hs (EK _ ds [] bm rfl);exact⟨v,g1,β',⟨v,rfl,g3⟩,hs.m,hs.n,U,C,J⟩
      .cases h
     cases e2 with
     |normal=>exact O h
     |ret=>exact O h
     |panic ch=>
      simp only[FK,aH,bR] at h;obtain⟨rfl,rfl,rfl⟩:=h;exact⟨β',rfl,hs.m,hs.n,U,C,J⟩
     |_=>cases h
end
section
variable{P:Program}{F:Nat->Prop}{β β':av}{w w':World}{m:Mem}
theorem Gm{U:av}{O:World}{i l:Nat}{L:Loop}{k:RS}(hm:ax P F m β w)(hi:m i=some (.lp k))(h1:U i=some (.lp l))(X:O.heap[l]? =some (.loop L))(hs:Step U O β w):
 β i=some (.lp l)/\∃ st pe,w.heap[l]? =some (.loop { L with state:=st,pending:=pe })/\RS.Is { L with state:=st,pending:=pe } k:=by
 obtain⟨p,hp,hr⟩:=hm.row i _ hi;cases hr with
 |lp _ r L' hb hk=>
  have C:β i=some (.lp l):=by
   rcases hs.fG i _ h1 with h2|h2
   .exact h2
   .rw[h2] at hp;cases hp
  rw[C] at hp;cases hp;obtain⟨st,pe,J⟩:=hs.lp i l h1 C L X;rw[J] at hb;cases hb;exact⟨C,st,pe,J,hk⟩
theorem Je{i l:Nat}{L:Loop}{st:LoopState}{pe:Option Code}{r:Option Row}(hm:ax P F m β w)(C:β i=some (.lp l))(hL:w.heap[l]? =some (.loop L))
 (hr:∀ r',r=some r'->∃ k,r'=.lp k/\RS.Is { L with state:=st,pending:=pe } k):
 ax P F (up m i r) β (w.putObj l (.loop { L with state:=st,pending:=pe }))/\Step β w β (w.putObj l (.loop { L with state:=st,pending:=pe }))/\(w.putObj l (.loop { L with state:=st,pending:=pe })).heap[l]? =some (.loop { L with state:=st,pending:=pe }):=by
 have ag:=hm.lt i _ l C rfl;have O:(w.putObj l (.loop { L with state:=st,pending:=pe })).heap[l]? =some (.loop { L with state:=st,pending:=pe }):=World.putObj_heap_same ag
 have hs:Step β w β (w.putObj l (.loop { L with state:=st,pending:=pe })):=⟨oS,fun b _ hf=>⟨World.putObj_heap_other fun e=>hf i _ C (by rw[e];rfl),hf⟩,fun _ _ h=>.inl h,⟨rfl,rfl⟩,fun j q _ _=>by
  by_cases hq:q=l
  .subst hq;intro L0 U;rw[hL] at U;cases U;exact⟨st,pe,O⟩
  .exact mA (World.putObj_heap_other hq)⟩
 refine⟨⟨fun j r' hj=>?_,hm.inj,fun j p b hp hb=>by simpa using hm.lt j p b hp hb,hm.nf,hm.fb.next (fun b hb=>by simpa using hm.fb.lt b hb) (fun _ h=>h) fun t ht X=>World.putObj_heap_other fun e=>hm.nf i _ l C rfl (e▸X)⟩,hs,O⟩;by_cases J:j=i
 .subst J;rw[ai] at hj;obtain⟨k,rfl,hk⟩:=hr r' hj;exact⟨_,C,.lp k l _ O hk⟩
 .rw[aA _ _ J] at hj;obtain⟨p,hp,af⟩:=hm.row j r' hj;exact⟨p,hp,af.step hs fun b hb=>World.putObj_heap_other fun e=>J (hm.inj j i p _ l hp C (by rw[hb,e]) rfl)⟩
theorem Oq:∀ (ps:List Tmp) (ds:List D) (t C:T D),zE t ps ds=some C->eB C=td (eB t) ps ds
 |[],ds,t,C,h=>by simp only[zE,aH] at h;subst h;rfl
 |_::_,[],t,C,h=>by simp only[zE,aH] at h;subst h;rfl
 |p::ps,d::ds,t,C,h=>by
  simp only[zE] at h;split at h
  .rename_i t1 h1;rw[Oq ps ds t1 C h,Jd h1];rfl
  .cases h
theorem qA.trans{rf:Bool}{s s1 s':bw}{a a1 a':Act}{J:av}{w1:World}{e C:Exit}(h:mZ s.nx β w a (aP s1) J w1 a1)(hd:rf=false->a1.defers=a.defers)(k:qA P F rf s1.nx J w1 a1 e s' C a' w'):qA P F rf s.nx β w a e s' C a' w':=by
 obtain⟨⟨st',β',h1,h2,O⟩,U⟩:=k;exact⟨⟨st',β',h1,h2,h.trans O⟩,fun e=>(U e).trans (hd e)⟩
structure oE(P:Program)(x:Ctx):Prop where
 mix:P.follows .mixedOrders=true
 fH:Gl P x.fH
 known:∀ f args r,x.known f args=some r->aG P f args r
 B9:∀ f args m nx y m' an,x.B9 f args m nx=some (y,m',an)->ZC P [] f args (aQ m) nx y (aQ m') an
variable{x:Ctx}{ev:Ev}{hd:Hd}
theorem ZC.any{f:FuncId}{args:List D}{nx an:Nat}{y:D ⊕ List PanicEntry}{m':Mem}(h:ZC P [] f args m nx y m' an):ZC P hd f args m nx y m' an:=
 ⟨h.1,fun F β w vs _=>h.2 F β w vs rv⟩
theorem aaS(hx:oE P x)(fN:qI P ev){g:Operand}{ps:Array Tmp}{assign body:Code}{s s':bw}{e:Exit}{rf:Bool}(h:Kh g ps assign body P x ev hd rf s=some (e,s')){r:Option Nat}{n:Nat}{a:Act}
 (dT:rf=true->r=none) (hh:lY P F hd β w) (ag:eP a.tmps.size (.rangeFunc g ps assign body)=true) (hs:bH P F (aP s) β w a):(Code.rangeFunc g ps assign body).wpIn (Fe r) n P (Cf P F s.nx β w a (QE e s')) a w:=by
 unfold Kh at h;cases rf with
 |false=>cases h
 |true=>
 have hr:=dT rfl;subst hr;simp only[cond_true] at h;split at h
 rotate_left
 .cases h
 rename_i f fs cs hv;split at h
 .cases h
 rename_i m0 gv;simp only[eP,aw,cv,Nat.blt_eq] at ag;obtain⟨na,Ls,Lu⟩:=ag
 obtain⟨y,m6,AT,cK⟩:∃ y m6 AT,vL P x ev ((s.nx,B' ev hd s.nx s.env ps.toList assign body)::hd) f (fs++[.yl s.nx]++cs) m0 (s.nx+1)=some (y,m6,AT):=by
  generalize vL P x ev ((s.nx,B' ev hd s.nx s.env ps.toList assign body)::hd) f (fs++[.yl s.nx]++cs) m0 (s.nx+1)=z at h;cases z with
  |none=>cases h
  |some z=>obtain⟨y,m6,AT⟩:=z;exact⟨_,_,_,rfl⟩
 rw[cK] at h;have hz:=JB hx.mix hx.fH fN cK
 have hR:R F β w (.fn (.func f) fs cs) (a.eval g):=by
  rw[<- hv,zz];exact hs.e.un.opd g
 refine wpIn_rangeFunc fun fn sk=>?_;obtain⟨L,U⟩:∃ L:Loop,L={ state:=.ready,pending:=none,fn,tmps:=a.tmps,params:=ps,assign,body,defers:=w.heap.size }:=⟨_,rfl⟩
 obtain⟨J,pa⟩:∃ J,(w.alloc (.deferred (some []))).alloc (.loop L)=J:=⟨_,rfl⟩
 obtain⟨l,hl⟩:∃ l,l=w.heap.size+1:=⟨_,rfl⟩
 obtain⟨us,vs,d,Da,pV,hu,yE,rZ,hinv⟩:=N3 (P:=P) hR hz.1 l J;have hn:∀ i,s.nx<=i->β i=none:=hs.n;have mg:Step β w β (w.alloc (.deferred (some []))):=wY oS fun b hb=>heap_alloc_old w _ hb;have UA:ax P F (aQ s.mem) β (w.alloc (.deferred (some []))):=hs.m.ext oS fun b hb=>heap_alloc_old w _ hb;have Az:∀ b,(Pl.lp l).bA=some b->b=(w.alloc (.deferred (some []))).heap.size:=fun b hb=>by simp only[Pl.bA,aH] at hb;simp;omega
 have CG:J.heap[l]? =some (.loop L):=by
  rw[<- pa,hl];have:=World.alloc_heap_new (w.alloc (.deferred (some []))) (.loop L)
  rwa[World.size_alloc] at this
 have yD:ax P F (aQ m0) (up β s.nx (some (.lp l))) J:=by
  rw[w9 gv, <- pa];refine UA.alloc (hn _ (a6 _)) _ _ _ Az (.lp _ l L ?_ ⟨by rw[U],by rw[U]⟩);rw[pa];exact CG
 have dF:Step β w (up β s.nx (some (.lp l))) J:=by
  rw[<- pa];exact mg.trans (zh UA _ (hn _ (a6 _)) _ Az)
 have A':(up β s.nx (some (.lp l))) s.nx=some (.lp l):=ai _ _ _
 have wz:∀ i,s.nx+1<=i->(up β s.nx (some (.lp l))) i=none:=fun i hi=>by
  rw[aA _ _ (show i≠s.nx by omega)];exact hn i oG
 have MK:J.heap[w.heap.size]? =some (.deferred (some [])):=by
  rw[<- pa,heap_alloc_old _ _ oS];exact World.alloc_heap_new w _
 have B6:av.free (up β s.nx (some (.lp l))) w.heap.size:=
  og (fun i p hp e=>by have:=hs.m.lt i p _ hp e;omega) (by rintro q hq;cases hq;simp[Pl.bA];omega)
 have Lv:J.heap.size=w.heap.size+2:=by rw[<- pa];simp
 have hh1:lY P F ((s.nx,B' ev hd s.nx s.env ps.toList assign body)::hd) (up β s.nx (some (.lp l))) J:=by
  intro i hf Ba;simp only[CC] at Ba;by_cases hi:s.nx=i
  rotate_left
  .have:Nat.beq s.nx i=false:=by cases hb:Nat.beq s.nx i with|false=>rfl|true=>exact absurd (Nat.eq_of_beq_eq_true hb) hi
   rw[this] at Ba;exact(hh.step dF) i hf Ba
  .subst hi;rw[Nat.beq_refl] at Ba;simp only[cond_true,aH] at Ba;subst Ba;refine⟨l,.inl A',fun args m nx b m' an X C=>?_⟩;intro β2 w2 tS qD pW ML pb;unfold B' at C;cases hlen:Nat.beq args.length ps.toList.length with
   |false=>rw[hlen] at C;cases C
   |true=>
   rw[hlen] at C;have xS:args.length=ps.size:=by simpa using hlen
   simp only[cond_true] at C;split at C
   rotate_left
   .cases C
   rename_i t ht
   obtain⟨e3,O,V0⟩:∃ e3 O,ev hd false assign ⟨t,m,nx⟩=some (e3,O):=by
    generalize ev hd false assign ⟨t,m,nx⟩=z at C;cases z with
    |none=>cases C
    |some z=>exact⟨z.1,z.2,rfl⟩
   rw[V0] at C;obtain⟨hβ2,M7,pe2,UB,wB⟩:=Gm pW (show aQ m s.nx=some (.lp .ready) from X) A' CG qD
   have eL:({ L with state:=M7,pending:=pe2 }:Loop)=L:=by
    obtain⟨k1,k2⟩:=wB;simp only at k1 k2;rw[U,k1,k2]
   rw[eL] at UB;have Lz:tS.size=ps.size:=by rw[pb.1];exact xS
   have hy:=run_yield (P:=P) (args:=tS) UB (by rw[U];exact Lz);simp only[U,O6] at hy;refine⟨fn,_,assign,body,hy,fun n'=>?_⟩;have Tm:=dF.trans qD;have V1:lY P F hd β2 w2:=hh.step Tm;have Dc:ez F β2 w2 (eB s.env) { tmps:=a.tmps,defers:=[] }:=fun t=>(hs.e t).step Tm;obtain⟨MN,Cy⟩:=Ii ps.toList args tS.toList (eB s.env) a.tmps (by simp[pb.1]) (fun j d v hd hv=>pb.2 j d v hd (by simpa using hv)) (fun t ht=>na t ht) Dc
   have aeC:bH P F (aP ⟨t,m,nx⟩) β2 w2 { tmps:=(ps.toList.zip tS.toList).foldl (fun tmps (t,a)=>tmps.setIfInBounds t a) a.tmps,defers:=[] }:=⟨by
    show ez F β2 w2 (eB t) _
    rw[Oq _ _ _ _ ht];exact MN,pW,ML⟩
   have LA:=fN hd false assign _ e3 O V0 F (some l) n' β2 w2 _ (fun h=>by cases h) V1 (by show eP (Array.size _) assign=true;rw[Cy];exact Ls) aeC;refine roundIn_of_wpIn trivial (wpIn_mono LA fun e a3 w3 hp=>?_);obtain⟨⟨_,β3,⟨rfl,rfl⟩,jd,dU⟩,_⟩:=hp;unfold R' at C;split at C
   rotate_left
   .cases C
   rename_i s3' fj;cases fj;split at C
   rotate_left
   .cases C
   rename_i aht;split at C
   rotate_left
   .cases C
   rename_i m4 hm4;obtain⟨hβ3,jb,pe3,LZ,hk3⟩:=Gm jd.m (show aQ O.mem s.nx=some (.lp .ready) from aht) A' CG (qD.trans dU.step)
   have eL3:({ L with state:=jb,pending:=pe3 }:Loop)=L:=by
    obtain⟨k1,k2⟩:=hk3;simp only at k1 k2;rw[U,k1,k2]
   rw[eL3] at LZ;obtain⟨hmb,L1,amq⟩:=Je (st:=.busy) (pe:=none) (r:=some (.lp .busy)) jd.m hβ3 LZ (fun r' eh=>⟨.busy,(Option.some.inj eh).symm,rfl,rfl⟩);have eLb:({ L with state:=.busy }:Loop)={ L with state:=.busy,pending:=none }:=by rw[U]
   refine⟨_,run_beginRound LZ (by rw[U]),?_⟩;rw[eLb]
   obtain⟨e5,s5,V2⟩:∃ e5 s5,ev hd false body ⟨O.env,m4,O.nx⟩=some (e5,s5):=by
    generalize ev hd false body ⟨O.env,m4,O.nx⟩=z at C;cases z with
    |none=>cases C
    |some z=>exact⟨z.1,z.2,rfl⟩
   rw[V2] at C
   have aeD:bH P F (aP ⟨O.env,m4,O.nx⟩) β3 (w3.putObj l (.loop { L with state:=.busy,pending:=none })) a3:=⟨jd.e.step L1,by
    show ax P F (aQ m4) β3 _
    rw[w9 hm4];exact hmb,jd.n⟩
   have KK:=fN hd false body _ e5 s5 V2 F (some l) n' β3 _ a3 (fun h=>by cases h) ((V1.step dU.step).step L1) (by rw[dU.size];show eP (Array.size _) body=true;rw[Cy];exact Lu) aeD;refine wpIn_mono KK fun e a5 w5 hp5=>?_;obtain⟨⟨_,β5,⟨rfl,rfl⟩,Dx,M9⟩,_⟩:=hp5;have UC:Step β2 w2 β5 w5:=(dU.step.trans L1).trans M9.step
   have fin:∀ (jump:Option Code) (bb:Bool) (k:RS),bb=jump.isNone->RS.Is { L with state:=if jump.isNone then .ready else .done,pending:=jump } k->Ci s.nx bb k s5=some (b,m',an)->
    ∃ v w',(Instr.endRound l jump).run P w5=.ok v w'/\∃ v' d m2 gT β',Ending.returned v=.returned v'/\(d=.s (.bool b)/\m2=aQ m'/\gT=an)/\ax P F m2 β' w'/\(∀ i,gT<=i->β' i=none)/\R F β' w' d v'/\Step β2 w2 β' w'/\nx<=gT/\∀ i,i<nx->β2 i=none->β' i=none:=fun jump bb k AS hk o7=>by
    unfold Ci at o7;split at o7
    rotate_left
    .cases o7
    rename_i ahu;split at o7
    rotate_left
    .cases o7
    rename_i m6 qN;simp only[aH,bR] at o7;obtain⟨rfl,rfl,rfl⟩:=o7;obtain⟨hβ5,st5,pe5,UD,hk5⟩:=Gm Dx.m (show aQ s5.mem s.nx=some (.lp .busy) from ahu) A' CG (qD.trans UC);obtain⟨Na,L2,amr⟩:=Je (st:=if jump.isNone then .ready else .done) (pe:=jump) (r:=some (.lp k)) Dx.m hβ5 UD (fun r' eh=>⟨k,(Option.some.inj eh).symm,hk⟩);refine⟨_,_,run_endRound (P:=P) jump UD,.bool jump.isNone,.s (.bool bb),aQ m6,s5.nx,β5,rfl,⟨rfl,rfl,rfl⟩,?_,Dx.n,?_,UC.trans L2,Nat.le_trans dU.le M9.le,fun i hi hb=>M9.grow i (Nat.lt_of_lt_of_le hi dU.le) (dU.grow i hi hb)⟩
    .rw[w9 qN];exact Na
    .rw[AS];exact .s _ rfl
   unfold R9 at C;cases e with
   |normal=>exact fin none true .ready rfl ⟨rfl,rfl⟩ C
   |ret=>exact fin (some .ret) false (.done .ret) rfl ⟨rfl,rfl⟩ C
   |exit id=>exact fin (some (.exit id)) false (.done (.exit id)) rfl ⟨rfl,rfl⟩ C
   |_=>cases C
 refine⟨l,[mark w.heap.size],J,d,J,f,_,J,?_,rZ,fun f' _=>trivial,hinv,fun hd=>by simp at hd,Em ?_⟩
 .rw[<- pa,U,hl];exact run_enterLoop_outer _ _ _ _ _
 refine(hz.2 F _ J _ hh1 yD wz ?_).mono ?_
 .refine Rs.append (Rs.append ?_ ?_) ?_
  .exact⟨by simp[Da],fun k d v hd hv=>(hu k d v hd (by simpa using hv)).step dF⟩
  .refine⟨rfl,fun k d v hd hv=>?_⟩;cases k with
   |zero=>
    simp only[List.getElem?_cons_zero,aH] at hd;simp only[List.getElem?_toArray,List.getElem?_cons_zero,aH] at hv;subst hd;subst hv;exact .yl _ l A'
   |succ k=>simp at hd
  .exact⟨by simp[pV],fun k d v hd hv2=>(yE k d v hd (by simpa using hv2)).step dF⟩
 rintro e6 w6 ⟨β6,hy6,qN,VH,lV,Ul,LC⟩;cases y with
 |inr ch=>cases h
 |inl dy=>
 obtain⟨v6,rfl,_⟩:=hy6
 have fin:∀ (k:RS) (jump:Option Code) (e1:Exit),(∀ Lx:Loop,RS.Is Lx k->Lx.state≠ .busy/\Lx.pending=jump)->m6.get s.nx=some (.lp k)->CF s.nx s.env m6 AT e1=some (e,s')->
  ∃ w7,(Instr.endLoop l).run P w6=.ok jump w7/\Cf P F s.nx β w a (QE e s') e1 { a with defers:=[mark w.heap.size]++a.defers } w7:=fun k jump e1 hk X he=>by
  unfold CF at he;split at he
  rotate_left
  .cases he
  rename_i m7 hm7;simp only[aH,bR] at he;obtain⟨rfl,rfl⟩:=he;obtain⟨hβ6,st6,V3,UE,hk6⟩:=Gm qN (show aQ m6 s.nx=some (.lp k) from X) A' CG lV;obtain⟨hk7,Nb⟩:=hk _ hk6;have Nb:V3=jump:=Nb;subst Nb;have cK:=run_endLoop (P:=P) UE hk7;obtain⟨Na,L2,_⟩:=Je (st:=.exhausted) (pe:=V3) (r:=none) qN hβ6 UE (fun r' eh=>by cases eh);have UF:=(dF.trans lV).trans L2;have hl6:w.heap.size<w6.heap.size:=by have:=lV.size;omega
  refine⟨_,cK,_,β6,⟨rfl,rfl⟩,⟨fun t=>(hs.e t).step UF,?_,VH⟩,⟨UF,Nat.le_trans (Nat.le_succ _) Ul,fun i hi hb=>LC i (Nat.lt_succ_of_lt hi) ?_,rfl,[mark w.heap.size],rfl,w.heap.size,rfl,a6 _,by simpa using hl6,?_,(lV.du _ oG B6).2,trivial⟩⟩
  .show ax P F (aQ m7) β6 _;rw[w9 hm7];exact Na
  .rw[aA _ _ (show i≠s.nx by omega)];exact hb
  .exact(World.putObj_heap_other oG).trans ((lV.du _ oG B6).1.trans MK)
 simp only[Sa] at h;split at h
 .rename_i X;obtain⟨w7,h1,h2⟩:=fin .ready none .normal (fun Lx hk=>⟨by rw[hk.1];simp,hk.2⟩) X h;exact⟨none,w7,h1,h2⟩
 .rename_i X;obtain⟨w7,h1,h2⟩:=fin (.done .ret) (some .ret) .ret (fun Lx hk=>⟨by rw[hk.1];simp,hk.2⟩) X h;exact⟨some .ret,w7,h1,wpIn_ret h2⟩
 .rename_i id X;obtain⟨w7,h1,h2⟩:=fin (.done (.exit id)) (some (.exit id)) (.exit id) (fun Lx hk=>⟨by rw[hk.1];simp,hk.2⟩) X h;exact⟨some (.exit id),w7,h1,wpIn_exit h2⟩
 .cases h
end
section
variable{P:Program}{F:Nat->Prop}{β:av}{w:World}
theorem pC:∀ {n:Nat} {d:D},nj n d=true->Tr d
 |0,_,h=>by cases h
 |n+1,d,h=>by
  cases d with
  |rs=>cases h
  |rp=>cases h
  |mp=>cases h
  |sc=>cases h
  |yl=>cases h
  |cu c d=>exact .cu (pC h)
  |agg cs=>exact .agg fun d hd=>pC (cv.1 h d hd)
  |aT cs=>exact .aT fun d hd=>pC (cv.1 h d hd)
  |sl cs n=>exact .sl fun d hd=>pC (cv.1 h d hd)
  |pt cs=>exact .pt fun d hd=>pC (cv.1 h d hd)
  |fn f fs cs=>
   simp only[nj,aw] at h;exact .fn (fun d hd=>pC (cv.1 h.1 d hd)) fun d hd=>pC (cv.1 h.2 d hd)
  |im es=>exact .im fun x hx=>pC (cv.1 h x hx)
  |s v=>exact .s v
  |ub=>exact .ub
  |u=>exact .u
  |z=>exact .z
theorem Ec{α β:Type}{f:α->Option (β×List Nat)}:∀ {xs:List α} {ys:List β} {r:List Nat},gN f xs=some (ys,r)->
 ys.length=xs.length/\(∀ (k:Nat) (y:β),ys[k]? =some y->∃ x r',xs[k]? =some x/\f x=some (y,r')/\∀ i∈r',i∈r)
 |[],ys,r,h=>by simp only[gN,aH,bR] at h;obtain⟨rfl,rfl⟩:=h;simp
 |x::xs,ys,r,h=>by
  simp only[gN] at h;cases hx:f x with
  |none=>rw[hx] at h;cases h
  |some y=>
   rw[hx] at h;simp only at h;cases C:gN f xs with
   |none=>rw[C] at h;cases h
   |some J=>
    rw[C] at h;simp only[aH,bR] at h;obtain⟨rfl,rfl⟩:=h;obtain⟨h1,h2⟩:=Ec (ys:=J.1) (r:=J.2) C;refine⟨by simp[h1],fun k z hz=>?_⟩;cases k with
    |zero=>
     simp only[List.getElem?_cons_zero,aH] at hz;subst hz;exact⟨x,y.2,rfl,hx,fun i hi=>by simp[hi]⟩
    |succ k=>
     obtain⟨x',r',O,U,X⟩:=h2 k z (by simpa using hz);exact⟨x',r',by simpa using O,U,fun i hi=>by simp[X i hi]⟩
theorem qf{α β:Type}{f:α->Option (β×List Nat)}{xs:List α}{ys:List β}{r:List Nat}(h:gN f xs=some (ys,r)){p:β->Prop}(hp:∀ x y r',f x=some (y,r')->p y):∀ y∈ys,p y:=fun y hy=>by
 obtain⟨k,hk⟩:=fI hy;obtain⟨x,r',_,h2,_⟩:=(Ec h).2 k y hk;exact hp x y r' h2
theorem EL{m:T Row}:∀ {n:Nat} {d d':D} {r:List Nat},cy P m n d=some (d',r)->Tr d'
 |0,_,_,_,h=>by cases h
 |n+1,d,d',r,h=>by
  have ih:∀ x y r',cy P m n x=some (y,r')->Tr y:=fun x y r' h=>EL h
  have C:∀ (x:Value×D) (y:Value×D) r',(cy P m n x.2).map (fun y=>((x.1,y.1),y.2))=some (y,r')->Tr y.2:=fun x y r' h=>by
   simp only[cN,bR] at h;obtain⟨z,hz,rfl,_⟩:=h;exact EL (r:=z.2) hz
  cases d with
  |sc=>cases h
  |yl=>cases h
  |mp i=>
   simp only[cy] at h;split at h
   .simp only[cN,bR] at h;obtain⟨x,hx,rfl,_⟩:=h;exact .im (qf (ys:=x.1) (r:=x.2) hx C)
   .cases h
  |im es=>
   simp only[cy,cN,bR] at h;obtain⟨x,hx,rfl,_⟩:=h;exact .im (qf (ys:=x.1) (r:=x.2) hx C)
  |rs i off k=>
   simp only[cy] at h;split at h
   .simp only[cN,bR] at h;obtain⟨x,hx,rfl,_⟩:=h;exact .sl (qf (ys:=x.1) (r:=x.2) hx ih)
   .cases h
  |rp i off=>
   simp only[cy] at h;split at h
   .simp only[cN,bR] at h;obtain⟨x,hx,rfl,_⟩:=h;exact .pt (qf (ys:=x.1) (r:=x.2) hx ih)
   .cases h
  |cu c d=>
   cases c with
   |true=>
    simp only[cy,cN,bR] at h;obtain⟨x,hx,rfl,_⟩:=h;exact .cu (EL (r:=x.2) hx)
   |false=>simp only[cy,aH,bR] at h;obtain⟨rfl,_⟩:=h;exact .cu .u
  |agg cs=>
   simp only[cy,cN,bR] at h;obtain⟨x,hx,rfl,_⟩:=h;exact .agg (qf (ys:=x.1) (r:=x.2) hx ih)
  |aT cs=>
   simp only[cy,cN,bR] at h;obtain⟨x,hx,rfl,_⟩:=h;exact .aT (qf (ys:=x.1) (r:=x.2) hx ih)
  |sl cs k=>
   simp only[cy,cN,bR] at h;obtain⟨x,hx,rfl,_⟩:=h;exact .sl (qf (ys:=x.1) (r:=x.2) hx ih)
  |pt cs=>
   simp only[cy,cN,bR] at h;obtain⟨x,hx,rfl,_⟩:=h;exact .pt (qf (ys:=x.1) (r:=x.2) hx ih)
  |fn f fs cs=>
   simp only[cy] at h;cases hx:gN (cy P m n) fs with
   |none=>rw[hx] at h;cases h
   |some x=>
    rw[hx] at h;simp only[cN,bR] at h;obtain⟨y,hy,rfl,_⟩:=h;exact .fn (qf (ys:=x.1) (r:=x.2) hx ih) (qf (ys:=y.1) (r:=y.2) hy ih)
  |s v=>simp only[cy,aH,bR] at h;obtain⟨rfl,_⟩:=h;exact .s v
  |ub=>simp only[cy,aH,bR] at h;obtain⟨rfl,_⟩:=h;exact .ub
  |u=>simp only[cy,aH,bR] at h;obtain⟨rfl,_⟩:=h;exact .u
  |z=>simp only[cy,aH,bR] at h;obtain⟨rfl,_⟩:=h;exact .z
def Looks(P:Program)(F:Nat->Prop)(β:av)(w:World)(m:T Row)(a7:List Nat):Prop:=∀ i∈a7,∀ r,m.get i=some r->∃ p,β i=some p/\cx P F β w r p/\∀ b,p.bA=some b->¬ F b
theorem ze(b:Nat):fw.free b:=fun i p hp=>by cases hp
theorem Ca{m:T Row}:∀ {n:Nat} {d d':D} {r:List Nat},cy P m n d=some (d',r)->Looks P F β w m r->∀ {v:Value},R F β w d v->R F fw w d' v
 |0,_,_,_,h,_,_,_=>by cases h
 |n+1,d,d',r,h,hl,v,hv=>by
  have many:∀ {xs ys:List D} {r':List Nat},gN (cy P m n) xs=some (ys,r')->(∀ i∈r',i∈r)->ys.length=xs.length/\∀ (k:Nat) (d:D) (u:Value),ys[k]? =some d->(∀ O,xs[k]? =some O->R F β w O u)->R F fw w d u:=fun h hr=>by
   obtain⟨h1,h2⟩:=Ec h;refine⟨h1,fun k d u hd hu=>?_⟩;obtain⟨x,r2,C,J,X⟩:=h2 k d hd;exact Ca J (fun i hi=>hl i (hr i (X i hi))) (hu x C)
  have look:∀ {i:Nat} {cs:List D} {e:TypeId},i∈r->m.get i=some (.cells cs e)->∃ p,β i=some p/\cx P F β w (.cells cs e) p/\∀ b,p.bA=some b->¬ F b:=fun hi hm=>hl _ hi _ hm
  have UG:∀ {es ys:List (Value×D)} {r':List Nat} {ms:Array MapEntry},gN (fun x=>(cy P m n x.2).map fun y=>((x.1,y.1),y.2)) es=some (ys,r')->(∀ i∈r',i∈r)->ms.size=es.length->(es.map (·.1)).Nodup->
   (∀ (k:Nat) (x:Value×D) (m:MapEntry),es[k]? =some x->ms[k]? =some m->m.key=x.1/\R F β w x.2 m.val)->
   ms.size=ys.length/\(ys.map (·.1)).Nodup/\(∀ (k:Nat) (x:Value×D) (m:MapEntry),ys[k]? =some x->ms[k]? =some m->m.key=x.1)/\∀ (k:Nat) (x:Value×D) (m:MapEntry),ys[k]? =some x->ms[k]? =some m->R F fw w x.2 m.val:=fun {es ys r' ms} h hr br dE hh=>by
   obtain⟨h1,h2⟩:=Ec h
   have key:∀ (k:Nat) (y:Value×D),ys[k]? =some y->∃ x r2,es[k]? =some x/\y.1=x.1/\cy P m n x.2=some (y.2,r2)/\∀ i∈r2,i∈r':=fun k y hy=>by
    obtain⟨x,r2,C,J,X⟩:=h2 k y hy;simp only[cN,bR] at J;obtain⟨z,hz,rfl,rfl⟩:=J;exact⟨x,z.2,C,rfl,hz,X⟩
   have keys:ys.map (·.1)=es.map (·.1):=by
    refine List.ext_getElem? fun k=>?_;simp only[List.getElem?_map];cases hy:ys[k]? with
    |some y=>
     obtain⟨x,_,C,J,_⟩:=key k y hy;simp[C,J]
    |none=>
     have:es[k]? =none:=by
      rw[List.getElem?_eq_none_iff] at hy ⊢;omega
     simp[this]
   refine⟨by rw[h1];exact br,by rw[keys];exact dE,fun k y mm hy eD=>?_,fun k y mm hy eD=>?_⟩
   .obtain⟨x,r2,C,J,_⟩:=key k y hy;rw[J];exact(hh k x mm C eD).1
   .obtain⟨x,r2,C,_,X,g4⟩:=key k y hy;exact Ca X (fun i hi=>hl i (hr i (g4 i hi))) (hh k x mm C eD).2
  cases d with
  |sc=>cases h
  |yl=>cases h
  |mp i=>
   simp only[cy] at h;split at h
   .rename_i es hm;simp only[cN,bR] at h;obtain⟨x,hx,rfl,rfl⟩:=h;obtain⟨p,hp,af,ug⟩:=hl i (List.mem_cons_self ..) _ hm;cases hv with
    |yF _ _ h1 _=>rw[h1] at hp;cases hp;exact absurd rfl af.live
    |mp _ b h1=>
     rw[h1] at hp;cases hp;cases af with
     |map _ _ ms clock C J X g4=>
      obtain⟨k1,k2,k3,k4⟩:=UG (ys:=x.1) (r':=x.2) hx (fun i hi=>List.mem_cons_of_mem _ hi) J X g4;exact .im x.1 b ms clock (ug b rfl) (ze b) C k1 k2 k3 k4
   .cases h
  |im es=>
   simp only[cy,cN,bR] at h;obtain⟨x,hx,rfl,rfl⟩:=h;cases hv with
   |im _ b ms clock hf hb hc J X g4 g5=>
    obtain⟨k1,k2,k3,k4⟩:=UG (ys:=x.1) (r':=x.2) hx (fun _ h=>h) J X (fun k x m hx hm=>⟨g4 k x m hx hm,g5 k x m hx hm⟩);exact .im x.1 b ms clock hf (ze b) hc k1 k2 k3 k4
  |rs i off k=>
   simp only[cy] at h;split at h
   .rename_i cs e hm;simp only[cN,bR] at h;obtain⟨x,hx,rfl,rfl⟩:=h;obtain⟨p,hp,af,ug⟩:=look (List.mem_cons_self ..) hm;obtain⟨C,J⟩:=many (ys:=x.1) (r':=x.2) hx (fun i hi=>List.mem_cons_of_mem _ hi)
    have nil:(cs.drop off).take (k*P.cellsOf e)=[]->x.1=[]:=fun e=>by
     rw[e] at C;exact List.eq_nil_of_length_eq_zero (by simpa using C)
    cases hv with
    |js _ _ _ _ h1 _=>
     rw[h1] at hp;cases hp;exact absurd rfl af.live
    |gu _ a h1=>
     rw[h1] at hp;cases hp;cases af;rw[nil oS];exact .gR a 0
    |ir _ _ a b o len room sz h1=>
     rw[nil oS];exact .gR a 0
    |rs _ _ _ cap b o len room sz h1 hn cW h2 h3=>
     rw[h1] at hp;cases hp;obtain⟨bP,hl,br,_⟩:=af.rd;obtain⟨us,u1,u2⟩:=(bP.drop off).take (k*P.cellsOf e)
     have ag:b<w.heap.size:=by
      cases af with
      |cells _ _ _ _ _ _ c hb=>exact(Array.getElem?_eq_some_iff.1 hb).1
     exact .sl x.1 k b (o+off) cap us (ug b rfl) (ze b) ag hn cW (fun j hj=>u1 j (by rw[<- C];exact hj)) fun j d hd=>J j d _ hd fun O U=>u2 j O U
   .cases h
  |rp i off=>
   simp only[cy] at h;split at h
   .rename_i cs e hm;simp only[cN,bR] at h;obtain⟨x,hx,rfl,rfl⟩:=h;obtain⟨p,hp,af,ug⟩:=look (List.mem_cons_self ..) hm;obtain⟨C,J⟩:=many (ys:=x.1) (r':=x.2) hx (fun i hi=>List.mem_cons_of_mem _ hi);cases hv with
    |qM _ _ _ h1 _=>
     rw[h1] at hp;cases hp;exact absurd rfl af.live
    |rp _ _ b o len room sz h1=>
     rw[h1] at hp;cases hp;obtain⟨bP,hl,br,_⟩:=af.rd;obtain⟨us,u1,u2⟩:=bP.drop off
     have ag:b<w.heap.size:=by
      cases af with
      |cells _ _ _ _ _ _ c hb=>exact(Array.getElem?_eq_some_iff.1 hb).1
     exact .pt x.1 b (o+off) us (ug b rfl) (ze b) ag (fun j hj=>u1 j (by rw[<- C];exact hj)) fun j d hd=>J j d _ hd fun O U=>u2 j O U
   .cases h
  |cu c d=>
   cases hv with
   |cu _ _ _ h1 h2=>
   cases c with
   |true=>
    simp only[cy,cN,bR] at h;obtain⟨x,hx,rfl,rfl⟩:=h;exact .cu true _ v (fun _=>Ca (r:=x.2) hx hl (h1 rfl)) oS
   |false=>simp only[cy,aH,bR] at h;obtain⟨rfl,_⟩:=h;exact .cu false _ v oS h2
  |agg cs=>
   simp only[cy,cN,bR] at h;obtain⟨x,hx,rfl,rfl⟩:=h;obtain⟨vs,rfl,pV,hh⟩:=hv.qk;obtain⟨C,J⟩:=many (ys:=x.1) (r':=x.2) hx (fun _ h=>h);exact .agg _ vs (by rw[C];exact pV) fun k d u hd hu=>J k d u hd fun O U=>hh k O u U hu
  |aT cs=>
   simp only[cy,cN,bR] at h;obtain⟨x,hx,rfl,rfl⟩:=h;obtain⟨vs,rfl,pV,hh⟩:=hv.zD;obtain⟨C,J⟩:=many (ys:=x.1) (r':=x.2) hx (fun _ h=>h);exact .aT _ vs (by rw[C];exact pV) fun k d u hd hu=>J k d u hd fun O U=>hh k O u U hu
  |sl cs k=>
   simp only[cy,cN,bR] at h;obtain⟨x,hx,rfl,rfl⟩:=h;obtain⟨C,J⟩:=many (ys:=x.1) (r':=x.2) hx (fun _ h=>h);cases hv with
   |gR a cap=>
    have:x.1=[]:=List.eq_nil_of_length_eq_zero (by simpa using C);rw[this];exact .gR a cap
   |sl _ _ b o cap us hf hb ag nL cW hc hh=>
    exact .sl _ k b o cap us hf (ze b) ag nL cW (fun j hj=>hc j (by rw[<- C];exact hj)) fun j d hd=>J j d _ hd fun O U=>hh j O U
  |pt cs=>
   simp only[cy,cN,bR] at h;obtain⟨x,hx,rfl,rfl⟩:=h;obtain⟨C,J⟩:=many (ys:=x.1) (r':=x.2) hx (fun _ h=>h);cases hv with
   |pt _ b o us hf hb ag hc hh=>
    exact .pt _ b o us hf (ze b) ag (fun j hj=>hc j (by rw[<- C];exact hj)) fun j d hd=>J j d _ hd fun O U=>hh j O U
  |fn f fs cs=>
   simp only[cy] at h;cases hx:gN (cy P m n) fs with
   |none=>rw[hx] at h;cases h
   |some x=>
    rw[hx] at h;simp only[cN,bR] at h;obtain⟨y,hy,rfl,rfl⟩:=h;obtain⟨C,J⟩:=many (ys:=x.1) (r':=x.2) hx (fun _ h=>List.mem_append_left _ h);obtain⟨k1,k2⟩:=many (ys:=y.1) (r':=y.2) hy (fun _ h=>List.mem_append_right _ h);cases hv with
    |fn _ _ _ us vs Da pV h1 h2=>
     exact .fn f _ _ us vs (by rw[C];exact Da) (by rw[k1];exact pV) (fun k d u hd hu=>J k d u hd fun O U=>h1 k O u U hu) fun k d u hd hu=>k2 k d u hd fun O U=>h2 k O u U hu
  |s v=>simp only[cy,aH,bR] at h;obtain⟨rfl,_⟩:=h;obtain⟨rfl,h⟩:=hv.cm;exact .s _ h
  |ub=>simp only[cy,aH,bR] at h;obtain⟨rfl,_⟩:=h;obtain⟨b,rfl⟩:=hv.B3;exact .ub b
  |u=>simp only[cy,aH,bR] at h;obtain⟨rfl,_⟩:=h;exact .u v
  |z=>simp only[cy,aH,bR] at h;obtain⟨rfl,_⟩:=h;rw[hv.ym];exact .z
theorem Ie{m:T Row}{n:Nat}{a7:List Nat}:∀ {aS bs:List D} {r:List Nat},gN (cy P m n) aS=some (bs,r)->(∀ i∈r,i∈a7)->jM P a7 (aQ m) aS bs
 |[],bs,r,h,_=>by
  simp only[gN,aH,bR] at h;obtain⟨rfl,_⟩:=h;trivial
 |a::aS,bs,r,h,hr=>by
  simp only[gN] at h;split at h
  .cases h
  .rename_i y hy;split at h
   .cases h
   .rename_i ys C;simp only[aH,bR] at h;obtain⟨rfl,rfl⟩:=h;exact⟨fun F β w v hl hv=>Ca (r:=y.2) hy (fun i hi=>hl i (hr i (List.mem_append_left _ hi))) hv,Ie (r:=ys.2) C fun i hi=>hr i (List.mem_append_right _ hi)⟩
theorem Ph:aQ .leaf=fun _=>none:=by funext j;exact wX _
theorem aaT{f:FuncId}{args:List D}{d r:D}{m':T Row}{n an:Nat}{a7:List Nat}(hz:ZC P [] f args (aQ .leaf) 0 (.inl d) (aQ m') an)(ht:∀ a∈args,Tr a)(hd:cy P m' n d=some (r,a7)):aG P f args r:=
 ⟨hz.1,ht,fun F w vs C hR=>(hz.2 F fw w vs rv (Ph▸D' C) (fun _ _=>rfl) hR).mono fun e w' ⟨β',⟨v,he,hv⟩,hm,hn,bF,_⟩=>
  ⟨v,he,Ca hd (fun i hi r hr=>by obtain⟨p,hp,af⟩:=hm.row i r hr;exact⟨p,hp,af,fun b hb=>hm.nf i p b hp hb⟩) hv,H6 bF⟩⟩
variable{x:Ctx}{ev:Ev}
def Kl(P:Program)(f:FuncId)(args:List D):D ⊕ (List D×Nat×TypeId)->Prop
 | .inl r=>aG P f args r
 | .inr (es,k,t)=>gC P f args es k t
theorem Qh{f:FuncId}{args:List D}{O:D ⊕ List PanicEntry}{m':T Row}{an:Nat}{y:D ⊕ (List D×Nat×TypeId)}(h:vy P (some (O,m',an))=some y)(hz:ZC P [] f args (aQ .leaf) 0 O (aQ m') an)(ht:∀ a∈args,Tr a):Kl P f args y:=by
 cases O with
 |inr ch=>cases h
 |inl d=>
  have deep:∀ {d},Gi P m' d=some y->ZC P [] f args (aQ .leaf) 0 (.inl d) (aQ m') an->Kl P f args y:=fun {d} hd hz=>by
   unfold Gi at hd;split at hd
   .rename_i r a7 gg;cases hd;exact aaT hz ht gg
   .cases hd
  unfold vy at h;split at h
  .rename_i i k m2 gT J;cases J;split at h
   .rename_i es t X;cases C:es.all (nj depth) with
    |false=>rw[C] at h;exact deep h hz
    |true=>
     rw[C] at h;cases h;exact P7 hz.1 ht (fun a ha=>pC (cv.1 C a ha)) fun F w vs U hR=>(hz.2 F fw w vs rv (Ph▸D' U) (fun _ _=>rfl) hR).mono fun e w' ⟨β',⟨v,he,hv⟩,hm,hn,bF,_⟩=>⟨v,i,_,β',he,X,hv,hm,bF⟩
   .cases h
  .rename_i J;cases J;exact deep h hz
  .cases h
theorem Jf(hx:oE P x)(C:qI P ev){f:FuncId}{args:List D}{y:D ⊕ (List D×Nat×TypeId)}(h:tA P x ev f args=some y)(ht:∀ a∈args,Tr a):Kl P f args y:=by
 unfold tA at h;cases hr:vL P x ev [] f args .leaf 0 with
 |none=>rw[hr] at h;cases h
 |some z=>
  obtain⟨J,m',an⟩:=z;rw[hr] at h;exact Qh h (JB hx.mix hx.fH C hr) ht
theorem Qi:∀ {n:Nat} {d:D},Aq n d=true->KD d
 |0,d,h=>by cases h
 |n+1,d,h=>fun F F' β β' w w' v hv=>by
  have many:∀ {cs:List D},cs.all (Aq n)=true->∀ {vs:List Value},(∀ (k:Nat) (d:D) (u:Value),cs[k]? =some d->vs[k]? =some u->R F β w d u)->∀ (k:Nat) (d:D) (u:Value),cs[k]? =some d->vs[k]? =some u->R F' β' w' d u:=
   fun hc _ hh k d u hd hu=>Qi (cv.1 hc d (cX hd)) F F' β β' w w' u (hh k d u hd hu)
  unfold Aq at h;split at h
  .rw[hv.cm.1];exact .s _ hv.cm.2
  .obtain⟨b,rfl⟩:=hv.B3;exact .ub b
  .rw[hv.ym];exact .z
  .obtain⟨vs,rfl,hl,hh⟩:=hv.qk;exact .agg _ vs hl (many h hh)
  .obtain⟨vs,rfl,hl,hh⟩:=hv.zD;exact .aT _ vs hl (many h hh)
  .cases h
theorem BM{hd:Hd}(hx:oE P x)(X:qI P ev):s6 P hd (xR P x ev hd):=fun f args m nx y m' an h=>by
 unfold xR at h;split at h
 .rename_i r hr;cases h;have hp:=hx.known _ _ _ hr;exact⟨hp.1,fun F β w vs _ hm C hR=>(O2 hm hp hR).mono fun e w' ⟨v,h1,h2,J,O⟩=>⟨β,⟨v,h1,h2⟩,J,C,O,a6 _,fun _ _ h=>h⟩⟩
 .split at h
  .rename_i r hr;cases h;exact(hx.B9 _ _ _ _ _ _ _ hr).any
  .split at h
   .rename_i r hr;cases h;cases hi:yT f x.deep with
    |false=>rw[hi] at hr;cases hr
    |true=>
    rw[hi] at hr;simp only[cond_true] at hr;unfold Ti at hr;split at hr
    rotate_left
    .cases hr
    rename_i eR a7 U;split at hr
    rotate_left
    .cases hr
    rename_i r' hk;cases hn:Aq depth r' with
    |false=>rw[hn] at hr;cases hr
    |true=>
     rw[hn] at hr;cases hr;have hp:=hx.known _ _ _ hk;exact⟨hp.1,fun F β w vs _ hm C hR=>(O3 hm (Ie U fun _ h=>h) (fun _ _ _=>rfl) hp (Qi hn) hR).mono fun e w' ⟨v,h1,h2,J,O⟩=>⟨β,⟨v,h1,h2⟩,J,C,O,a6 _,fun _ _ h=>h⟩⟩
   .exact JB hx.mix hx.fH X h
theorem Jg(hx:oE P x)(X:qI P ev):xd P (Ch P x ev):=fun f args m nx p h o st hg hm hn ha hc=>by
 have O:fi #[] o st true:=wU hg
 have pl:∀ r,aG P f args r->p=⟨r,[],[],0⟩->p.Ok P #[] o st/\∀ i∈p.wr,st.mem i≠none\/(nx<=i/\i<nx+p.new):=fun r hr hp=>by
  subst hp;exact⟨Jx O ha hc hr,by simp[aY.wr]⟩
 unfold Ch at h;split at h
 .rename_i r hr;cases h;exact pl r (hx.known _ _ _ hr) rfl
 .cases C:args.all (nj depth) with
  |true=>
   rw[C] at h;simp only[cond_true] at h;have ht:∀ a∈args,Tr a:=fun a ha=>pC (cv.1 C a ha);cases hp:tA P x ev f args with
   |none=>rw[hp] at h;cases h
   |some y=>
    rw[hp] at h;have h1:=Jf hx X hp ht;cases y with
    |inl r=>cases h;exact pl r h1 rfl
    |inr y=>
     obtain⟨es,k,t⟩:=y;cases h;subst hn;exact⟨RW O ha hc h1,by simp[aY.wr]⟩
  |false=>
   rw[C] at h;simp only[cond_false] at h;split at h
   .cases h
   .rename_i J a7 U;have kN:jM P a7 st.mem args J:=by rw[hm];exact Ie U fun _ h=>h
    have snap:∀ r,aG P f J r->Gj a7 (some (.inl r))=some p->p.Ok P #[] o st/\∀ i∈p.wr,st.mem i≠none\/(nx<=i/\i<nx+p.new):=fun r hr hp=>by
     simp only[Gj] at hp;cases hs:r.gL with
     |false=>rw[hs] at hp;cases hp
     |true=>
      rw[hs] at hp;cases hp;exact⟨Q8 O ha hc kN hr hs,by simp[aY.wr]⟩
    split at h
    .rename_i r hr;exact snap r (hx.known _ _ _ hr) h
    .cases hp:tA P x ev f J with
     |none=>rw[hp] at h;cases h
     |some y=>
      rw[hp] at h;cases y with
      |inl r=>exact snap r (Jf hx X hp (qf U fun x y r' h=>EL h)) h
      |inr y=>cases h
theorem Sd(hx:oE P x):∀ n,qI P (jv P x n):=by
 intro n
 induction n using Nat.strongRecOn with
 |_ n ih=>
 cases n with
 |zero=>intro hd rf c s e s' h;cases h
 |succ n=>
  have hn:=ih n (Nat.lt_succ_self n);intro hd rf c s e s' h F r k β w a dT hh ag hs;replace h:codeF c P x (jv P x n) hd rf s=some (e,s'):=h
  have self:∀ {e0},some (e0,s)=some (e,s')->qA P F rf s.nx β w a e s' e0 a w:=fun {e0} h=>by
   cases h;exact⟨⟨_,β,⟨rfl,rfl⟩,hs,(de.refl (aP s) β w a).v8⟩,fun _=>rfl⟩
  have andThen:∀ {J X:Code} {Q:Exit->Act->World->Prop},eP a.tmps.size J=true->Gk (jv P x n) hd rf X (jv P x n hd rf J s)=some (e,s')->(∀ C s1 a1 w1 O,jv P x n hd rf J s=some (C,s1)->bH P F (aP s1) O w1 a1->mZ s.nx β w a (aP s1) O w1 a1->(rf=false->a1.defers=a.defers)->
   (C=.normal->jv P x n hd rf X s1=some (e,s')->Q .normal a1 w1)/\(C≠ .normal->C=e->s1=s'->Q C a1 w1))->J.wpIn (Fe r) k P Q a w:=fun {J X Q} hl ht hk=>by
   cases h1:jv P x n hd rf J s with
   |none=>rw[h1] at ht;cases ht
   |some es=>
    obtain⟨C,s1⟩:=es;rw[h1] at ht;refine wpIn_mono (hn hd rf J s C s1 h1 F r k β w a dT hh hl hs) fun e2 a2 w2 hp=>?_;obtain⟨⟨_,β2,⟨rfl,rfl⟩,jw,fM⟩,po⟩:=hp;have:=hk e2 s1 a2 w2 β2 h1 jw fM po;cases e2 with
    |normal=>exact this.1 rfl ht
    |_=>cases ht;exact this.2 oS rfl rfl
  cases c with
  |skip=>exact wpIn_skip (self h)
  |ret=>exact wpIn_ret (self h)
  |exit id=>exact wpIn_exit (self h)
  |label l=>exact wpIn_label (self h)
  |region id ops dr=>
   have hl:kE a.tmps.size ops=true:=ag;refine wpIn_mono (Q:=cB P F s.nx β w a (QE e s')) ?_ fun C a1 w1 ⟨st',β',h1,h2,h3⟩=>⟨⟨st',β',h1,h2,h3.v8⟩,fun _=>h3.defers⟩
   cases dr with
   |false=>
    refine wpIn_region ?_;exact aaR (BM hx hn) hh hl h hs (de.refl (aP s) β w a)
   |true=>exact Qg hx.mix (BM hx hn) (Jg hx hn) hl h hh hs
  |seq J X=>
   simp only[eP,aw] at ag;refine wpIn_seq (andThen ag.1 h fun C s1 a1 w1 O _ dF U gg=>⟨fun he h2=>?_,fun he h2 h3=>?_⟩)
   .refine wpIn_mono (hn hd rf X s1 e s' h2 F r k O w1 a1 dT (hh.step U.step) (by rw[U.size];exact ag.2) dF) fun e2 a2 w2 hp=>qA.trans U gg hp
   .subst h2;subst h3;have hq:qA P F rf s.nx β w a C s1 C a1 w1:=⟨⟨_,O,⟨rfl,rfl⟩,dF,U⟩,gg⟩
    cases C with
    |normal=>exact absurd rfl he
    |_=>exact hq
  |loop b=>
   refine N2 (fun j a1 w1=>∃ s1 O,j<=n+1/\jv P x j hd rf (.loop b) s1=some (e,s')/\bH P F (aP s1) O w1 a1/\mZ s.nx β w a (aP s1) O w1 a1/\(rf=false->a1.defers=a.defers)) (j₀:=n+1) ⟨s,β,a6 _,h,hs,(de.refl (aP s) β w a).v8,fun _=>rfl⟩ ?_;rintro j a1 w1 ⟨s1,O,hj,h1,dF,U,gg⟩;cases j with
   |zero=>cases h1
   |succ j=>
    replace h1:Gk (jv P x j) hd rf (.loop b) (jv P x j hd rf b s1)=some (e,s'):=h1;cases h2:jv P x j hd rf b s1 with
    |none=>rw[h2] at h1;cases h1
    |some es=>
     obtain⟨e2,s2⟩:=es;rw[h2] at h1;refine wpIn_mono (ih j oG hd rf b s1 e2 s2 h2 F r k O w1 a1 dT (hh.step U.step) (by rw[U.size];exact ag) dF) fun e3 a3 w3 hp=>?_;obtain⟨⟨_,β3,⟨rfl,rfl⟩,jd,dU⟩,wC⟩:=hp;cases e3 with
     |normal=>exact⟨j,Nat.lt_succ_self j,s2,β3,oG,h1,jd,U.trans dU,fun e=>(wC e).trans (gg e)⟩
     |_=>cases h1;exact⟨⟨_,β3,⟨rfl,rfl⟩,jd,U.trans dU⟩,fun e=>(wC e).trans (gg e)⟩
  |cond c J X=>
   simp only[eP,aw] at ag
   replace h:(match dD s.env c with
    | .s (.bool true)=>jv P x n hd rf J s
    | .s (.bool false)=>jv P x n hd rf X s
    |_=>none)=some (e,s'):=h
   have hR:R F β w (dD s.env c) (a.eval c):=by rw[zz];exact hs.e.un.opd c
   split at h
   .rename_i hv;rw[hv] at hR;exact wpIn_cond_split hR.cm.1 (fun _=>hn hd rf J s e s' h F r k β w a dT hh ag.1 hs) fun h=>by cases h
   .rename_i hv;rw[hv] at hR;exact wpIn_cond_split hR.cm.1 (fun h=>by cases h) fun _=>hn hd rf X s e s' h F r k β w a dT hh ag.2 hs
   .cases h
  |scope b=>
   replace h:Uy (jv P x n hd rf b s)=some (e,s'):=h;cases h1:jv P x n hd rf b s with
   |none=>rw[h1] at h;cases h
   |some es=>
    obtain⟨C,s1⟩:=es;rw[h1] at h;refine OC (wpIn_mono (hn hd rf b s C s1 h1 F r k β w a dT hh ag hs) fun e2 a2 w2 hp=>?_);obtain⟨⟨_,β2,⟨rfl,rfl⟩,jw,fM⟩,po⟩:=hp;cases e2 with
    |goto l=>cases h
    |_=>cases h;exact⟨⟨_,β2,⟨rfl,rfl⟩,jw,fM⟩,po⟩
  |block id b=>
   replace h:K3 id (jv P x n hd rf b s)=some (e,s'):=h;cases h1:jv P x n hd rf b s with
   |none=>rw[h1] at h;cases h
   |some es=>
    obtain⟨C,s1⟩:=es;rw[h1] at h;refine wpIn_block (wpIn_mono (hn hd rf b s C s1 h1 F r k β w a dT hh ag hs) fun e2 a2 w2 hp=>?_);obtain⟨⟨_,β2,⟨rfl,rfl⟩,jw,fM⟩,po⟩:=hp;cases e2 with
    |exit i=>
     simp only[K3] at h;simp only[Exit.inBlock];by_cases hi:i=id
     .rw[if_pos hi];subst hi;rw[Nat.beq_refl] at h;cases h;exact⟨⟨_,β2,⟨rfl,rfl⟩,jw,fM⟩,po⟩
     .rw[if_neg hi];have:Nat.beq i id=false:=by cases hb:Nat.beq i id with|false=>rfl|true=>exact absurd (Nat.eq_of_beq_eq_true hb) hi
      rw[this] at h;cases h;exact⟨⟨_,β2,⟨rfl,rfl⟩,jw,fM⟩,po⟩
    |_=>cases h;exact⟨⟨_,β2,⟨rfl,rfl⟩,jw,fM⟩,po⟩
  |rangeFunc g ps assign body=>
   refine wpIn_mono (aaS hx hn h dT hh ag hs) fun _ _ _ hp=>⟨hp,fun e=>?_⟩
   subst e;cases h
  |_=>cases h
theorem mu(hx:oE P x)(n:Nat){f:FuncId}{args:List D}{r:D}(h:tA P x (jv P x n) f args=some (.inl r))(ht:args.all (nj depth)=true):aG P f args r:=
 Jf hx (Sd hx n) h fun a ha=>pC (cv.1 ht a ha)
end
section
variable{P:Program}{ops:Array Oper}{Q:Exit->St->Prop}{F:Nat->Prop}{N₀:Nat}{β₀:av}{w₀:World}{a₀:Act}
def aY.Dy(P:Program)(ops:Array Oper)(o:Oper)(st:St)(p:aY):Prop:=
 ∀ (F:Nat->Prop) (β:av) (w:World) (a:Act) (env:Env),(∀ t∈o.looksAt ops,env t=st.env t)->ez F β w env a->ax P F st.mem β w->(∀ i,st.nx<=i->β i=none)->
  ∀ (r:Option Nat) (n:Nat) (QX:Exit->Act->World->Prop) (K:Act->World->Prop),
   (∀ v w' β',R F β' w' p.val v->ax P F (bT st.mem p.aL) β' w'->Step β w β' w'->(∀ i,β i=none->(i<st.nx\/st.nx+p.new<=i)->β' i=none)->K (a.put o.dst v) w')->
   gk r n P ops QX o K a w
def FL(F:Nat->Prop)(C:Option Nat):Nat->Prop:=fun x=>F x\/some x=C
def Lt(P:Program)(F:Nat->Prop)(t:Nat)(ty:TypeId)(w₀ w:World)(a:Act)(C:Option Nat):Prop:=∀ b,C=some b->w₀.heap.size<=b/\¬ F b/\b<w.heap.size/\a.tmps.getD t undef=.pointer (some ⟨b,0,none⟩)/\
 ∃ z:Value,aV P ty=z.cells.toList.map jq/\(∀ u∈z.cells.toList,(jq u).one=true)/\w.heap[b]? =some (.cells z.cells ty (0,0))
theorem acv{m:Mem}{β:av}{w:World}{env:Env}{a:Act}(he:ez F β w env a)(hm:ax P F m β w):ez (FL F none) β w env a/\ax P (FL F none) m β w:=by
 have h:∀ b,FL F none b->F b:=fun b hb=>hb.elim id fun e=>by cases e
 exact⟨fun t=>(he t).pL h,hm.pL h fun t ht=>.inl (hm.fb.fH t ht).1⟩
theorem aaU{m:Mem}{β:av}{w:World}{nx b:Nat}{ty:TypeId}{z:Value}(hm:ax P (FL F (some b)) m β w)(hF:FB F w)(hn:β nx=none)(X:¬ F b)(ag:b<w.heap.size)(hz:aV P ty=z.cells.toList.map jq)(h1:∀ u∈z.cells.toList,(jq u).one=true)(hb:w.heap[b]? =some (.cells z.cells ty (0,0))):
 ∃ p,ax P F (up m nx (some (.cells (aV P ty) ty))) (up β nx (some p)) w/\R F (up β nx (some p)) w (.rp nx 0) (.pointer (some ⟨b,0,none⟩))/\p.bA=some b/\∀ {d:D} {v:Value},R (FL F (some b)) β w d v->R F (up β nx (some p)) w d v:=by
 obtain⟨p,hp⟩:∃ p,p=Pl.cells b 0 (aV P ty).length (aV P ty).length (P.cellsOf ty):=⟨_,rfl⟩
 have O:p.bA=some b:=by rw[hp];rfl
 have mR:∀ C,C<w.heap.size->¬ FL F (some b) C->β.free C->ll w w C/\av.free (up β nx (some p)) C/\¬ F C:=fun C _ hf gD=>⟨ll.refl w C,og gD (fun q hq e=>by cases hq;rw[O] at e;cases e;exact hf (.inr rfl)),fun e=>hf (.inl e)⟩
 have gE:∀ i q,(∀ r,q≠ .raw r)->β i=some q->(up β nx (some p)) i=some q\/(up β nx (some p)) i=some .dead:=fun i q _ hq=>.inl (by rw[aA _ _ (fun e=>by rw[e,hn] at hq;cases hq)];exact hq);have lift:∀ {d:D} {v:Value},R (FL F (some b)) β w d v->R F (up β nx (some p)) w d v:=fun h=>h.gen (a6 _) mR gE;have yV:∀ i q C,β i=some q->q.bA=some C->C≠b:=fun i q C hq e J=>hm.nf i q C hq e (.inr (by rw[J]))
 have look:∀ i q,(up β nx (some p)) i=some q->(i=nx/\q=p)\/(i≠nx/\β i=some q):=fun i q hq=>by
  by_cases hi:i=nx
  .subst hi;rw[ai] at hq;cases hq;exact .inl ⟨rfl,rfl⟩
  .rw[aA _ _ hi] at hq;exact .inr ⟨hi,hq⟩
 obtain⟨c1,c2⟩:=xA (F:=F) (β:=up β nx (some p)) (w:=w) hz h1;refine⟨p,⟨fun i r hi=>?_,fun i j q q' C hq fp e J=>?_,fun i q C hq e=>?_,fun i q C hq e=>?_,hF⟩,?_,O,lift⟩
 .by_cases U:i=nx
  .subst U;rw[ai] at hi;cases hi;refine⟨p,ai _ _ _,?_⟩;rw[hp];refine .cells _ ty b 0 _ _ z.cells hb (by simp at c1 ⊢;omega) (a6 _) rfl fun k d hk=>?_;have iG:k<(aV P ty).length:=(bU.1 hk).1;have A4:k<z.cells.size:=by simpa using(c1▸iG:k<z.cells.toList.length)
   obtain⟨g1,g2⟩:=c2 k d z.cells[k] hk (by simp[A4]);rw[<- hp];exact⟨z.cells[k],by rw[Nat.zero_add];simp[A4],g1,g2⟩
  .rw[aA _ _ U] at hi;obtain⟨q,hq,hr⟩:=hm.row i r hi;exact⟨q,by rw[aA _ _ U];exact hq,hr.gen (a6 _) (fun C h1 h2 h3=>mR C h1 h2 h3) gE fun _ _=>rfl⟩
 .rcases look i q hq with⟨rfl,rfl⟩|⟨hi,h1⟩<;>rcases look j q' fp with⟨rfl,rfl⟩|⟨hj,h2⟩
  .rfl
  .rw[O] at e;cases e;exact absurd rfl (yV j q' _ h2 J)
  .rw[O] at J;cases J;exact absurd rfl (yV i q _ h1 e)
  .exact hm.inj i j q q' C h1 h2 e J
 .rcases look i q hq with⟨rfl,rfl⟩|⟨hi,h1⟩
  .rw[O] at e;cases e;exact ag
  .exact hm.lt i q C h1 e
 .rcases look i q hq with⟨rfl,rfl⟩|⟨hi,h1⟩
  .rw[O] at e;cases e;exact X
  .exact fun hf=>hm.nf i q C h1 e (.inl hf)
 .rw[hp];exact .rp nx 0 b 0 _ _ _ (ai _ _ _)
theorem XV{o:Oper}{ty:TypeId}{t:Nat}{w:World}{a:Act}{r:Option Nat}{n:Nat}{QX:Exit->Act->World->Prop}{K:Act->World->Prop}(ho:o.op=.alloc ty)(hd:o.dst=some t)(hg:o.guard=none)(C:aB P ty=true)
 (X:∀ z:Value,aV P ty=z.cells.toList.map jq->(∀ u∈z.cells.toList,(jq u).one=true)->K (a.put (some t) (.pointer (some ⟨w.heap.size,0,none⟩))) (w.alloc (.cells z.cells ty))):gk r n P ops QX o K a w:=by
 obtain⟨z,hz,_,O,U⟩:=wP (P:=P) w C;have hw:Region.wanted o (yielded ops a.tmps)=true:=by simp[Region.wanted,hg]
 have J:(execOp a.eval o).run P w=.ok (.value (.pointer (some ⟨w.heap.size,0,none⟩))) (w.alloc (.cells z.cells ty)):=by
  unfold execOp;rw[ho];simp[Instr.alloc,hz,Bz]
 unfold gk;rw[hw,if_pos rfl];refine⟨fun _ _=>trivial,?_⟩;rw[xB (fun c hc=>by rw[ho] at hc;cases hc),J];show K (a.put o.dst _) _;rw[hd];exact X z O U
structure Km(p q:aY)(hp hq:Bool):Prop where
 ww:∀ x∈p.wr,x∉q.wr
 wr:∀ x∈p.wr,x∉q.rd
 rw:∀ x∈q.wr,x∉p.rd
 hp:hp=true->q.aL=[]/\q.new=0
 hq:hq=true->p.aL=[]/\p.new=0
theorem adu{oo:Nat->Oper}{pp:Nat->aY}{st₀:St}{hv:Nat->Bool}{p nl t:Nat}{ty:TypeId}(r:Option Nat)(n:Nat)(yH:∀ j o,ops[j]? =some o->oo j=o)(ag:kE a₀.tmps.size ops=true)(br:ops.size=p+2)
 (tW:∀ (i:Nat) (o:Oper),ops[i]? =some o->∀ e∈o.after,Region.binds .any e=true->e.on<i)
 (DA:(oo p).op=.alloc ty) (yO:(oo p).dst=some t) (hlg:(oo p).guard=none) (Dz:aB P ty=true) (HC:∀ j,j<p->(oo j).dst≠some t) (h0:st₀.env t=.u)
 (xO:∀ i,i<p+1->((dh ops.toList []).getD (p+1) 0).testBit i=true) (gf:nl<=p)
 (cn:∀ j,j<nl->(pp j).Ok P ops (oo j) (bu oo pp st₀ j)\/(hv j=true/\(pp j).Dy P ops (oo j) (bu oo pp st₀ j)))
 (pq:∀ i j,i<j->j<nl->((dh ops.toList []).getD j 0).testBit i=false->(oo i).apart ops (oo j)=true/\Km (pp i) (pp j) (hv i) (hv j))
 (L3:nl=p->∀ β w a,bH P F ⟨up (bu oo pp st₀ p).env t (.rp (bu oo pp st₀ p).nx 0),up (bu oo pp st₀ p).mem (bu oo pp st₀ p).nx (some (.cells (aV P ty) ty)),(bu oo pp st₀ p).nx+1⟩ β w a->
  de N₀ β₀ w₀ a₀ ⟨up (bu oo pp st₀ p).env t (.rp (bu oo pp st₀ p).nx 0),up (bu oo pp st₀ p).mem (bu oo pp st₀ p).nx (some (.cells (aV P ty) ty)),(bu oo pp st₀ p).nx+1⟩ β w a->
  ∀ K:Act->World->Prop,(∀ a' w',cB P F N₀ β₀ w₀ a₀ Q .normal a' w'->K a' w')->gk r n P ops (cB P F N₀ β₀ w₀ a₀ Q) (oo (p+1)) K a w)
 (L4:nl<p->nl+1=p/\(∀ i,i<nl->((dh ops.toList []).getD nl 0).testBit i=true)/\∃ ch mP pu,Q (.panic ch) ⟨(bu oo pp st₀ nl).env,mP,pu⟩/\
  ∀ (F:Nat->Prop) (β:av) (w:World) (a:Act),bH P F (bu oo pp st₀ nl) β w a->∀ (QX:Exit->Act->World->Prop) (K:Act->World->Prop),
   (∀ β' w',ax P F mP β' w'->(∀ i,pu<=i->β' i=none)->Step β w β' w'->(bu oo pp st₀ nl).nx<=pu->(∀ i,i<(bu oo pp st₀ nl).nx->β i=none->β' i=none)->QX (.panic ch) a w')->gk r n P ops QX (oo nl) K a w)
 (hN:N₀<=st₀.nx) (HD:FB F w₀):
 ∀ (eA:Nat) (listed:Array Bool) (β:av) (w:World) (a:Act),listed.size=ops.size->listed.toList.countP (fun b=> !b)<=eA->listed.getD (p+1) false=false->(nl<p->listed.getD nl false=false)->
  (∀ j,listed.getD j false=true->∀ o,ops[j]? =some o->∀ e∈o.after,Region.binds .any e=true->listed.getD e.on false=true)->
  (∃ ob:Option Nat,(listed.getD p false=true->ob.isSome=true)/\(listed.getD p false=false->ob=none)/\Lt P F t ty w₀ w a ob/\DS P (FL F ob) oo pp st₀ nl N₀ β₀ w₀ a₀ (fun j=>listed.getD j false) β w a)->
  wpAnyIn (Fe r) n P .any ops (cB P F N₀ β₀ w₀ a₀ Q) eA listed a w:=by
 have pO:∀ listed:Array Bool,listed.size=ops.size->Region.ready .any ops listed=[]->∀ k,k<ops.size->listed.getD k false=true:=by
  intro listed br hr k
  induction k using Nat.strongRecOn with
  |_ k ih=>
   intro hk;cases hl:listed.getD k false with
   |true=>rfl
   |false=>
    exfalso
    have:k∈Region.ready .any ops listed:=by
     rw[mem_ready];refine⟨?_,ops[k],by simp[hk],fun e he hb=>?_⟩
     .have iG:k<listed.size:=by omega
      simpa[iG] using hl
     .have h1:=tW k ops[k] (by simp[hk]) e he hb;exact ih e.on h1 oG
    rw[hr] at this;cases this
 have aeE:∀ (S:Nat->Bool),(cY oo pp st₀ S nl).env t=.u:=fun S=>by
  rw[<- h0,Jp oo pp st₀ (T:=fun _=>false) nl (fun j hj _=>HC j oG)]
  have:∀ m,cY oo pp st₀ (fun _=>false) m=st₀:=fun m=>by
   induction m with
   |zero=>rfl
   |succ m ih=>simp only[cY,Bool.false_eq_true,if_false];exact ih
  rw[this]
 intro eA
 induction eA with
 |zero=>
  intro listed β w a GO hc je _ _ _;exfalso;have hx:p+1<listed.size:=by omega
  have h1:listed[p+1]=false:=by simpa[hx] using je
  have h2:0<listed.toList.countP (fun b=> !b):=List.countP_pos_iff.2 ⟨listed[p+1],oS,by simp[h1]⟩;omega
 |succ eA ih=>
  rintro listed β w a GO hc je Nc cg ⟨ob,UH,UI,V5,C⟩;refine⟨fun hr=>?_,fun k hk=>?_⟩
  .rw[pO listed GO hr (p+1) oG] at je;cases je
  rw[mem_ready] at hk;obtain⟨pd,o,ho,lA⟩:=hk;have kP:k<ops.size:=(Array.getElem?_eq_some_iff.1 ho).1;have gU:k<listed.size:=by omega
  have yJ:listed[k]=false:=by simpa[gU] using pd
  have pf:listed.getD k false=false:=by simp[gU,yJ]
  have eo:oo k=o:=yH k o ho
  have Tn:(∀ i,i<k->((dh ops.toList []).getD k 0).testBit i=true)->∀ j,j<k->listed.getD j false=true:=by
   intro q2 j hj;have hb:=q2 j hj;have h1:=zr ops.toList [] k o (by simpa using ho);simp only[List.length_nil,Nat.zero_add] at h1;rw[h1] at hb;rcases zk _ j _ 0 hb with h2|⟨e,he,iw,h2⟩
   .simp at h2
   .have mh:=lA e (by simpa using he) iw;rcases h2 with rfl|h2
    .exact mh
    .have ag:=tW k o ho e (by simpa using he) iw;have J:((dh ops.toList []).getD e.on 0).testBit j=true:=by simpa[List.getElem?_take,ag] using h2
     exact zi (S:=fun j=>listed.getD j false) cg j e.on mh J
  have al7:listed.toList.countP (fun b=> !b)<=eA+1:=hc
  have Ri:(listed.setIfInBounds k true).toList.countP (fun b=> !b)<=eA:=by
   have:(listed.setIfInBounds k true).toList=listed.toList.set k true:=by simp
   rw[this,List.countP_set (by simpa using gU)];have h2:0<listed.toList.countP (fun b=> !b):=List.countP_pos_iff.2 ⟨listed[k],oS,by simp[yJ]⟩;have J:listed.toList[k]'(by simpa using gU)=false:=by simpa using yJ
   rw[J];simp only[Bool.not_false,if_true,Bool.not_true,Bool.false_eq_true,if_false];omega
  have CB:∀ j,(listed.setIfInBounds k true).getD j false=true->∀ o,ops[j]? =some o->∀ e∈o.after,Region.binds .any e=true->(listed.setIfInBounds k true).getD e.on false=true:=by
   intro j hj o' qP e he hb;by_cases tZ:j=k
   .subst tZ;rw[ho] at qP;cases qP;exact getD_set_true (lA e he hb)
   .rw[getD_set_ne false (Ne.symm tZ)] at hj;exact getD_set_true (cg j hj o' qP e he hb)
  refine zd ho ?_;rw[<- eo];by_cases UJ:k=p+1
  ·
    subst UJ;have ct:=Tn xO
    have sx:nl=p:=by
     rcases Nat.lt_or_ge nl p with h|h
     .have h1:=Nc h;rw[ct nl oG] at h1;cases h1
     .omega
    have U:cY oo pp st₀ (fun j=>listed.getD j false) nl=bu oo pp st₀ p:=by rw[<- sx];exact zt oo pp st₀ _ fun j hj=>ct j oG
    have h1:=C.e;have h2:=C.m;rw[U] at h1 h2;obtain⟨b,rfl⟩:=Option.isSome_iff_exists.1 (UH (ct p oG));obtain⟨g1,g2,g3,g4,z,g5,g6,g7⟩:=V5 b rfl
    have iC:∀ i,(bu oo pp st₀ p).nx<=i->β i=none:=fun i hi=>C.free i (Nat.le_trans (fO oo pp st₀ (Nat.zero_le _)) hi) fun j hj _ J=>by
     have:=fO oo pp st₀ (show j+1<=p by omega);rw[kv,nE] at this;omega
    have hFw:FB F w:=⟨fun b hb=>h2.fb.lt b (.inl hb),fun t ht=>⟨(HD.fH t ht).1,(h2.fb.fH t ht).2⟩⟩
    obtain⟨pl,k1,k2,k3,k4⟩:=aaU h2 hFw (iC _ (a6 _)) g2 g3 g5 g6 g7;refine L3 sx (up β (bu oo pp st₀ p).nx (some pl)) w a ⟨fun u=>?_,k1,fun i hi=>?_⟩ ⟨?_,?_,fun i hi hb=>?_,C.size,C.defers⟩ _ ?_
    rotate_left 5
    .intro a' w' hp
     have hr:Region.ready .any ops (listed.setIfInBounds (p+1) true)=[]:=by
      cases mi:Region.ready .any ops (listed.setIfInBounds (p+1) true) with
      |nil=>rfl
      |cons x xs=>
       exfalso;have hx:x∈Region.ready .any ops (listed.setIfInBounds (p+1) true):=by rw[mi];simp
       rw[mem_ready] at hx;obtain⟨g1,o',qP,_⟩:=hx;have wm:x<ops.size:=(Array.getElem?_eq_some_iff.1 qP).1;by_cases De:x=p+1
       .subst De;simp[gU] at g1
       .have J:=ct x oG;rw[getD_set_ne true (Ne.symm De)] at g1;have Df:x<listed.size:=by omega
        simp[Df] at g1 J;rw[g1] at J;cases J
     cases eA with
     |zero=>exact⟨hr,hp⟩
     |succ eA=>exact⟨fun _=>hp,fun i hi=>by rw[hr] at hi;cases hi⟩
    .show R F _ w ((up (bu oo pp st₀ p).env t (.rp (bu oo pp st₀ p).nx 0)) u) _;by_cases hu:u=t
     .subst hu;rw[ai,g4];exact k2
     .rw[aA _ _ hu];exact k4 (h1 u)
    .have bL:(bu oo pp st₀ p).nx+1<=i:=hi;rw[aA _ _ oG];exact iC i oG
    .refine⟨C.step.size,fun O lC qU=>?_,fun i q hq=>?_,C.step.out,fun i q hq fp=>?_⟩
     .obtain⟨X,q2⟩:=C.step.du O lC qU;exact⟨X,og q2 fun q hq e=>by cases hq;rw[k3] at e;cases e;omega⟩
     .rcases C.step.fG i q hq with X|X
      .exact .inl (by rw[aA _ _ (fun e=>by rw[e,iC _ (a6 _)] at X;cases X)];exact X)
      .exact .inr (by rw[aA _ _ (fun e=>by rw[e,iC _ (a6 _)] at X;cases X)];exact X)
     .have a8:i≠(bu oo pp st₀ p).nx:=fun e=>by
       rcases C.step.fG i _ hq with X|X<;>(rw[e,iC _ (a6 _)] at X;cases X)
      rw[aA _ _ a8] at fp;exact C.step.lp i q hq fp
    .have h5:=fO oo pp st₀ (Nat.zero_le p);show N₀<=(bu oo pp st₀ p).nx+1;have h6:(bu oo pp st₀ 0).nx=st₀.nx:=rfl;omega
    .have h5:=fO oo pp st₀ (Nat.zero_le p);have h6:(bu oo pp st₀ 0).nx=st₀.nx:=rfl;rw[aA _ _ oG];exact C.grow i hi hb
  have To:(listed.setIfInBounds k true).getD (p+1) false=false:=by rw[getD_set_ne false (fun e=>UJ e)];exact je
  by_cases Nd:k=p
  ·
    subst Nd;have ahv:=UI pf;subst ahv;refine XV DA yO hlg Dz fun z hz h1=>ih _ β _ _ (by simpa using GO) Ri To (fun h=>by rw[getD_set_ne false oG];exact Nc h) CB ?_;have AY:cY oo pp st₀ (fun j=>(listed.setIfInBounds k true).getD j false) nl=cY oo pp st₀ (fun j=>listed.getD j false) nl:=zt oo pp st₀ _ fun j hj=>getD_set_ne false oG;have eS:Step β w β (w.alloc (.cells z.cells ty)):=wY oS fun b hb=>heap_alloc_old w _ hb;have Ut:∀ O,O<w.heap.size->O≠w.heap.size:=fun O h=>by omega
    have nW:∀ O,O<w.heap.size->¬ FL F none O->¬ FL F (some w.heap.size) O:=fun O h h2 J=>by
     rcases J with J|J
     .exact h2 (.inl J)
     .cases J;omega
    have hRs:∀ {d:D} {v:Value},R (FL F none) β w d v->R (FL F (some w.heap.size)) β (w.alloc (.cells z.cells ty)) d v:=fun h=>h.gen oS (fun O hb hf gD=>⟨sY (heap_alloc_old w _ hb),gD,nW O hb hf⟩) fun _ _ _ h=>.inl h;refine⟨some w.heap.size,fun _=>rfl,fun h=>?_,fun b hb=>?_,⟨fun u=>?_,?_,fun i hi pY=>C.free i hi fun j hj U=>pY j hj (getD_set_true U),C.step.trans eS,C.grow,by rw[sS];exact C.size,by rw[put_defers];exact C.defers⟩⟩
    .have:(listed.setIfInBounds k true).getD k false=true:=by simp[gU]
     rw[this] at h;cases h
    .cases hb;refine⟨C.step.size,fun e=>by have:=C.m.fb.lt _ (.inl e);omega,oS,?_,z,hz,h1,heap_alloc_new w _⟩;have jG:=rm ag ho t (by rw[<- eo];exact yO);simp[Act.put,Array.getD_eq_getD_getElem?,C.size,jG]
    .rw[AY];by_cases hu:u=t
     .subst hu;rw[aeE];exact .u _
     .have h2:=hRs (C.e u)
      have:(a.put (some t) (.pointer (some ⟨w.heap.size,0,none⟩))).tmps.getD u undef=a.tmps.getD u undef:=by
       simp only[Act.put,Array.getD_eq_getD_getElem?];rw[Array.getElem?_setIfInBounds_ne (Ne.symm hu)]
      rw[this];exact h2
    .rw[AY];refine⟨fun i rr hi=>?_,C.m.inj,fun i q b hq e=>?_,fun i q b hq e hf=>?_,C.m.fb.next (fun b hb=>?_) (fun b hb=>?_) fun tt Hs hF=>heap_alloc_old w _ (C.m.fb.lt _ hF)⟩
     .obtain⟨q,hq,hr⟩:=C.m.row i rr hi;exact⟨q,hq,hr.gen oS (fun O hb hf gD=>⟨sY (heap_alloc_old w _ hb),gD,nW O hb hf⟩) (fun _ _ _ h=>.inl h) fun b hb=>heap_alloc_old w _ (C.m.lt i q b hq hb)⟩
     .have:=C.m.lt i q b hq e;simp;omega
     .have h2:=C.m.lt i q b hq e;exact nW b h2 (C.m.nf i q b hq e) hf
     .rcases hb with hb|hb
      .have:=C.m.fb.lt b (.inl hb);simp;omega
      .cases hb;simp
     .rcases hb with hb|hb
      .exact .inl hb
      .cases hb
  by_cases L5:k=nl
  ·
    have jG:nl<p:=by omega
    obtain⟨X,q2,ch,mP,pu,q3,q5⟩:=L4 jG;rw[<- L5] at q2;have ct:=Tn q2;have U:cY oo pp st₀ (fun j=>listed.getD j false) nl=bu oo pp st₀ nl:=zt oo pp st₀ _ fun j hj=>ct j oG;have h1:=C.e;have h2:=C.m;rw[U] at h1 h2
    have iC:∀ i,(bu oo pp st₀ nl).nx<=i->β i=none:=fun i hi=>C.free i (Nat.le_trans (fO oo pp st₀ (Nat.zero_le _)) hi) fun j hj _ J=>by
     have:=fO oo pp st₀ (show j+1<=nl by omega);rw[kv,nE] at this;omega
    have h5:=fO oo pp st₀ (Nat.zero_le nl);have h6:(bu oo pp st₀ 0).nx=st₀.nx:=rfl;rw[L5];refine q5 (FL F ob) β w a ⟨h1,h2,iC⟩ _ _ fun β' w' g1 g2 g3 q4 g4=>⟨_,β',q3,⟨fun u=>((h1 u).step g3).pL fun b hb=>.inl hb,g1.pL (fun b hb=>.inl hb) fun tt Hs=>(HD.fH tt Hs).1,g2⟩,⟨C.step.trans g3,?_,fun i hi hb=>g4 i oG (C.grow i hi hb),C.size,C.defers⟩⟩
    show N₀<=pu;omega
  have wo:k<nl:=by omega
  have AF:∀ j,j<k->listed.getD j false=false->((dh ops.toList []).getD k 0).testBit j=false:=by
   intro j tZ hj;cases hb:((dh ops.toList []).getD k 0).testBit j with
   |false=>rfl
   |true=>
    exfalso;have h1:=zr ops.toList [] k o (by simpa using ho);simp only[List.length_nil,Nat.zero_add] at h1;rw[h1] at hb;rcases zk _ j _ 0 hb with h2|⟨e,he,iw,h2⟩
    .simp at h2
    .have mh:=lA e (by simpa using he) iw;rcases h2 with rfl|h2
     .rw[hj] at mh;cases mh
     .have ag:=tW k o ho e (by simpa using he) iw;have J:((dh ops.toList []).getD e.on 0).testBit j=true:=by simpa[List.getElem?_take,ag] using h2
      have:=zi (S:=fun j=>listed.getD j false) cg j e.on mh J;rw[hj] at this;cases this
  have qG:∀ j,k<j->listed.getD j false=true->((dh ops.toList []).getD j 0).testBit k=false:=by
   intro j eM hj;cases hb:((dh ops.toList []).getD j 0).testBit k with
   |false=>rfl
   |true=>
    exfalso;have:=zi (S:=fun j=>listed.getD j false) cg k j hj hb;rw[pf] at this;cases this
  have Ak:∀ j,j<nl->listed.getD j false≠decide (j<k)->(j<k/\listed.getD j false=false)\/(k<j/\listed.getD j false=true):=by
   intro j hj a8;rcases Nat.lt_trichotomy j k with h|h|h
   .left;refine⟨h,?_⟩;simpa[h] using a8
   .subst h;simp[pf] at a8
   .right;refine⟨h,?_⟩;have:¬ j<k:=by omega
    simpa[this] using a8
  have tY:=J0 oo pp st₀ k nl oG
  have jE:∀ u∈(oo k).looksAt ops,(cY oo pp st₀ (fun j=>listed.getD j false) nl).env u=(bu oo pp st₀ k).env u:=fun u hu=>by
   rw[<- tY];refine Jp oo pp st₀ _ fun j hj a8=>?_;rcases Ak j hj a8 with⟨h1,h2⟩|⟨h1,h2⟩
   .have:=(Oper.apart_spec (pq j k h1 wo (AF j h1 h2)).1).1;exact fun hd=>this u hd hu
   .have:=(Oper.apart_spec (pq k j h1 hj (qG j h1 h2)).1).2.2;exact fun hd=>this u hd hu
  have fin:∀ v w' β',R (FL F ob) β' w' (pp k).val v->ax P (FL F ob) (bT (cY oo pp st₀ (fun j=>listed.getD j false) nl).mem (pp k).aL) β' w'->Step β w β' w'->
   (∀ i,β i=none->(i<(bu oo pp st₀ k).nx\/(bu oo pp st₀ k).nx+(pp k).new<=i)->β' i=none)->wpAnyIn (Fe r) n P .any ops (cB P F N₀ β₀ w₀ a₀ Q) eA (listed.setIfInBounds k true) (a.put (oo k).dst v) w':=by
   intro v w' β' g1 g2 g3 g4
   have AY:(fun j=>(listed.setIfInBounds k true).getD j false)=(fun j=>if j=k then true else listed.getD j false):=by
    funext j;by_cases hj:j=k
    .subst hj;simp[gU]
    .rw[if_neg hj,getD_set_ne false (Ne.symm hj)]
   obtain⟨ae,am⟩:=QM oo pp st₀ (S:=fun j=>listed.getD j false) (k:=k) pf nl wo fun j eM hj yK=>
    ⟨(Oper.apart_spec (pq k j eM hj (qG j eM yK)).1).2.1,(pq k j eM hj (qG j eM yK)).2.ww⟩
   refine ih _ β' w' _ (by simpa using GO) Ri To (fun h=>by rw[getD_set_ne false L5];exact Nc h) CB ⟨ob,fun h=>UH (by rw[getD_set_ne false Nd] at h;exact h),fun h=>UI (by rw[getD_set_ne false Nd] at h;exact h),fun b hb=>?_,?_⟩
   .obtain⟨l1,l2,l3,l4,z,l5,l6,l7⟩:=V5 b hb;have Bb:β.free b:=fun i q hq e=>C.m.nf i q b hq e (.inr hb.symm);refine⟨l1,l2,Nat.lt_of_lt_of_le l3 g3.size,?_,z,l5,l6,(g3.du b l3 Bb).1.trans l7⟩;have a8:=HC k oG;cases eW:(oo k).dst with
    |none=>exact l4
    |some u=>
     have hu:u≠t:=fun e=>a8 (by rw[eW,e]);simp only[Act.put,Array.getD_eq_getD_getElem?] at l4 ⊢;rw[Array.getElem?_setIfInBounds_ne hu];exact l4
   .rw[AY];refine⟨?_,by rw[am];exact g2,fun i hi hn=>?_,C.step.trans g3,fun i hi hn=>?_,by rw[sS];exact C.size,by rw[put_defers];exact C.defers⟩
    .rw[ae];have hd:∀ t,(oo k).dst=some t->t<a.tmps.size:=fun t ht=>by rw[C.size];rw[eo] at ht;exact rm ag ho t ht
     have he:=C.e.step g3;cases eW:(oo k).dst with
     |none=>exact he
     |some u=>exact he.put (some u) _ v g1 fun t ht=>hd t (by rw[eW];exact ht)
    .have wB:=hn k wo oS;refine g4 i (C.free i hi fun j hj U J=>hn j hj ?_ J) ?_
     .show(if j=k then true else listed.getD j false)=true;split
      .rfl
      .exact U
     .omega
    .refine g4 i (C.grow i hi hn) (.inl ?_);have h5:=fO oo pp st₀ (Nat.zero_le k);have h6:(bu oo pp st₀ 0).nx=st₀.nx:=rfl;omega
  rcases cn k wo with Dg|⟨hH,Dg⟩
  .refine Dg (FL F ob) β w a (cY oo pp st₀ (fun j=>listed.getD j false) nl).mem (cY oo pp st₀ (fun j=>listed.getD j false) nl).env (bu oo pp st₀ nl).nx jE C.e C.m ?_ ?_ ?_ r n _ _ fin
   .intro i hi a8;rw[<- tY];refine Jq oo pp st₀ _ fun j hj yk hw=>?_;rcases Ak j hj yk with⟨h1,h2⟩|⟨h1,h2⟩
    .exact(pq j k h1 wo (AF j h1 h2)).2.wr i hw hi
    .exact(pq k j h1 hj (qG j h1 h2)).2.rw i hw hi
   .intro i h1 h2;refine C.free i (Nat.le_trans (fO oo pp st₀ (Nat.zero_le _)) h1) fun j hj U J=>?_;rcases Nat.lt_trichotomy j k with h|h|h
    .have:=fO oo pp st₀ (show j+1<=k by omega);rw[kv,nE] at this;omega
    .subst h;simp only[pf] at U;cases U
    .have:=fO oo pp st₀ (show k+1<=j by omega);rw[kv,nE] at this;omega
   .intro i hi;refine C.free i (Nat.le_trans (fO oo pp st₀ (Nat.zero_le _)) hi) fun j hj _ J=>?_;have:=fO oo pp st₀ (show j+1<=nl by omega);rw[kv,nE] at this;omega
  .have lX:(cY oo pp st₀ (fun j=>listed.getD j false) nl).mem=(bu oo pp st₀ k).mem:=by
    funext i;rw[<- tY];refine Jq oo pp st₀ _ fun j hj yk hw=>?_;rcases Ak j hj yk with⟨h1,h2⟩|⟨h1,h2⟩
    .have:=((pq j k h1 wo (AF j h1 h2)).2.hq hH).1;simp[aY.wr,this] at hw
    .have:=((pq k j h1 hj (qG j h1 h2)).2.hp hH).1;simp[aY.wr,this] at hw
   have hm:=C.m;rw[lX] at hm fin;refine Dg (FL F ob) β w a (cY oo pp st₀ (fun j=>listed.getD j false) nl).env jE C.e hm (fun i hi=>?_) r n _ _ fin;refine C.free i (Nat.le_trans (fO oo pp st₀ (Nat.zero_le _)) hi) fun j hj U J=>?_;rcases Nat.lt_trichotomy j k with h|h|h
   .have:=fO oo pp st₀ (show j+1<=k by omega);rw[kv,nE] at this;omega
   .subst h;simp only[pf] at U;cases U
   .have:=((pq k j h hj (qG j h U)).2.hp hH).2;omega
end
end Go.Abs
