/- Part 5. -/
import Derived.Test.YtkogeiacmmckkaaGreatDoorFlowLists4
import Derived.IntWalk
import Derived.Lib.Strings
set_option linter.all false
namespace Go.Abs
theorem I9:∀ (f i j:Nat),i+1<2 ^ f->j+1<2 ^ f->uo f i=uo f j->i=j
 |0,i,j,hi,_,_=>by simp at hi
 |f+1,i,j,hi,hj,h=>by
  have h2:2 ^ (f+1)=2*2 ^ f:=by rw[Nat.pow_succ];omega
  simp only[uo,Bool.cond_eq_ite,Nat.beq_eq] at h;by_cases J:i=0<;>by_cases M:j=0
  .omega
  .rw[if_pos J,if_neg M] at h;split at h<;>cases h
  .rw[if_neg J,if_pos M] at h;split at h<;>cases h
  .rw[if_neg J,if_neg M] at h;by_cases i1:i % 2=1<;>by_cases C:j % 2=1
   .rw[if_pos i1,if_pos C] at h;have:=I9 f (i / 2) (j / 2) oG oG (List.cons.inj h).2;omega
   .rw[if_pos i1,if_neg C] at h;cases h
   .rw[if_neg i1,if_pos C] at h;cases h
   .rw[if_neg i1,if_neg C] at h;have:=I9 f (i / 2 - 1) (j / 2 - 1) oG oG (List.cons.inj h).2;omega
theorem xD{α:Type}:∀ p:List Bool,sY p (T.leaf:T α)=none
 |[]=>rfl
 |_::_=>rfl
theorem Pk{α:Type}(v:Option α):∀ (p q:List Bool) (t:T α),sY q (A7 v p t)=if q=p then v else sY q t
 |[],[],t=>by cases t<;>rfl
 |[],b::q,t=>by
  cases t with
  |leaf=>cases b<;>simp only[reduceCtorEq,if_false]<;>exact xD q
  |node u l r=>rfl
 |b::p,[],t=>by cases t<;>cases b<;>rfl
 |b::p,c::q,t=>by
  have ih:=fun t=>Pk v p q t;cases t with
  |leaf=>
   cases b<;>cases c
   .show sY q (A7 v p .leaf)=_;rw[ih,xD];simp;rfl
   .show sY q .leaf=_;rw[xD];simp;rfl
   .show sY q .leaf=_;rw[xD];simp;rfl
   .show sY q (A7 v p .leaf)=_;rw[ih,xD];simp;rfl
  |node u l r=>
   cases b<;>cases c
   .show sY q (A7 v p r)=_;rw[ih];simp;rfl
   .simp;rfl
   .simp;rfl
   .show sY q (A7 v p l)=_;rw[ih];simp;rfl
theorem E0:∀ (f i:Nat),(i+1<2 ^ f->(uo f i).length<f)/\(2 ^ f<=i+1->(uo f i).length=f)
 |0,i=>⟨fun h=>by simp at h,fun _=>rfl⟩
 |f+1,i=>by
  have h2:2 ^ (f+1)=2*2 ^ f:=by rw[Nat.pow_succ];omega
  have hp:0<2 ^ f:=Nat.two_pow_pos f;simp only[uo,Bool.cond_eq_ite,Nat.beq_eq];by_cases C:i=0
  .rw[if_pos C];exact⟨fun _=>by simp,fun h=>by omega⟩
  .rw[if_neg C];split
   .obtain⟨a,b⟩:=E0 f (i / 2);exact⟨fun h=>by have:=a oG;simp;omega,fun h=>by have:=b oG;simp;omega⟩
   .obtain⟨a,b⟩:=E0 f (i / 2 - 1);exact⟨fun h=>by have:=a oG;simp;omega,fun h=>by have:=b oG;simp;omega⟩
theorem T.J3{α:Type}{t C:T α}{i:Nat}{v:Option α}(h:t.put i v=some C)(j:Nat):C.get j=if j=i then v else t.get j:=by
 unfold T.put at h;cases hb:Nat.blt i 1000000 with
 |false=>rw[hb] at h;cases h
 |true=>
  rw[hb] at h;simp only[cond_true,aK] at h;subst h;have hi:i<1000000:=by simpa using hb
  unfold T.get;rw[Pk];by_cases e:j=i
  .subst e;simp
  .have J:bits j≠bits i:=fun h=>by
    have hl:(bits i).length<20:=(E0 20 i).1 oG;rcases Nat.lt_or_ge (j+1) (2 ^ 20) with h1|h1
    .exact e (I9 20 j i h1 oG h)
    .have:(bits j).length=20:=(E0 20 j).2 h1;rw[h] at this;omega
   rw[if_neg e,if_neg J]
theorem lO:∀ (n:Nat) (l:List D),iN n l=true↔n<=l.length
 |0,l=>by show true=true↔_;simp
 |n+1,[]=>by
  show false=true↔_;simp
 |n+1,d::l=>by
  show iN n l=true↔_;rw[lO n l];simp
theorem xM:∀ (n:Nat) (l:List D),uD n l=true↔l.length=n
 |0,[]=>by show true=true↔_;simp
 |0,d::l=>by show false=true↔_;simp
 |n+1,[]=>by show false=true↔_;simp
 |n+1,d::l=>by
  show uD n l=true↔_;rw[xM n l];simp
theorem Qi:∀ (n:Nat) (l:List D),Lk n l=l.drop n
 |0,l=>rfl
 |n+1,[]=>rfl
 |n+1,d::l=>by show Lk n l=_;rw[Qi n l];rfl
theorem oX(l:List D)(n:Nat):om l n=l.drop n:=Qi n l
theorem vG:∀ (n:Nat) (l:List D),yr n l=l.take n
 |0,l=>by show []=_;simp
 |n+1,[]=>rfl
 |n+1,d::l=>by show d::yr n l=_;rw[vG n l];rfl
theorem Aa(P:Program)(t:TypeId)(cs:List D):we P t cs=jo P t cs:=by
 unfold we jo;rw[vG];cases bG P t with
 |true=>rfl
 |false=>cases cs<;>rfl
theorem Gq(a b:Int):oK a b=decide (a<b):=by
 rw[Bool.eq_iff_iff];cases a<;>cases b<;>simp[oK]<;>omega
theorem Sw(a b:Int):zl a b=(a==b):=by
 rw[Bool.eq_iff_iff];cases a<;>cases b<;>simp[zl]<;>omega
theorem Ab(k k':IntKind)(h:lB k k'=true):k=k':=by cases k<;>cases k'<;>first|rfl|cases h
theorem ZL(k:IntKind)(n:Int)(h:HT k n=true):k.wrap n=n:=by
 unfold HT at h;split at h
 .exact IntWalk.i64_in _ (by simp at h ⊢;omega)
 .exact IntWalk.i64_in _ (by simp at h;omega)
 .exact IntWalk.u8_in _ (by simp at h ⊢;omega)
 .exact IntWalk.u64_in _ (by simp at h ⊢;omega)
 .cases h
theorem Qj(k:IntKind)(n:Int):yu k n=k.wrap n:=by
 unfold yu;cases h:HT k n with
 |true=>exact(ZL k n h).symm
 |false=>rfl
theorem Gr:∀ (a b:List UInt8),Bw a b=(a==b)
 |[],[]=>rfl
 |[],_::_=>rfl
 |_::_,[]=>rfl
 |a::aS,b::bs=>by
  show(Nat.beq a.toNat b.toNat&&Bw aS bs)=(a==b&&aS==bs)
  rw[Gr aS bs];congr 1;rw[Bool.eq_iff_iff];simp[UInt8.toNat_inj]
theorem KL:∀ (a b:List UInt8),D7 a b=Op.bytesLess a b
 |[],[]=>rfl
 |_::_,[]=>rfl
 |[],_::_=>rfl
 |a::aS,b::bs=>by
  show(Nat.blt a.toNat b.toNat||(Nat.beq a.toNat b.toNat&&D7 aS bs))=(decide (a<b)||(a==b&&Op.bytesLess aS bs))
  rw[KL aS bs];congr 1
  .rw[Bool.eq_iff_iff];simp[UInt8.lt_iff_toNat_lt]
  .congr 1;rw[Bool.eq_iff_iff];simp[UInt8.toNat_inj]
theorem Jy:∀ (i:Nat) (l:List Nat),AT i l=true↔i∉l
 |i,[]=>by simp[AT]
 |i,j::l=>by
  simp only[AT,ay,Bool.not_eq_true',Jy i l,List.mem_cons,not_or];rw[<- Bool.not_eq_true,Nat.beq_eq];exact⟨fun h=>⟨fun e=>h.1 e.symm,h.2⟩,fun h=>⟨fun e=>h.1 e.symm,h.2⟩⟩
theorem B8(P:Program)(t:TypeId):∀ es:List (Value×D),yd P t es=es.all fun e=>dD P t e.1
 |[]=>rfl
 |e::es=>by simp[yd,B8 P t es]
theorem Rn:∀ (l:List D) (n:Nat) (d:D),Mi l n=some d->n<l.length/\l.getD n .u=d
 |[],n,d,h=>by cases n<;>cases h
 |x::l,0,d,h=>by cases h;simp
 |x::l,n+1,d,h=>by
  obtain⟨h1,h2⟩:=Rn l n d h;exact⟨by simp;omega,by simpa using h2⟩
theorem parts_eq(ρ:Operand->D):∀ l:List (Nat×Operand),parts ρ l=l.map fun q=>(q.1,ρ q.2)
 |[]=>rfl
 |q::l=>by simp[parts,parts_eq ρ l]
theorem Fm{place:Nat->Option (Nat×Nat)}:∀ (l:List (Nat×D)) (cells cs:List D),AR place cells l=some cs->jq place cells l=some cs
 |[],cells,cs,h=>h
 |(i,d)::rest,cells,cs,h=>by
  simp only[AR] at h;simp only[jq];cases hp:place i with
  |none=>rw[hp] at h;cases h
  |some q=>
   obtain⟨off,size⟩:=q;rw[hp] at h;simp only at h ⊢;cases hb:(uD size d.cells&&iN (off+size) cells)&&d.cells.all D.one with
   |false=>rw[hb] at h;cases h
   |true=>
    rw[hb] at h;simp only[ay,xM,lO] at hb;rw[if_pos ⟨hb.1.1,hb.1.2,hb.2⟩];exact Fm rest _ cs h
theorem ES:∀ {ds:List D} {l:List Int},AS ds=some l->ds=n5 l
 |[],l,h=>by cases h;rfl
 |d::ds,l,h=>by
  unfold AS at h;split at h
  .rename_i hd;cases hd
  .rename_i n J hd;cases hd;split at h
   .rename_i C h';cases h;rw[ES h'];rfl
   .cases h
  .cases h
theorem Fo{P:Program}{t:TypeId}(h:Bx P t=true):tu P t:=by
 unfold Bx at h;simp only[ay,Nat.beq_eq] at h;obtain⟨⟨h1,h2⟩,C⟩:=h;refine⟨h1,?_,C⟩;split at h2
 .assumption
 .cases h2
theorem zV(b:ByteArray):b.data.toList.length=b.size:=by rw[Array.length_toList];rfl
inductive dR(P:Program)(o:Op)(ρ:Operand->D)(m:Mem)(nx:Nat):bf->Prop
 |a (e:du) (h:aQ P o ρ m nx=some e) (hp:e.pre):dR P o ρ m nx ⟨e.val,e.aT,e.rd,e.new⟩
 |n (e:du) (h:eQ P ρ m nx o e):dR P o ρ m nx ⟨e.val,e.aT,e.rd,e.new⟩
noncomputable def aW(t:T Row):Mem:=fun i=>t.get i
section
variable{P:Program}{o:Op}{ρ:Operand->D}{m:T Row}{nx:Nat}{p:bf}
theorem eT{b:Bool}{d:D}(h:gh b d=some p):b=true/\p=⟨d,[],[],0⟩:=by
 cases b with
 |true=>exact⟨rfl,(Option.some.inj h).symm⟩
 |false=>cases h
theorem pW{b:Bool}{d:D}{i:Nat}(h:pI b d i=some p):b=true/\p=⟨d,[],[i],0⟩:=by
 cases b with
 |true=>exact⟨rfl,(Option.some.inj h).symm⟩
 |false=>cases h
theorem tK{b:Bool}{d:D}{n:Nat}{r:Row}{rd:List Nat}(h:sZ b n d r rd=some p):b=true/\p=⟨d,[(n,some r)],rd,1⟩:=by
 cases b with
 |true=>exact⟨rfl,(Option.some.inj h).symm⟩
 |false=>cases h
theorem Ch{b:Bool}{i:Nat}{r:Row}(h:Bv b i r=some p):b=true/\p=⟨.bp [],[(i,some r)],[i],0⟩:=by
 cases b with
 |true=>exact⟨rfl,(Option.some.inj h).symm⟩
 |false=>cases h
theorem xI{α:Type _}{b:Bool}{x e:α}(h:(bif b then some x else none)=some e):b=true/\e=x:=by
 cases b with
 |true=>exact⟨rfl,(Option.some.inj h).symm⟩
 |false=>cases h
theorem dR.of{pre:Prop}{val:D}{aT:List (Nat×Option Row)}{rd:List Nat}{new:Nat}(h:aQ P o ρ (aW m) nx=some ⟨pre,val,aT,rd,new⟩)(hp:pre)(he:p=⟨val,aT,rd,new⟩):dR P o ρ (aW m) nx p:=he▸ .a ⟨pre,val,aT,rd,new⟩ h hp
theorem dR.nw{e:du}(h:eQ P ρ (aW m) nx o e)(he:p=⟨e.val,e.aT,e.rd,e.new⟩):dR P o ρ (aW m) nx p:=he▸ .n e h
theorem ZM{c a b:Operand}(h:Ll c a b P ρ m nx=some p):dR P (.pick c a b) ρ (aW m) nx p:=by
 unfold Ll at h;split at h
 .rename_i hc;split at h
  .rename_i v ha;cases h;refine .of (by simp only[aQ,hc,D.core,D.fA];rfl) ?_ (by simp[ha,D.core,D.fA]);simp[ha,D.ask,D.core,D.fA]
  .cases h
 .rename_i hc;split at h
  .rename_i v hb;cases h;refine .of (by simp only[aQ,hc,D.core,D.fA];rfl) ?_ (by simp[hb,D.core,D.fA]);simp[hb,D.ask,D.core,D.fA]
  .cases h
 .cases h
theorem Yk{t:TypeId}(h:KB t P ρ m nx=some p):dR P (.alloc t) ρ (aW m) nx p:=by
 unfold KB at h;cases hb:A1 t with
 |true=>
  rw[hb] at h;simp only[cond_true] at h;split at h
  .rename_i hz;obtain⟨h1,h2⟩:=tK h;exact .nw (.Ax t hb h1 hz) h2
  .cases h
 |false=>
  rw[hb] at h;simp only[cond_false] at h;obtain⟨h1,h2⟩:=tK h;exact .of rfl h1 h2
theorem abe{t:TypeId}{x:Operand}(h:Md t x P ρ m nx=some p):dR P (.box t x) ρ (aW m) nx p:=by
 unfold Md at h;cases hb:A1 t with
 |true=>
  rw[hb] at h;simp only[cond_true] at h;split at h
  .rename_i d hx;obtain⟨h1,h2⟩:=tK h;simp only[ay,Nat.beq_eq] at h1;exact .nw (.A2 t x d hb hx h1.1 h1.2) h2
  .cases h
 |false=>
  rw[hb] at h;simp only[cond_false] at h;obtain⟨h1,h2⟩:=tK h;exact .of rfl h1 h2
theorem Yl{t:TypeId}{ps:Array (Nat×Operand)}(h:KD t ps P ρ m nx=some p):dR P (.build t ps) ρ (aW m) nx p:=by
 unfold KD at h
 have agg:∀ {b:Bool} {o:Option (List D)},Lm b o=some p->b=true/\∃ cs,o=some cs/\p=⟨.agg cs,[],[],0⟩:=fun {b o} h=>by
  cases o with
  |none=>cases h
  |some cs=>exact⟨(eT h).1,cs,rfl,(eT h).2⟩
 split at h
 .rename_i fs hu;obtain⟨h1,cs,h2,J⟩:=agg h;simp only[ay] at h1;have C:=Fm _ _ _ h2;rw[parts_eq] at C
  have e:KC P fs=fun i=>(fs[i]?).map fun f=>(f.offset,P.cellsOf f.type):=by
   funext i;unfold KC;cases fs[i]? <;>rfl
  rw[e] at C;refine .of (by simp only[aQ,hu,C,Option.map_some];rfl) ?_ J;exact h1
 .rename_i n e hu;obtain⟨h1,cs,h2,J⟩:=agg h;simp only[ay] at h1;have C:=Fm _ _ _ h2;rw[parts_eq] at C;refine .of (by simp only[aQ,hu,C,Option.map_some];rfl) ?_ J;exact h1
 .cases h
theorem Ws{t:TypeId}{n:Nat}{ps:Array (Nat×Operand)}(h:Iz t n ps P ρ m nx=some p):dR P (.buildSlice t n ps) ρ (aW m) nx p:=by
 unfold Iz Tn at h;split at h
 .rename_i cs h2;obtain⟨h1,J⟩:=tK h;simp only[ay,Nat.ble_eq] at h1;have C:=Fm _ _ _ h2;rw[parts_eq] at C;refine .of (by simp only[aQ,C,Option.map_some];rfl) ?_ J;exact⟨h1.2,h1.1.2.1,h1.1.1,h1.1.2.2⟩
 .cases h
theorem ZN{t:TypeId}{a:Operand}(h:Ln t a P ρ m nx=some p):dR P (.load t a) ρ (aW m) nx p:=by
 unfold Ln at h;split at h
 .rename_i cs ha;obtain⟨h1,h2⟩:=eT h;simp only[ay,lO] at h1;rw[Aa] at h2;refine .of (by simp only[aQ,ha];rfl) ?_ h2;exact h1
 .rename_i i off ha;split at h
  .rename_i cs e hm;have hm:aW m i=some (.cells cs e):=hm;obtain⟨h1,h2⟩:=pW h;simp only[ay,lO] at h1;rw[Aa,oX] at h2;refine .of (by simp only[aQ,ha,hm];rfl) ?_ h2;exact h1
  .rename_i u x T hm;obtain⟨h1,h2⟩:=pW h;simp only[ay,Nat.beq_eq,Bool.not_eq_true'] at h1;obtain⟨rfl,C,J⟩:=h1;exact .nw (.AM t a i u x T ha hm C J) h2
  .cases h
 .cases h
theorem Ym{t:TypeId}{a x:Operand}(h:KE t a x P ρ m nx=some p):dR P (.store t a x) ρ (aW m) nx p:=by
 unfold KE at h;split at h
 .rename_i i off ha;split at h
  .rename_i cs e hm;have hm:aW m i=some (.cells cs e):=hm;obtain⟨h1,h2⟩:=Ch h;simp only[ay,lO,xM] at h1;refine .of (by simp only[aQ,ha,hm];rfl) ?_ h2;exact⟨h1.1.1,h1.1.2,h1.2.1,h1.2.2⟩
  .rename_i u y T hm;obtain⟨h1,h2⟩:=Ch h;simp only[ay,Nat.beq_eq,Bool.not_eq_true'] at h1;obtain⟨rfl,C,J,M⟩:=h1;exact .nw (.xW t a x i u y T ha hm C J M) h2
  .cases h
 .cases h
theorem WH{x:Operand}(h:I8 x P ρ m nx=some p):dR P (.nilCheck x) ρ (aW m) nx p:=by
 unfold I8 at h;split at h
 .rename_i cs hx;cases h;refine .of (by simp only[aQ,hx];rfl) ?_ rfl;exact trivial
 .rename_i i off hx;split at h
  .rename_i r hm;have hm:aW m i=some r:=hm;cases h;refine .of (by simp only[aQ,hx,hm];rfl) ?_ rfl;exact trivial
  .cases h
 .cases h
theorem ZO{op:BinOp}{t:TypeId}{d:D}{y:Operand}(h1:y≠ .const (.slice none 0 0))(h2:y≠ .const (.pointer none)):kQ P (aW m) op t d y=none:=by
 unfold kQ;split
 .exact absurd rfl h1
 .exact absurd rfl h2
 .exact absurd rfl h2
 .rfl
theorem Aj{op:BinOp}{t:TypeId}{e:D}{q:Prop}{x y:Operand}{ty:TypeId}(h1:y≠ .const (.slice none 0 0))(h2:y≠ .const (.pointer none))(h:pq P op t (ρ x) (ρ y)=some (q,e))(hq:q)(hp:p=⟨e,[],[],0⟩):
 dR P (.binOp op t x y ty) ρ (aW m) nx p:=
 .of (pre:=q) (by simp only[aQ,ZO h1 h2,h,Option.map_some]) hq hp
theorem nlt(a b:Int):(!decide (b<a))=decide (a<=b):=by
 rw[Bool.eq_iff_iff];simp
theorem abf{op:BinOp}{k k':IntKind}{a b:Int}(h:Me op k k' a b=some p):∃ q v,nC op (.int k a) (.int k' b)=some (q,v)/\q/\p=⟨.s v,[],[],0⟩:=by
 have hs:∀ {c:Bool} {n:Int},sI c k n=some p->c=true/\p=⟨.s (.int k n),[],[],0⟩:=fun h=>eT h;have hb:∀ {c v:Bool},sB c v=some p->c=true/\p=⟨.s (.bool v),[],[],0⟩:=fun h=>eT h;have ne:∀ {c d:Bool},(c&& !d)=true->c=true/\d=false:=fun h=>by simpa using h
 cases op<;>simp only[Me,Qj,Gq,Sw,nlt] at h
 case shl=>
  obtain⟨h1,rfl⟩:=hs h;exact⟨_,_,rfl,by simpa using h1,rfl⟩
 case shr=>
  obtain⟨h1,rfl⟩:=hs h;exact⟨_,_,rfl,by simpa using h1,rfl⟩
 case quo=>
  obtain⟨h1,rfl⟩:=hs h;obtain⟨h2,C⟩:=ne h1;exact⟨_,_,rfl,⟨Ab _ _ h2,by simpa using C⟩,rfl⟩
 case rem=>
  obtain⟨h1,rfl⟩:=hs h;obtain⟨h2,C⟩:=ne h1;exact⟨_,_,rfl,⟨Ab _ _ h2,by simpa using C⟩,rfl⟩
 all_goals first
  |(obtain⟨h1,rfl⟩:=hs h;exact⟨_,_,rfl,Ab _ _ h1,rfl⟩)
  |(obtain⟨h1,rfl⟩:=hb h;exact⟨_,_,rfl,Ab _ _ h1,rfl⟩)
theorem abg{op:BinOp}{x y:Operand}{t ty:TypeId}{a b:ByteArray}(hx:ρ x=.s (.string a))(hy:ρ y=.s (.string b))(h1:y≠ .const (.slice none 0 0))(h2:y≠ .const (.pointer none))(h:Mf op a.data.toList b.data.toList=some p):
 dR P (.binOp op t x y ty) ρ (aW m) nx p:=by
 have hb:∀ {v:Bool},sB true v=some p->p=⟨.s (.bool v),[],[],0⟩:=fun h=>(eT h).2
 have fin:∀ {v:Bool},nC op (.string a) (.string b)=some (True,.bool v)->p=⟨.s (.bool v),[],[],0⟩->dR P (.binOp op t x y ty) ρ (aW m) nx p:=fun {v} hv hp=>
  Aj h1 h2 (q:=True) (e:=.s (.bool v)) (by rw[hx,hy];simp only[pq,hv,Option.map_some]) trivial hp
 unfold Mf at h;split at h
 .exact fin (by simp only[nC,ByteArray.toList_eq, <- Gr]) (hb h)
 .exact fin (by simp only[nC,ByteArray.toList_eq, <- Gr]) (hb h)
 .exact fin (by simp only[nC,ByteArray.toList_eq, <- KL]) (hb h)
 .exact fin (by simp only[nC,ByteArray.toList_eq, <- KL]) (hb h)
 .obtain⟨C,J⟩:=eT h
  have e:(⟨⟨a.data.toList++b.data.toList⟩⟩:ByteArray)=a++b:=by
   apply ByteArray.ext;simp only[ByteArray.data_append];apply Array.ext';simp
  rw[e] at J;simp only[Nat.ble_eq,zV] at C;exact .nw (.add t ty x y a b hx hy C) J
 .cases h
theorem abh{op:BinOp}{x y:Operand}{t ty:TypeId}(h:Mg op t x y P ρ m nx=some p):dR P (.binOp op t x y ty) ρ (aW m) nx p:=by
 have M:∀ {b:Bool},He op=some b->op=if b then .eql else .neq:=fun {b} h=>by
  cases op<;>simp only[He,aK,reduceCtorEq] at h<;>subst h<;>rfl
 unfold Mg at h;split at h
 ·
   split at h
   .rename_i b hb;have ho:=M hb;unfold Tp at h;split at h
    .rename_i hx;obtain⟨h1,h2⟩:=eT h;exact .nw (.yH b op t ty x ho hx h1) (by rw[h2];cases b<;>rfl)
    .rename_i i off n hx;split at h
     .rename_i cs e hm;obtain⟨h1,h2⟩:=pW h;simp only[ay,Nat.blt_eq] at h1;exact .nw (.yI b op t ty x i off n cs e ho hx hm h1.2 h1.1) (by rw[h2];cases b<;>rfl)
     .cases h
    .rename_i es n hx;cases b with
     |false=>cases h
     |true=>
      simp only[if_true] at ho;subst ho;obtain⟨h1,h2⟩:=eT h;refine .of (by simp only[aQ,kQ,hx];rfl) ?_ ?_
      .exact h1
      .exact(by rw[h2];cases n<;>rfl)
    .cases h
   .cases h
 ·
   split at h
   .rename_i b hb;have ho:=M hb;unfold Tq at h;split at h
    .rename_i i off hx;split at h
     .rename_i r hm;have hm:aW m i=some r:=hm;obtain⟨h1,h2⟩:=pW h;cases b with
      |true=>
       simp only[if_true] at ho;subst ho;refine .of (by simp only[aQ,kQ,hx,hm];rfl) ?_ h2;exact h1
      |false=>
       simp only[Bool.false_eq_true,if_false] at ho;subst ho;refine .of (by simp only[aQ,kQ,hx,hm];rfl) ?_ h2;exact h1
     .cases h
    .cases h
   .cases h
 .rename_i h1 h2;have h1:y≠ .const (.slice none 0 0):=fun e=>h1 e;have h2:y≠ .const (.pointer none):=fun e=>h2 e;unfold To at h;split at h
  .rename_i k a k' b hx hy;obtain⟨q,v,C,J,O⟩:=abf h;exact Aj h1 h2 (by rw[hx,hy];simp only[pq,C,Option.map_some]) J O
  .rename_i a b hx hy;exact abg hx hy h1 h2 h
  .rename_i a b hx hy;split at h
   .obtain⟨C,J⟩:=eT h;exact Aj h1 h2 (by rw[hx,hy];rfl) C J
   .obtain⟨C,J⟩:=eT h;exact Aj h1 h2 (by rw[hx,hy];rfl) C J
   .cases h
  .rename_i xs ys hx hy;unfold Sg at h;split at h
   .rename_i U q hk hz;obtain⟨C,J⟩:=eT h;simp only[ay,decide_eq_true_eq,Bool.not_eq_true'] at C;exact Aj h1 h2 (by rw[hx,hy];simp only[pq,xU,hk,hz]) C J
   .rename_i U q hk hz;obtain⟨C,J⟩:=eT h;simp only[ay,decide_eq_true_eq,Bool.not_eq_true'] at C;exact Aj h1 h2 (by rw[hx,hy];simp only[pq,xU,hk,hz]) C J
   .cases h
  .cases h
theorem ach{op:UnOp}{t:TypeId}{x:Operand}(h:Nd op x P ρ m nx=some p):dR P (.unOp op t x) ρ (aW m) nx p:=by
 unfold Nd at h;split at h
 .rename_i v hx;split at h
  .rename_i r hr;cases h;refine .of (by simp only[aQ,hx,hr,Option.map_some];rfl) ?_ rfl;trivial
  .cases h
 .cases h
theorem ZP{src dst:TypeId}{x:Operand}(h:Lo src dst x P ρ m nx=some p):dR P (.convert src dst x) ρ (aW m) nx p:=by
 have str:∀ {b:Bool} {n:Nat} {rd:List Nat} {o:Option (List Int)},Hg b n rd o=some p->b=true/\∃ l,o=some l/\l.length=n/\p=⟨.s (.string (mkStr l)),[],rd,0⟩:=fun {b n rd o} h=>by
  unfold Hg at h;split at h
  .rename_i l;obtain⟨h1,h2⟩:=xI h;simp only[ay,Nat.beq_eq] at h1;exact⟨h1.1,l,rfl,h1.2,h2⟩
  .cases h
 unfold Lo at h;split at h
 .rename_i k hd;unfold Sk at h;split at h
  .rename_i k' n hx;obtain⟨h1,h2⟩:=eT h;rw[Qj] at h2;refine .of (by simp only[aQ,hd,hx];rfl) ?_ h2;exact h1
  .cases h
 .rename_i hd;have C:fG P dst=true:=by simp only[fG,hd]
  unfold Si at h;split at h
  .rename_i es n hx;obtain⟨h1,l,h2,rfl,J⟩:=str h;rw[ES h2] at hx;exact .nw (.AK src dst x l hx (Fo h1) C) J
  .rename_i i off n hx;split at h
   .rename_i cs e hm;obtain⟨h1,l,h2,rfl,J⟩:=str h;have M:=ES h2;rw[vG,oX] at M;exact .nw (.AL src dst x l i off cs e hx hm M (Fo h1) C) J
   .cases h
  .rename_i k n hx;split at h
   .rename_i k' hk;obtain⟨h1,h2⟩:=eT h;simp only[ay,Bool.not_eq_true',Gq,decide_eq_false_iff_not,decide_eq_true_eq,Int.not_lt] at h1;exact .nw (.rune src dst x k k' n hx hk C h1.1 h1.2) h2
   .cases h
  .cases h
 .rename_i e hd;split at h
  .rename_i he;unfold Sj at h;split at h
   .rename_i b hx;obtain⟨h1,h2⟩:=eT h;simp only[ay,Nat.ble_eq,zV] at h1 h2;refine .of (by simp only[aQ,hd,hx,he];rfl) ?_ h2;exact h1
   .cases h
  .cases h
 .cases h
theorem abi{t:TypeId}{r:Option Operand}(h:Mh r P ρ m nx=some p):dR P (.makeMap t r) ρ (aW m) nx p:=by
 unfold Mh at h;split at h
 .cases h;refine .of (by simp only[aQ];rfl) ?_ rfl;trivial
 .cases h
theorem ZQ{t:TypeId}{l c:Operand}(h:Lp t l c P ρ m nx=some p):dR P (.makeSlice t l c) ρ (aW m) nx p:=by
 unfold Lp at h;split at h
 .rename_i n k hl hc;obtain⟨h1,h2⟩:=tK h;simp only[ay,Nat.ble_eq,Nat.beq_eq] at h1;obtain⟨⟨rfl,C⟩,J,M⟩:=h1;refine .of (by simp only[aQ,hl,hc];rfl) ?_ h2;refine⟨?_,by first|rfl|trivial,?_,?_,M⟩
  .exact Int.natCast_nonneg n
  .exact Int.ofNat_le.2 C
  .show(P.bytesOf (av P t):Int)*(n:Int)<=_;rw[<- Int.natCast_mul];exact Int.ofNat_le.2 J
 .cases h
theorem ZR{t:TypeId}{x k:Operand}{ok:Bool}(h:Lq t x k ok P ρ m nx=some p):dR P (.lookup t x k ok) ρ (aW m) nx p:=by
 unfold Lq at h;split at h
 .rename_i key i hk hx;split at h
  .rename_i es hm;have hm:aW m i=some (.map es):=hm;obtain⟨h1,h2⟩:=pW h;simp only[ay,B8] at h1;refine .of (by simp only[aQ,ng,hk,hx,hm];rfl) ?_ h2;exact h1
  .cases h
 .rename_i key es hk hx;obtain⟨h1,h2⟩:=eT h;simp only[ay,B8] at h1;refine .of (by simp only[aQ,ng,hk,hx];rfl) ?_ h2;exact h1
 .rename_i key hk hx;obtain⟨h1,h2⟩:=eT h;simp only[ay] at h1;refine .of (by simp only[aQ,ng,hk,hx];rfl) ?_ h2;exact h1
 .cases h
theorem Rp{t:TypeId}{x k v:Operand}(h:Hh t x k v P ρ m nx=some p):dR P (.mapUpdate t x k v) ρ (aW m) nx p/\dR P (.insert t x k v) ρ (aW m) nx p:=by
 unfold Hh at h;split at h
 .rename_i key i hk hx;split at h
  .rename_i es hm;have hm:aW m i=some (.map es):=hm;obtain⟨h1,h2⟩:=Ch h;simp only[ay,B8] at h1;constructor
   .refine .of (by simp only[aQ,nh,hk,hx,hm];rfl) ?_ h2;exact h1
   .refine .of (by simp only[aQ,nh,hk,hx,hm];rfl) ?_ h2;exact h1
  .cases h
 .cases h
theorem FG{o:Option Operand}{d n:Nat}(h:ql ρ o d=some n):eP (o.map ρ) d=some (n:Int):=by
 unfold ql at h;split at h
 .cases h;rfl
 .rename_i x;split at h
  .rename_i k n' hx;cases h;simp[eP,hx,D.int?]
  .cases h
theorem Ac{o:Option Operand}{n:Nat}(h:ql ρ o 0=some n):eP (o.map ρ) 0=some (n:Int):=FG h
theorem Yn{t:TypeId}{x:Operand}{lo hi mx:Option Operand}(h:KF t x lo hi mx P ρ m nx=some p):dR P (.slice t x lo hi mx) ρ (aW m) nx p:=by
 have U:∀ {l h:Nat},l<=h->((h:Int) - (l:Int)).toNat=h - l:=fun {l h} _=>by omega
 unfold KF at h;split at h
 .unfold Rj at h;split at h
  .rename_i es n hx;split at h
   .rename_i l hh h1 h2;obtain⟨C,J⟩:=eT h;simp only[ay,Nat.ble_eq] at C;obtain⟨M,O,X⟩:=C;simp only[vG,oX] at J;refine .of (val:=.sl ((es.drop (l*P.cellsOf (av P t))).take ((hh - l)*P.cellsOf (av P t))) (hh - l)) (pre:=bm P t=true/\(0:Int)<=l/\(l:Int)<=hh/\(hh:Int)<=n) ?_ ?_ J
    .simp only[aQ,ll,hx,Ac h1,FG h2,Option.map_none,U O,dX]
    .exact⟨M,oG,oG,oG⟩
   .cases h
  .rename_i i off n hx;split at h
   .rename_i cs e l hh hm h1 h2;have hm:aW m i=some (.cells cs e):=hm;obtain⟨C,J⟩:=pW h;simp only[ay,Nat.ble_eq,Nat.beq_eq] at C;obtain⟨⟨M,h8⟩,O,X⟩:=C;refine .of (val:=.rs i (off+l*P.cellsOf (av P t)) (hh - l)) (pre:=(bm P t=true/\P.cellsOf e=P.cellsOf (av P t))/\(0:Int)<=l/\(l:Int)<=hh/\(hh:Int)<=n) ?_ ?_ J
    .simp only[aQ,ll,hx,hm,Ac h1,FG h2,Option.map_none,U O,dX]
    .exact⟨⟨M,h8⟩,oG,oG,oG⟩
   .cases h
  .rename_i b hx;split at h
   .rename_i l hh h1 h2;obtain⟨C,J⟩:=eT h;simp only[ay,Nat.ble_eq,zV] at C;obtain⟨M,O,X⟩:=C;rw[zV] at h2
    have e:(⟨⟨(b.data.toList.drop l).take (hh - l)⟩⟩:ByteArray)=b.extract l hh:=by
     obtain⟨⟨bl⟩⟩:=b;apply ByteArray.ext;apply Array.ext';exact(Lib.extract_data (⟨⟨bl⟩⟩:ByteArray) l hh).symm
    rw[e] at J;refine .of (val:=.s (.string (b.extract l hh))) (pre:=fG P t=true/\(0:Int)<=l/\(l:Int)<=hh/\(hh:Int)<=b.size) ?_ ?_ J
    .simp only[aQ,ll,hx,Ac h1,FG h2,Option.map_none,dX]
    .exact⟨M,oG,oG,oG⟩
   .cases h
  .rename_i hx;split at h
   .rename_i h1 h2;obtain⟨C,J⟩:=eT h;exact .nw (.Bm t x lo hi hx (Ac h1) (Ac h2) C) J
   .cases h
  .cases h
 .rename_i c;unfold Ri at h;split at h
  .rename_i es n l hy kk k hx h1 hc;split at h
   .rename_i k2 hh h2;cases hb:(Nat.beq l 0&&(Nat.beq hh n&&Nat.beq k n)&&lo.isNone) with
    |true=>
     rw[hb] at h;simp only[cond_true] at h;obtain⟨C,J⟩:=eT h;simp only[ay,Nat.beq_eq,xM,Option.isNone_iff_eq_none] at hb C;obtain⟨⟨rfl,rfl,rfl⟩,rfl⟩:=hb;exact .nw (.cut t x hy c es _ k2 kk hx h2 hc C.1 C.2.symm) J
    |false=>
     rw[hb] at h;simp only[cond_false] at h;obtain⟨C,J⟩:=eT h;simp only[ay,Nat.ble_eq] at C;obtain⟨M,O,X,h8⟩:=C;simp only[vG,oX] at J;have iR:eP (some (ρ hy)) n=some (hh:Int):=by simp[eP,h2,D.int?]
     refine .of (val:=.sl ((es.drop (l*P.cellsOf (av P t))).take ((hh - l)*P.cellsOf (av P t))) (hh - l)) (pre:=bm P t=true/\((some hy).map ρ).isSome=true/\(0:Int)<=l/\(l:Int)<=hh/\(hh:Int)<=k/\(k:Int)<=n) ?_ ?_ J
     .simp only[aQ,ll,hx,Ac h1,iR,Option.map_some,hc,D.int?,U O,dX,Int.ofNat_eq_natCast]
     .exact⟨M,rfl,oG,oG,oG,oG⟩
   .cases h
  .cases h
theorem WB{t:TypeId}{x:Operand}{k:Nat}(h:IP t x k P ρ m nx=some p):dR P (.fieldAddr t x k) ρ (aW m) nx p:=by
 unfold IP at h;split at h
 .rename_i off C hf;split at h
  .rename_i cs hx;obtain⟨h1,h2⟩:=eT h;rw[oX] at h2;refine .of (by simp only[aQ,hf,hx];rfl) ?_ h2;simpa using h1
  .rename_i i o hx;split at h
   .rename_i r hm;have hm:aW m i=some r:=hm;obtain⟨h1,h2⟩:=pW h;refine .of (by simp only[aQ,hf,hx,hm];rfl) ?_ h2;simpa using h1
   .cases h
  .cases h
 .cases h
theorem Yo{t:TypeId}{x:Operand}{k:Nat}(h:KG t x k P ρ m nx=some p):dR P (.field t x k) ρ (aW m) nx p:=by
 unfold KG at h;split at h
 .rename_i off C cs hf hx;obtain⟨h1,h2⟩:=eT h;simp only[ay,lO] at h1;rw[Aa,oX] at h2;refine .of (by simp only[aQ,hf,hx];rfl) ?_ h2;exact h1
 .cases h
theorem WC{t:TypeId}{x i:Operand}(h:IQ t x i P ρ m nx=some p):dR P (.indexAddr t x i) ρ (aW m) nx p:=by
 unfold IQ at h;split at h
 .rename_i es n C k hx hi;obtain⟨h1,h2⟩:=eT h;simp only[ay,lO,Nat.blt_eq] at h1;rw[oX] at h2;refine .of (by simp only[aQ,hx,hi];rfl) ?_ h2;exact⟨h1.1,oS,by simp only[Int.ofNat_eq_natCast];omega,h1.2.2⟩
 .rename_i j off n C k hx hi;split at h
  .rename_i r hm;have hm:aW m j=some r:=hm;obtain⟨h1,h2⟩:=pW h;simp only[ay,Nat.blt_eq] at h1;refine .of (by simp only[aQ,hx,hi,hm];rfl) ?_ h2;exact⟨h1.1,oS,by simp only[Int.ofNat_eq_natCast];omega⟩
  .cases h
 .rename_i j off C k hx hi;split at h
  .rename_i r hm;have hm:aW m j=some r:=hm;obtain⟨h1,h2⟩:=pW h;simp only[ay,Nat.blt_eq] at h1;refine .of (by simp only[aQ,hx,hi,hm];rfl) ?_ h2;exact⟨h1.1,oS,by simp only[Int.ofNat_eq_natCast];omega⟩
  .cases h
 .cases h
theorem Yp{t:TypeId}{x i:Operand}(h:KH t x i P ρ m nx=some p):dR P (.index t x i) ρ (aW m) nx p:=by
 unfold KH at h;split at h
 .rename_i b C k hx hi;obtain⟨h1,h2⟩:=eT h;simp only[ay,Nat.blt_eq,zV] at h1;refine .of (by simp only[aQ,hx,hi];rfl) ?_ h2;exact⟨h1.1,oS,by simp only[Int.ofNat_eq_natCast];omega⟩
 .rename_i cs C k hx hi;obtain⟨h1,h2⟩:=eT h;simp only[ay,Nat.blt_eq,lO] at h1;rw[Aa,oX] at h2;refine .of (by simp only[aQ,hx,hi];rfl) ?_ h2;exact⟨h1.1,oS,by simp only[Int.ofNat_eq_natCast];omega,h1.2.2⟩
 .cases h
theorem W3{x:Operand}{k:Nat}(h:Jx x k P ρ m nx=some p):dR P (.extract x k) ρ (aW m) nx p:=by
 unfold Jx at h;split at h
 .rename_i cs hx;split at h
  .rename_i d hd;cases h;obtain⟨h1,h2⟩:=Rn _ _ _ hd;refine .of (by simp only[aQ,hx];rfl) ?_ (by rw[h2]);exact h1
  .cases h
 .cases h
theorem Yq{t:TypeId}{x:Operand}(h:KI t x P ρ m nx=some p):dR P (.makeInterface t x) ρ (aW m) nx p:=by
 unfold KI at h;split at h
 .rename_i v hv;obtain⟨h1,h2⟩:=eT h;simp only[ay] at h1;exact .nw (.mkIf t x v hv h1.1 h1.2) h2
 .cases h
theorem Xt{x:Operand}{u t:TypeId}{ok:Bool}(h:J2 x t ok P ρ m nx=some p):dR P (.typeAssert x u t ok) ρ (aW m) nx p:=by
 unfold J2 at h;cases ok with
 |false=>cases h
 |true=>
  simp only[cond_true] at h;split at h
  .rename_i v hv;obtain⟨h1,h2⟩:=eT h;simp only[ay] at h1;exact .nw (.A3 x u t v hv h1.1.1 h1.1.2 h1.2.1 h1.2.2) h2
  .cases h
theorem Pm{sz:Nat}{d:D}{rd:List Nat}{k:Nat}{news:List D}(h:Gm m sz d=some (rd,k,news)):∃ q:Prop,iG (aW m) sz d=some (q,rd,k,news)/\q:=by
 unfold Gm at h;split at h
 .rename_i es n;obtain⟨h1,h2⟩:=xI h;cases h2;rw[lO] at h1;exact⟨_,by simp only[iG,vG],h1⟩
 .cases h;exact⟨True,rfl,trivial⟩
 .rename_i i off n;split at h
  .rename_i cs e hm;have hm:aW m i=some (.cells cs e):=hm;obtain⟨h1,h2⟩:=xI h;cases h2;rw[lO] at h1;exact⟨_,by simp only[iG,hm,vG,oX],h1⟩
  .cases h
 .cases h
theorem abj{c:Call}{b:Builtin}{xs:List Operand}{ts:List TypeId}(hc:c.callee=.builtin b)(hx:c.args.toList=xs)(ht:c.argTypes.toList=ts):c={ callee:=.builtin b,args:=xs.toArray,argTypes:=ts.toArray }:=by
 obtain⟨C,args,J⟩:=c;simp only at hc hx ht;subst hc hx ht;simp
theorem tJ{b:Builtin}{xs:List Operand}{ts:List TypeId}(hl:ts.length=xs.length):aQ P (.call { callee:=.builtin b,args:=xs.toArray,argTypes:=ts.toArray }) ρ (aW m) nx=eI P (aW m) nx b ts.toArray (xs.map ρ):=by
 simp[aQ,hl]
theorem IA{c:Call}{b:Builtin}(hc:c.callee=.builtin b)(h:Cg b c.args c.argTypes P ρ m nx=some p):dR P (.call c) ρ (aW m) nx p:=by
 unfold Cg at h;generalize hx:c.args.toList=xs at h;generalize ht:c.argTypes.toList=ts at h;rw[abj hc hx ht];have b1:∀ {t:TypeId},([t]:List TypeId).toArray.getD 0 0=t:=rfl;have b2:∀ {t u:TypeId},([t,u]:List TypeId).toArray.getD 0 0=t/\([t,u]:List TypeId).toArray.getD 1 0=u:=⟨rfl,rfl⟩
 unfold Vp at h;split at h
 ·
   unfold Un at h;split at h
   .rename_i x t;split at h
    .rename_i es n hd;obtain⟨h1,h2⟩:=eT h;refine .of (by rw[tJ rfl];simp only[eI,List.map_cons,List.map_nil,lD,hd,b1];rfl) ?_ h2;exact h1
    .rename_i i off n hd;split at h
     .rename_i r hm;have hm:aW m i=some r:=hm;obtain⟨h1,h2⟩:=pW h;refine .of (by rw[tJ rfl];simp only[eI,List.map_cons,List.map_nil,lD,hd,hm,b1];rfl) ?_ h2;exact h1
     .cases h
    .rename_i hd;obtain⟨h1,h2⟩:=eT h;refine .of (by rw[tJ rfl];simp only[eI,List.map_cons,List.map_nil,lD,hd,b1];rfl) ?_ h2;exact h1
    .rename_i bs hd;obtain⟨h1,h2⟩:=eT h;rw[zV] at h2;refine .of (by rw[tJ rfl];simp only[eI,List.map_cons,List.map_nil,lD,hd,b1];rfl) ?_ h2;exact h1
    .rename_i cs hd;obtain⟨h1,h2⟩:=eT h;refine .of (by rw[tJ rfl];simp only[eI,List.map_cons,List.map_nil,lD,hd,b1];rfl) ?_ h2;exact h1
    .rename_i i hd;split at h
     .rename_i es hm;obtain⟨h1,h2⟩:=pW h;exact .nw (.yF _ x t i es rfl hd hm h1) h2
     .cases h
    .cases h
   .cases h
 ·
   unfold Rk at h;split at h
   .rename_i s x t u;split at h
    .rename_i bs hd;unfold Ts at h;split at h
     .rename_i hs;obtain⟨h1,h2⟩:=tK h;simp only[ay,Nat.ble_eq] at h1;exact .nw (.xL _ s x t u bs rfl hs hd (Fo h1.1.1) h1.1.2 h1.2.1 h1.2.2) h2
     .rename_i i off n hs;split at h
      .rename_i cs e hm;obtain⟨h1,rfl⟩:=xI h;simp only[ay,Nat.ble_eq,Nat.beq_eq,xM] at h1;obtain⟨⟨rfl,C,J⟩,O,M,X⟩:=h1;exact .nw (.xV _ s x t u bs i off n cs rfl hs hd hm (Fo C) J O.symm M X) (by rw[oX])
      .cases h
     .cases h
    .rename_i ef;cases Ng:Nat.beq t u with
     |false=>rw[Ng] at h;cases h
     |true=>
     rw[Ng] at h;simp only[cond_true] at h;obtain rfl:=Nat.eq_of_beq_eq_true Ng;split at h
     .rename_i rd k news cF;obtain⟨q,eS,U⟩:=Pm cF
      have hb:∀ {e:Option du},p0 P (aW m) nx t (ρ s) (ρ x)=e->aQ P (.call { callee:=.builtin .append,args:=[s,x].toArray,argTypes:=[t,t].toArray }) ρ (aW m) nx=e:=fun {e} he=>by
       rw[tJ rfl];simp only[eI,List.map_cons,List.map_nil,b2,if_true];exact he
      unfold Uo at h;split at h
      .rename_i hs;obtain⟨h1,h2⟩:=tK h;simp only[ay,Nat.ble_eq,Nat.blt_eq] at h1;refine .of (hb (by simp only[p0,eS,hs];rfl)) ?_ h2;exact⟨h1.1,U,h1.2.1,h1.2.2.1,h1.2.2.2⟩
      .rename_i es n hs;obtain⟨h1,h2⟩:=tK h;simp only[ay,Nat.ble_eq,Nat.blt_eq,xM] at h1;obtain⟨⟨C,J⟩,⟨O,M⟩,X,h8⟩:=h1;exact .nw (.yj _ s x t es news n k q rd rfl hs eS U C J.symm O M X h8) h2
      .rename_i i off n hs;split at h
       .rename_i cs e hm;have hm:aW m i=some (.cells cs e):=hm;obtain⟨h1,rfl⟩:=xI h;simp only[ay,Nat.ble_eq,Nat.blt_eq,Nat.beq_eq,xM,Jy] at h1;obtain⟨⟨⟨C,rfl⟩,J,O⟩,⟨M,X⟩,h8⟩:=h1;refine .of (hb (by simp only[p0,eS,hs,hm];rfl)) ?_ (by rw[oX]);exact⟨C,by first|rfl|trivial,U,J,O.symm,M,X,h8⟩
       .cases h
      .cases h
     .cases h
   .cases h
 ·
   unfold Up at h;split at h
   .rename_i x y t u;split at h
    .rename_i k a k' b pA hy';obtain⟨h1,h2⟩:=eT h;have:=Ab _ _ h1;subst this
     have e:(bif oK b a then b else a)=if b<a then b else a:=by
      rw[Gq];by_cases aj:b<a<;>simp[aj]
     rw[e] at h2;refine .of (by rw[tJ rfl];simp only[eI,List.map_cons,List.map_nil,pA,hy'];rfl) ?_ h2
     first|rfl|trivial
    .cases h
   .cases h
 ·
   unfold Sl at h;split at h
   .rename_i x t;split at h
    .rename_i i off n hd;split at h
     .rename_i cs e hm;have hm:aW m i=some (.cells cs e):=hm;obtain⟨h1,h2⟩:=Ch h;simp only[ay,Nat.beq_eq,lO] at h1;refine .of (by rw[tJ rfl];simp only[eI,List.map_cons,List.map_nil,hd,hm,b1];rfl) ?_ h2;exact⟨h1.1,h1.2.2,h1.2.1⟩
     .cases h
    .cases h
   .cases h
 ·
   unfold Rm at h;split at h
   .rename_i x k t u;split at h
    .rename_i key i hk pA;split at h
     .rename_i es hm;have hm:aW m i=some (.map es):=hm;obtain⟨h1,h2⟩:=Ch h;simp only[ay,B8] at h1;refine .of (by rw[tJ rfl];simp only[eI,List.map_cons,List.map_nil,tR,hk,pA,hm,b2];rfl) ?_ h2;exact h1
     .cases h
    .cases h
   .cases h
 ·
   unfold Tt at h;split at h
   .rename_i x y t u;split at h
    .rename_i i off n pA;split at h
     .rename_i cs e rd k news hm cF;obtain⟨q,eS,U⟩:=Pm cF;obtain⟨h1,rfl⟩:=xI h;simp only[ay,Nat.beq_eq,Nat.ble_eq,lO] at h1;obtain⟨⟨rfl,rfl⟩,h2,C,J⟩:=h1;exact .nw (.copy _ x y t i off n k cs news q rd rfl pA hm eS U h2 C J) rfl
     .cases h
    .cases h
   .cases h
 ·
   unfold Sm at h;split at h
   .rename_i s t;split at h
    .rename_i i off n hs;split at h
     .rename_i r hm;obtain⟨h1,h2⟩:=pW h;exact .nw (.yk _ s t i off n r rfl hs hm (by simpa using h1)) h2
     .cases h
    .cases h
   .cases h
 ·
   unfold Tu at h;split at h
   .rename_i x y t u;split at h
    .rename_i i off k0 k hp hn;split at h
     .rename_i cs e hm;split at h
      .rename_i l e' hl he;obtain⟨h1,rfl⟩:=xI h;simp only[ay,Nat.beq_eq,Nat.blt_eq,Nat.ble_eq,b7,Bool.not_eq_true',Gq,decide_eq_false_iff_not,decide_eq_true_eq,Int.not_lt] at h1;obtain⟨⟨rfl,rfl⟩,⟨h2,C⟩,J,O⟩:=h1;have M:=ES hl;rw[vG,oX] at M;exact .nw (.yG _ x y t u e' l i off cs k0 rfl hp hn hm M (by intro e;rw[e] at h2;simp at h2) he C J O) rfl
      .cases h
     .cases h
    .cases h
   .cases h
 .cases h
theorem KM{o:Op}(h:D8 o P ρ m nx=some p):dR P o ρ (aW m) nx p:=by
 unfold D8 at h;split at h
 .cases h;refine .of (by simp only[aQ];rfl) ?_ rfl;trivial
 .cases h;refine .of (by simp only[aQ];rfl) ?_ rfl;trivial
 .exact ZM h
 .exact Yk h
 .exact abe h
 .exact Yl h
 .exact Ws h
 .exact ZN h
 .exact Ym h
 .exact WH h
 .exact abh h
 .exact ach h
 .exact ZP h
 .cases h;refine .of (by simp only[aQ];rfl) ?_ rfl;trivial
 .exact abi h
 .exact ZQ h
 .exact ZR h
 .exact(Rp h).1
 .exact(Rp h).2
 .exact Yn h
 .exact WB h
 .exact Yo h
 .exact WC h
 .exact Yp h
 .exact W3 h
 .exact Yq h
 .exact Xt h
 .rename_i c;unfold Tv at h;cases hc:c.callee with
  |builtin b=>rw[hc] at h;exact IA hc h
  |_=>rw[hc] at h;cases h
 .cases h
end
noncomputable def fc(t:T D):Env:=fun i=>getD t i
noncomputable def aO(c:bM):St:=⟨fc c.env,aW c.mem,c.nx⟩
noncomputable def mg(env:Env):Env:=fun i=>tz (env i)
theorem abk(d:D):(tz d).ask/\(tz d).core=tz d:=by cases d<;>exact⟨trivial,rfl⟩
theorem abl(v:Value):(wN v).ask/\(wN v).core=wN v:=by
 unfold wN;split<;>exact⟨trivial,rfl⟩
theorem KN(env:Env)(x:Operand):(opd (mg env) x).ask/\(opd (mg env) x).core=opd (mg env) x:=by
 cases x with
 |tmp t=>exact abk _
 |const v=>exact abl v
 |global g=>exact⟨trivial,rfl⟩
 |func f=>exact⟨trivial,rfl⟩
theorem vL(env:Env)(o:Op):asks (mg env) o:=by
 unfold asks;cases o<;>first|exact(KN env _).1|exact fun x _=>(KN env x).1
theorem aci(env:Env)(o:Op):bC (mg env) o=opd (mg env):=by
 unfold bC;cases o<;>first|rfl|(funext x;exact(KN env x).2)
theorem Ad(t:T D):agX t=opd (mg (fc t)):=by
 funext x;cases x<;>rfl
theorem xN(t:T D)(o:Op):bC (mg (fc t)) o=agX t:=(aci _ o).trans (Ad t).symm
section
variable{P:Program}{F:Nat->Prop}{ops:Array Oper}{o:Oper}{β:az}{w:World}{a:Act}{c c':bM}{p:bf}
theorem R.un{d:D}{v:Value}(h:R F β w d v):R F β w (tz d) v:=by
 cases d with
 |cG=>exact .u v
 |_=>exact h
theorem eZ.un{env:Env}(h:eZ F β w env a):eZ F β w (mg env) a:=fun t=>(h t).un
theorem Ak{dst:Option Nat}{d:D}{m:T Row}{nx:Nat}(h:wv c dst d m nx=some c'):aO c'=St.put ⟨fc c.env,aW m,nx⟩ dst d:=by
 unfold wv at h;cases dst with
 |none=>
  simp only[Mj,aK] at h;subst h;rfl
 |some i=>
  simp only[Mj] at h;split at h
  .rename_i t ht;cases h
   have e:fc t=up (fc c.env) i d:=by
    funext j;simp only[fc,getD,T.J3 ht,zY];by_cases hj:j=i<;>simp[hj]
   simp only[aO,St.put,e]
  .cases h
theorem xJ{m m':T Row}{i:Nat}{r:Option Row}(h:m.put i r=some m'):aW m'=up (aW m) i r:=by
 funext j;simp only[aW,T.J3 h,zY]
theorem Qk:∀ {us:List (Nat×Option Row)} {m m':T Row},Dr m us=some m'->aW m'=cu (aW m) us
 |[],m,m',h=>by simp only[Dr,aK] at h;subst h;rfl
 |(i,r)::us,m,m',h=>by
  simp only[Dr] at h;cases hp:m.put i r with
  |none=>rw[hp] at h;cases h
  |some C=>
   rw[hp] at h;simp only at h;rw[Qk h,xJ hp];rfl
theorem FH{dst:Option Nat}(h:wx c dst p=some c'):aO c'=St.put ⟨fc c.env,cu (aW c.mem) p.aT,c.nx+p.new⟩ dst p.val:=by
 unfold wx at h;split at h
 .rename_i m hm;rw[Ak h,Qk hm]
 .cases h
theorem TB{st:St}(O:fP ops o st true)(h:bf.Ok P #[] { o with guard:=none } ⟨mg st.env,st.mem,st.nx⟩ p):bf.Ok P ops o st p:=by
 intro F β w a m env N he C hm hr hn M r n QX K J
 have h1:=h F β w a m (mg env) N (fun t ht=>by
  have:t∈o.looksAt ops:=List.mem_append_left _ (by simpa[Oper.looksAt] using ht);show tz (env t)=tz (st.env t)
  rw[he t this]) C.un hm hr hn M r n QX K J
 unfold gV at h1 ⊢;rw[O F β w a env he C,if_pos rfl];rw[if_pos (by simp[Region.wanted])] at h1;exact h1
theorem Rq(C:fP ops o (aO c) true)(h:dR P o.op (agX c.env) (aW c.mem) c.nx p):p.Ok P ops o (aO c):=by
 refine TB C ?_;cases h with
 |a e h hp=>exact KA (xB rfl) (vL _ _) (by rw[<- xN] at h;exact h) hp
 |n e h=>exact Q9 (xB rfl) (vL _ _) (by rw[<- xN] at h;exact h)
theorem Yr{st:St}{op:Op}{ρ:Operand->D}(h:dR P op ρ st.mem st.nx p):p.mK (cD op) st:=by
 cases h with
 |a e h hp=>
  obtain⟨C,t2,t3,t4⟩:=Ju h;exact⟨C,t2,t3,t4⟩
 |n e h=>
  obtain⟨C,t2,t3,t4⟩:=h.tidy;exact⟨C,t2,t3,t4⟩
theorem EN{j:Nat}{b g:Bool}(hg:o.guard=some (j,b))(h:Gn ops j b c=some g):fP ops o (aO c) g:=by
 unfold Gn at h;split at h
 .rename_i J C;split at h
  .rename_i t ht;exact IN hg (t:=t) (by simp[C,ht]) h
  .cases h
 .cases h
def xO(P:Program)(call:nr):Prop:=∀ f args m nx p,call f args m nx=some p->∀ (o:Oper) (st:St),o.guard=none->st.mem=aW m->st.nx=nx->asks st.env o.op->dx (bC st.env o.op) o.op=some (f,args)->
 p.Ok P #[] o st/\∀ i∈p.wr,st.mem i≠none\/(nx<=i/\i<nx+p.new)
theorem Jz{call:Call}{f:Operand}{ρ:Operand->D}{g:FuncId}{fs cs:List D}(hc:call.callee=.value f)(hv:ρ f=.fn (.func g) fs cs):dx ρ (.call call)=some (g,fs++call.args.toList.map ρ++cs):=by
 simp only[dx,hc,hv]
theorem Sx{call:nr}(O:xO P call)(C:fP ops o (aO c) true)(h:HW o.op P call c=some p):p.Ok P ops o (aO c)/\p.mK (cD o.op) (aO c):=by
 have fin:∀ {q:bf},dR P o.op (agX c.env) (aW c.mem) c.nx q->q.Ok P ops o (aO c)/\q.mK (cD o.op) (aO c):=fun hq=>⟨Rq C hq,Yr (st:=aO c) hq⟩
 have other:∀ k:fJ,(∀ (c:bM) p,k P (agX c.env) c.mem c.nx=some p->dR P o.op (agX c.env) (aW c.mem) c.nx p)->gK k P call c=some p->p.Ok P ops o (aO c)/\p.mK (cD o.op) (aO c):=fun k hk hg=>fin (hk c p hg);cases ho:o.op
 case call cl=>
  rw[ho] at h;simp only[HW] at h;unfold Tx at h;cases hc:cl.callee with
  |value f=>
   rw[hc] at h;simp only[Sq] at h;split at h
   .rename_i g fs cs hv;have M:=Jz hc hv
    have hk:cD (.call cl)=2:=by
     obtain⟨J,aS,ts⟩:=cl;cases hc;rfl
    obtain⟨h1,h2⟩:=O _ _ _ _ _ h { o with guard:=none } ⟨mg (fc c.env),aW c.mem,c.nx⟩ rfl rfl rfl (vL _ _) (by rw[xN,ho];exact M);rw[hk];exact⟨TB C h1,⟨h2,(fun h=>by simp at h),(fun h=>by simp at h),(fun h=>by simp at h)⟩⟩
   .cases h
  |builtin b=>
   rw[hc] at h;rw[<- ho];exact fin (by rw[ho];exact IA hc h)
  |invoke=>rw[hc] at h;cases h
 all_goals (rw[ho] at h;exact ho▸fin (by rw[ho];exact KM h))
theorem Ql{call:nr}(C:xO P call)(h:GN P call ops o c=some p):p.Ok P ops o (aO c)/\p.mK (cD o.op) (aO c):=by
 unfold GN at h;split at h
 .rename_i hg;exact Sx C (xB hg) h
 .rename_i j b hg;split at h
  .cases h
  .rename_i hv;cases h;exact⟨FF (EN hg hv) _ fun F β w=>.cG false .u undef oS fun _=>rfl,⟨by simp[bf.wr],fun _=>⟨rfl,rfl⟩,fun _=>rfl,fun _=>⟨rfl,by simp[bf.wr]⟩⟩⟩
  .rename_i hv;exact Sx C (EN hg hv) h
end
section
variable{P:Program}{F:Nat->Prop}{ops:Array Oper}{o:Oper}{β β':az}{w w':World}{a:Act}{c c':bM}{hd:Hd}
def HOk(P:Program)(F:Nat->Prop)(C:az)(O:World)(i:Nat)(h:Hf):Prop:=
 ∃ l,(C i=some (.lp l)\/C i=some .dead)/\∀ args m nx b m' aA,m.get i=some (.lp .ready)->h args m nx=some (b,m',aA)->
  o6 P F C O l args (aW m) nx fun d M J=>d=.s (.bool b)/\M=aW m'/\J=aA
def mL(P:Program)(F:Nat->Prop)(hd:Hd)(β:az)(w:World):Prop:=∀ i h,Dq hd i=some h->HOk P F β w i h
theorem mL.step(h:mL P F hd β w)(hs:Step β w β' w'):mL P F hd β' w':=fun i f hf=>by
 obtain⟨l,h1,h2⟩:=h i f hf;refine⟨l,?_,fun args m nx b m' aA hm hr=>(h2 args m nx b m' aA hm hr).base hs⟩;rcases h1 with h1|h1
 .exact hs.gq i _ h1
 .rcases hs.gq i _ h1 with h2|h2<;>exact .inr h2
theorem sf:mL P F [] β w:=fun i h hf=>by simp[Dq] at hf
def Ends(P:Program)(F:Nat->Prop)(β:az)(w:World)(nx:Nat)(x:D ⊕ List PanicEntry)(m':Mem)(aA:Nat)(e:Ending)(w':World):Prop:=
 ∃ β',(match x with
  | .inl d=>∃ v,e=.returned v/\R F β' w' d v
  | .inr ch=>e=.panicked ch)/\aC P F m' β' w'/\(∀ i,aA<=i->β' i=none)/\Step β w β' w'/\nx<=aA/\∀ i,i<nx->β i=none->β' i=none
def ZC(P:Program)(hd:Hd)(f:FuncId)(args:List D)(m:Mem)(nx:Nat)(x:D ⊕ List PanicEntry)(m':Mem)(aA:Nat):Prop:=
 lf P f=true/\∀ F β w vs,mL P F hd β w->aC P F m β w->(∀ i,nx<=i->β i=none)->Rs F β w args vs->Calls P f vs w (Ends P F β w nx x m' aA)
def tU(P:Program)(hd:Hd)(call:kL):Prop:=∀ f args m nx x m' aA,call f args m nx=some (x,m',aA)->ZC P hd f args (aW m) nx x (aW m') aA
theorem Ja{env:Env}{f:FuncId}{args:List D}(M:Region.wanted o (yielded ops a.tmps)=true)(C:eZ F β w env a)(ha:asks env o.op)
 (h:dx (bC env o.op) o.op=some (f,args)) (he:lf P f=true) {r:Option Nat} {n:Nat} {QX:Exit->Act->World->Prop} {K:Act->World->Prop}
 (J:∀ vs,Rs F β w args vs->Calls P f vs w fun e w'=>(∃ v,e=.returned v/\K (a.put o.dst v) w')\/∃ ch,e=.panicked ch/\QX (.panic ch) a w'):gV r n P ops QX o K a w:=by
 obtain⟨vs,h1,h2⟩:=OI (F:=F) (β:=β) (w:=w) C ha h he;unfold gV;rw[M,if_pos rfl];refine⟨fun _ _=>trivial,?_⟩;rw[yc (OA h),h1];refine⟨oS,Fk ((J vs h2).mono ?_)⟩;rintro e w' (⟨v,rfl,hk⟩|⟨ch,rfl,hk⟩)
 .exact hk
 .exact hk
def AV(P:Program)(F:Nat->Prop)(ops:Array Oper)(o:Oper)(c c':bM)(oc:Option (List PanicEntry))(β:az)(w:World)(a:Act)(r:Option Nat)(n:Nat):Prop:=
 ∀ (QX:Exit->Act->World->Prop) (K:Act->World->Prop),(oc=none->∀ β' a' w',bW P F (aO c') β' w' a'->dC c.nx β w a (aO c') β' w' a'->K a' w')->
  (∀ ch,oc=some ch->∀ β' w',bW P F (aO c') β' w' a->dC c.nx β w a (aO c') β' w' a->QX (.panic ch) a w')->gV r n P ops QX o K a w
variable{oc:Option (List PanicEntry)}{r:Option Nat}{n:Nat}
theorem Fp{x:Option bM}(h:D9 x=some (oc,c')):oc=none/\x=some c':=by
 cases x with
 |none=>cases h
 |some C=>cases h;exact⟨rfl,rfl⟩
theorem ZS{p:Option bf}(hp:∀ q,p=some q->q.Ok P ops o (aO c))(h:Uq c o.dst p=some (oc,c'))(hs:bW P F (aO c) β w a)(hd:∀ t,o.dst=some t->t<a.tmps.size):AV P F ops o c c' oc β w a r n:=by
 cases p with
 |none=>cases h
 |some q=>
  obtain⟨rfl,h1⟩:=Fp h;refine fun QX K O U=>EX (hp q rfl) hs hd r n QX fun β' a' w' C J=>?_;have e:=FH h1;have M:St.put ⟨(aO c).env,cu (aO c).mem q.aT,(aO c).nx+q.new⟩ o.dst q.val=aO c':=e.symm;rw[M] at C J;exact O rfl β' a' w' C J
theorem Jb{st:St}{m':Mem}{aA:Nat}{dst:Option Nat}{d:D}{v:Value}(h1:Step β w β' w')(h2:st.nx<=aA)(C:∀ i,i<st.nx->β i=none->β' i=none):dC st.nx β w a (St.put ⟨st.env,m',aA⟩ dst d) β' w' (a.put dst v):=
 ⟨h1,by rw[zS];exact h2,C,tN _ _ _,put_defers _ _ _⟩
theorem ZT{f:FuncId}{args:List D}{x:Option nP}(hw:fP ops o (aO c) true)(hc:dx (agX c.env) o.op=some (f,args))(hz:∀ y m' aA,x=some (y,m',aA)->ZC P hd f args (aW c.mem) c.nx y (aW m') aA)
 (h:Mk c o.dst x=some (oc,c')) (hh:mL P F hd β w) (hs:bW P F (aO c) β w a) (fC:∀ t,o.dst=some t->t<a.tmps.size):AV P F ops o c c' oc β w a r n:=by
 have Vr:Region.wanted o (yielded ops a.tmps)=true:=hw F β w a (aO c).env (fun _ _=>rfl) hs.e;have hC:dx (bC (mg (fc c.env)) o.op) o.op=some (f,args):=by rw[xN];exact hc
 cases x with
 |none=>cases h
 |some y=>
  obtain⟨y,m',aA⟩:=y;have hz:=hz y m' aA rfl;cases y with
  |inl d=>
   obtain⟨rfl,h1⟩:=Fp h;have e:=Ak h1;intro QX K hK _;refine Ja Vr hs.e.un (vL _ _) hC hz.1 fun vs hR=>?_;refine(hz.2 F β w vs hh hs.m hs.n hR).mono fun e1 w' hp=>?_;obtain⟨β',⟨v,rfl,J⟩,M,O,C,U,X⟩:=hp;refine .inl ⟨v,rfl,hK rfl β' _ w' ?_ ?_⟩
   .rw[e];exact bW.put (st':=⟨fc c.env,aW m',aA⟩) (hs.e.step C) fC J M O
   .rw[e];exact Jb (st:=aO c) C U X
  |inr ch=>
   simp only[Mk,aK,cq] at h;obtain⟨rfl,rfl⟩:=h;intro QX K _ hX;refine Ja Vr hs.e.un (vL _ _) hC hz.1 fun vs hR=>?_;refine(hz.2 F β w vs hh hs.m hs.n hR).mono fun e1 w' hp=>?_;obtain⟨β',J,M,O,C,U,X⟩:=hp;exact .inr ⟨ch,J,hX ch rfl β' w' ⟨hs.e.step C,M,O⟩ ⟨C,U,X,rfl,rfl⟩⟩
theorem Ys{call:kL}{f:Operand}{cl:Call}{i:Nat}(ho:o.op=.call cl)(hf:cl.callee=.value f)(hw:fP ops o (aO c) true)(hv:agX c.env f=.yl i)
 (h:KJ i (cl.args.toList.map (agX c.env)) P hd call o.dst c=some (oc,c')) (hh:mL P F hd β w) (hs:bW P F (aO c) β w a) (fC:∀ t,o.dst=some t->t<a.tmps.size):AV P F ops o c c' oc β w a r n:=by
 unfold KJ at h;split at h
 .rename_i wX hg aD;cases hx:wX (cl.args.toList.map (agX c.env)) c.mem c.nx with
  |none=>rw[hx] at h;cases h
  |some x=>
   obtain⟨b,m',aA⟩:=x;rw[hx] at h;obtain⟨rfl,h1⟩:=Fp h;have e:=Ak h1;obtain⟨l,J,g2⟩:=hh i wX hg;have hy:=g2 _ _ _ _ _ _ aD hx;obtain⟨p,hp,X⟩:=hs.m.row i _ aD;have O:=hs.e.un;have hR:∀ x,R F β w (agX c.env x) (a.eval x):=fun x=>by rw[Ad];exact O.opd x
   have y5:a.eval f=.func (.yield l) #[] #[]:=by
    have h2:=hR f;rw[hv] at h2;generalize a.eval f=u at h2;cases h2 with
    |yl _ l' C=>
     rcases J with J|J
     .rw[J] at C;cases C;rfl
     .rw[J] at C;cases C
    |Bk _ _ C _=>rw[C] at hp;cases hp;cases X
   obtain⟨q1,q2⟩:=Au (F:=F) (β:=β) (w:=w) (xs:=cl.args) (ρ:=agX c.env) (a:=a) (fun x _=>hR x);obtain⟨M,tmps,assign,body,k1,k2⟩:=hy β w (cl.args.map a.eval) (Step.refl β w) hs.m hs.n ⟨by simpa using q1,fun j d u hd hu=>q2 j d u hd (by simpa using hu)⟩;intro QX K hK _;unfold gV;rw[hw F β w a (aO c).env (fun _ _=>rfl) hs.e,if_pos rfl];refine⟨fun _ _=>trivial,?_⟩
   have U:(execOp a.eval o).run P w=(Instr.yield l (cl.args.map a.eval)).run P w:=by
    unfold execOp;rw[ho];simp only[resolve,hf,Sem.run_bind,y5,Deferred.ofValue,Sem.run_pure,Result.andThen_ok,invoke];simp
   rw[yc (fun c hc=>by rw[ho] at hc;cases hc),U,k1];refine⟨oS,?_⟩;refine RoundIn.mono (F:=Fe r) (show RoundIn (Fe r) (n - 1) P l M tmps assign body w _ from k2 (n - 1)) fun e1 w' hp=>?_;obtain⟨v,d,m2,iC,β',rfl,⟨rfl,rfl,rfl⟩,j3,j4,j5,j6,j7,j8⟩:=hp;refine hK rfl β' _ w' ?_ ?_
   .rw[e];exact bW.put (st':=⟨fc c.env,aW m',iC⟩) (hs.e.step j6) fC j5 j3 j4
   .rw[e];exact Jb (st:=aO c) j6 j7 j8
 .cases h
theorem Rr{call:kL}(X:tU P hd call)(C:fP ops o (aO c) true)(h:D' o.op P hd call o.dst c=some (oc,c'))(hh:mL P F hd β w)(hs:bW P F (aO c) β w a)(J:∀ t,o.dst=some t->t<a.tmps.size):
 AV P F ops o c c' oc β w a r n:=by
 have O:∀ {k:fJ},(∀ p,k P (agX c.env) c.mem c.nx=some p->dR P o.op (agX c.env) (aW c.mem) c.nx p)->fK k P hd call o.dst c=some (oc,c')->AV P F ops o c c' oc β w a r n:=fun hk hg=>ZS (fun q hq=>Rq C (hk q hq)) hg hs J;cases ho:o.op
 case call cl=>
  rw[ho] at h;simp only[D'] at h;unfold Tw at h;cases hc:cl.callee with
  |value f=>
   rw[hc] at h;simp only[So] at h;split at h
   .rename_i g fs cs hv;exact ZT C (by rw[ho];exact Jz hc hv) (fun y m' aA hy=>X _ _ _ _ _ _ _ hy) h hh hs J
   .rename_i i hv;exact Ys ho hc C hv h hh hs J
   .cases h
  |builtin b=>
   rw[hc] at h;exact O (fun p hp=>by rw[ho];exact IA hc hp) h
  |invoke=>rw[hc] at h;cases h
 case panic x=>
  rw[ho] at h;simp only[D',Sp] at h;split at h
  .rename_i t v hv;cases h;intro QX K _ U;have hR:R F β w (agX c.env x) (a.eval x):=by rw[Ad];exact hs.e.un.opd x
   rw[hv] at hR;unfold gV;rw[C F β w a (aO c).env (fun _ _=>rfl) hs.e,if_pos rfl];refine⟨fun _ _=>trivial,?_⟩
   have M:(execOp a.eval o).run P w=.halt (.panic (.iface t v)) w:=by
    unfold execOp;rw[ho];simp only[hR.cJ.1,Sem.run_bind];rfl
   rw[yc (fun c hc=>by rw[ho] at hc;cases hc),M];exact U _ rfl β w hs (dC.refl (aO c) β w a)
  .cases h
 all_goals (rw[ho] at h;exact O (fun p hp=>by rw[ho];exact KM hp) h)
theorem Al{call:kL}(O:tU P hd call)(h:Nf P hd call ops o c=some (oc,c'))(hh:mL P F hd β w)(hs:bW P F (aO c) β w a)(C:∀ t,o.dst=some t->t<a.tmps.size):
 AV P F ops o c c' oc β w a r n:=by
 unfold Nf at h;split at h
 .rename_i hg;exact Rr O (xB hg) h hh hs C
 .rename_i j b hg;split at h
  .cases h
  .rename_i hv;obtain⟨rfl,h1⟩:=Fp h;have e:=Ak h1;have U:St.put ⟨(aO c).env,cu (aO c).mem [],(aO c).nx+0⟩ o.dst uk=aO c':=e.symm;refine fun QX K X hX=>EX (FF (EN hg hv) uk fun F β w=>.cG false .u undef oS fun _=>rfl) hs C r n QX fun β' a' w' J M=>?_;rw[U] at J M;exact X rfl β' a' w' J M
  .rename_i hv;exact Rr O (EN hg hv) h hh hs C
def QE(e:Exit)(c':bM):Exit->St->Prop:=fun e2 C=>e2=e/\C=aO c'
theorem Pn{call:kL}{e:Exit}{N tl:Nat}{β₀:az}{w₀:World}{a₀:Act}{QX:Exit->Act->World->Prop}(iV:tU P hd call)(hh:mL P F hd β₀ w₀)(aj:lA a₀.tmps.size ops=true)
 (hX:∀ ch,e=.panic ch->∀ β w a,bW P F (aO c') β w a->dC N β₀ w₀ a₀ (aO c') β w a->QX (.panic ch) a w):
 ∀ (rest:List Oper) (k:Nat) (c:bM) (β:az) (w:World) (a:Act),(∀ j o,rest[j]? =some o->ops[k+j]? =some o)->rz P hd call ops rest c=some (e,c')->bW P F (aO c) β w a->dC N β₀ w₀ a₀ (aO c) β w a->
  (e=.normal->∀ β w a,bW P F (aO c') β w a->dC N β₀ w₀ a₀ (aO c') β w a->wpOpsIn (Fe r) n P ops QX (List.range' (k+rest.length) tl) a w)->
  wpOpsIn (Fe r) n P ops QX (List.range' k (rest.length+tl)) a w:=by
 intro rest
 induction rest with
 |nil=>
  intro k c β w a hk h hs C U;simp only[rz,aK,cq] at h;obtain⟨rfl,rfl⟩:=h;simpa using U rfl β w a hs C
 |cons o rest ih=>
  intro k c β w a hk h hs C U;have ho:ops[k]? =some o:=hk 0 o rfl;have e1:(o::rest).length+tl=(rest.length+tl)+1:=by simp;omega
  rw[e1,List.range'_succ,wpOpsIn_cons];refine zJ ho ?_;have fC:∀ t,o.dst=some t->t<a.tmps.size:=fun t ht=>by rw[C.size];exact sb aj ho t ht
  simp only[rz] at h;split at h
  .rename_i X h1;refine Al iV h1 (hh.step C.step) hs fC _ _ (fun _ β' a' w' M O=>ih (k+1) X β' w' a' (fun j o hj=>by rw[Nat.add_right_comm];exact hk (j+1) o (by simpa using hj)) h M (C.trans O) fun he β w a q1 q2=>?_) (fun ch J=>by cases J);have:=U he β w a q1 q2;rw[show k+(o::rest).length=k+1+rest.length by simp;omega] at this;exact this
  .rename_i ch X h1;simp only[aK,cq] at h;obtain⟨rfl,rfl⟩:=h
   exact Al iV h1 (hh.step C.step) hs fC _ _ (fun J=>by cases J) fun Vs J β' w' M O=>by
    cases J;exact hX _ rfl β' w' a M (C.trans O)
  .cases h
theorem ZU{call:kL}{e:Exit}{N:Nat}{β₀:az}{w₀:World}{a₀:Act}(J:tU P hd call)(hh:mL P F hd β₀ w₀)(aj:lA a₀.tmps.size ops=true){c:bM}{β:az}{w:World}{a:Act}(h:rz P hd call ops ops.toList c=some (e,c'))(hs:bW P F (aO c) β w a)(C:dC N β₀ w₀ a₀ (aO c) β w a):
 wpOpsIn (Fe r) n P ops (dd P F N β₀ w₀ a₀ (QE e c')) (List.range ops.size) a w:=by
 have:=Pn (r:=r) (n:=n) (tl:=0) (QX:=dd P F N β₀ w₀ a₀ (QE e c')) J hh aj (fun ch he β w a h1 h2=>⟨_,β,⟨he.symm,rfl⟩,h1,h2⟩) ops.toList 0 c β w a (fun j o hj=>by simpa using hj) h hs C fun he β w a h1 h2=>⟨_,β,⟨he.symm,rfl⟩,h1,h2⟩
 rw[List.range_eq_range'];simpa using this
end
section
variable{P:Program}{F:Nat->Prop}{ops:Array Oper}{β:az}{w:World}{a:Act}{c c':bM}{hd:Hd}{cf:List (Nat×Nat)}{Q:Exit->St->Prop}
theorem xC{l:List Nat}:∀ {xs:List Nat},meets l xs=false->∀ x∈xs,x∉l
 |[],_,x,hx=>by cases hx
 |y::xs,h,x,hx=>by
  simp only[meets,Bool.or_eq_false_iff,Bool.not_eq_false'] at h;rcases List.mem_cons.1 hx with rfl|hx
  .exact(Jy _ _).1 h.1
  .exact xC h.2 x hx
theorem IB{ps:List bf}:∀ {l:List (Nat×Nat)},ye ps l=true->∀ q∈l,p9 (ps.map fun p=>(p.rd,p.wr)) q.1 q.2
 |[],_,q,hq=>by cases hq
 |p::l,h,q,hq=>by
  simp only[ye,ay] at h;rcases List.mem_cons.1 hq with rfl|hq
  .have h:=h.1;unfold Sr at h;split at h
   .rename_i x y hx hy;simp only[ay,Bool.not_eq_true'] at h;simp only[p9,List.getD,List.getElem?_map,hx,hy,Option.map_some,Option.getD_some];exact⟨fun z hz=>⟨xC h.1 z hz,xC h.2.1 z hz⟩,fun z hz=>xC h.2.2 z hz⟩
   .cases h
  .exact IB h.2 q hq
theorem Jc{call:nr}(C:xO P call):∀ {os:List Oper} {ps:List bf} {c c':bM} {tr:ma},AA P call ops os c=some (ps,c')->(∀ q∈cf,p9 (tr++ps.map fun p=>(p.rd,p.wr)) q.1 q.2)->Q .normal (aO c')->Co P ops cf Q os ps (aO c) tr
 |[],ps,c,c',tr,h,h1,h2=>by
  simp only[AA,aK,cq] at h;obtain⟨rfl,rfl⟩:=h;exact⟨by simpa using h1,h2⟩
 |o::os,ps,c,c',tr,h,h1,h2=>by
  simp only[AA] at h;split at h
  .rename_i p hp;split at h
   .rename_i J uW;split at h
    .rename_i X c2 U;simp only[aK,cq] at h;obtain⟨rfl,rfl⟩:=h;obtain⟨M,O⟩:=Ql C hp;refine⟨M,O,?_⟩;have e:uQ (aO c) o p=aO J:=(FH uW).symm;rw[e];exact Jc C U (by simpa using h1) h2
    .cases h
   .cases h
  .cases h
theorem Qm{gX:kL}{iU:nr}{r:Option Nat}{n id:Nat}{e:Exit}(jL:P.follows .mixedOrders=true)(ht:tU P hd gX)(hp:xO P iU)(aj:lA a.tmps.size ops=true)(h:GO P hd gX iU ops c (cg ops)=some (e,c'))
 (hh:mL P F hd β w) (hs:bW P F (aO c) β w a):(Code.region id ops true).wpIn (Fe r) n P (dd P F c.nx β w a (QE e c')) a w:=by
 cases hi:cg ops with
 |none=>rw[hi] at h;cases h
 |some cf=>
  rw[hi] at h;simp only[GO] at h;split at h
  .rename_i ps U h1;cases C:ye ps cf with
   |false=>rw[C] at h;cases h
   |true=>
    rw[C] at h;simp only[cond_true,aK,cq] at h;obtain⟨rfl,rfl⟩:=h;have nK:=Jc (Q:=QE .normal U) hp (tr:=[]) h1 (by simpa using IB C) ⟨rfl,rfl⟩;have J:=B3 (fun j=>ops.toList.getD j default) (fun j=>ps.getD j default) (aO c) ops.toList ps 0 [] (fun j o hj=>by simp at hj;simp[hj]) (fun j p hj=>by simp[hj]) rfl oS nK;simp only[Nat.zero_add,Array.length_toList] at J;obtain⟨k1,k2,k3⟩:=J;exact I1 jL hi aj (bO _) (fun j hj=>k1 j (Nat.zero_le _) hj) (fun _=>k2) (fun h=>absurd h (Nat.lt_irrefl _)) k3 hs (dC.refl (aO c) β w a)
  .cases hl:ym ops with
   |false=>rw[hl] at h;cases h
   |true=>
    rw[hl] at h;simp only[cond_true] at h;split at h
    .rename_i ps U h1;cases C:ye ps cf with
     |false=>rw[C] at h;cases h
     |true=>
      rw[C] at h;simp only[cond_true] at h;obtain⟨kA,hb⟩:=IL hl;have nK:=Jc (Q:=fun _ st=>st=aO U) hp (tr:=[]) h1 (by simpa using IB C) rfl;have hlen:(ops.toList.take (ops.size - 1)).length=ops.size - 1:=by simp
      have J:=B3 (fun j=>ops.toList.getD j default) (fun j=>ps.getD j default) (aO c) (ops.toList.take (ops.size - 1)) ps 0 [] (fun j o hj=>by
       have gN:j<ops.size - 1:=by rw[<- hlen];exact(bZ.1 hj).1
       rw[List.getElem?_take,if_pos gN] at hj
       simp at hj;simp[hj]) (fun j p hj=>by simp[hj]) rfl oS nK
      rw[hlen] at J;simp only[Nat.zero_add] at J;obtain⟨k1,k2,k3⟩:=J;refine I1 jL hi aj (nl:=ops.size - 1) oG (fun j hj=>k1 j (Nat.zero_le _) hj) (fun h=>by omega) (fun _=>⟨oG,hb,fun r n=>?_⟩) k3 hs (dC.refl (aO c) β w a);rw[k2];have kz:ops.size - 1<ops.size:=by omega
      have hx:ops[ops.size - 1]? =some (ops.toList.getD (ops.size - 1) default):=by simp[kz]
      have nI:ops.toList.drop (ops.size - 1)=[ops.toList.getD (ops.size - 1) default]:=by
       have zo:ops.size - 1<ops.toList.length:=by simp;omega
       rw[List.drop_eq_getElem_cons zo,List.drop_eq_nil_of_le oP];simp[List.getD,kz]
      rw[nI] at h;intro β1 w1 a1 dH M K hK;have fC:∀ t,(ops.toList.getD (ops.size - 1) default).dst=some t->t<a1.tmps.size:=fun t ht=>by rw[M.size];exact sb aj hx t ht
      simp only[rz] at h;split at h
      .rename_i c2 h2;simp only[aK,cq] at h;obtain⟨rfl,rfl⟩:=h;exact Al ht h2 (hh.step M.step) dH fC _ _ (fun _ β' a' w' X g2=>hK _ _ ⟨_,β',⟨rfl,rfl⟩,X,M.trans g2⟩) fun ch O=>by cases O
      .rename_i ch c2 h2;simp only[aK,cq] at h;obtain⟨rfl,rfl⟩:=h
       exact Al ht h2 (hh.step M.step) dH fC _ _ (fun O=>by cases O) fun Vs O β' w' X g2=>by
        cases O;exact⟨_,β',⟨rfl,rfl⟩,X,M.trans g2⟩
      .cases h
    .cases h
end
def q7(P:Program)(F:Nat->Prop)(rf:Bool)(N:Nat)(β:az)(w:World)(a:Act)(e:Exit)(s':bM)(e2:Exit)(a2:Act)(C:World):Prop:=CN P F N β w a (QE e s') e2 a2 C/\(rf=false->a2.defers=a.defers)
def rA(P:Program)(ev:Ev):Prop:=∀ (hd:Hd) (rf:Bool) (c:Code) (s:bM) (e:Exit) (s':bM),ev hd rf c s=some (e,s')->∀ (F:Nat->Prop) (r:Option Nat) (n:Nat) (β:az) (w:World) (a:Act),
 (rf=true->r=none)->mL P F hd β w->fv a.tmps.size c=true->bW P F (aO s) β w a->c.wpIn (Fe r) n P (q7 P F rf s.nx β w a e s') a w
def GS(P:Program)(gM:FuncId->Option (Func×Code)):Prop:=∀ f fn c,gM f=some (fn,c)->uB P f fn c
section
variable{P:Program}{F:Nat->Prop}{fn:Func}{x:Ctx}{ev:Ev}{hd:Hd}{c:bM}
theorem JA{t C:T D}{i:Nat}{d:D}(h:t.put i (some d)=some C):fc C=up (fc t) i d:=by
 funext j;simp only[fc,getD,T.J3 h,zY];by_cases hj:j=i<;>simp[hj]
theorem OX:∀ (ds:List D) (k:Nat) (t C:T D),vQ k ds t=some C->∀ j,fc C j=if k<=j/\j<k+ds.length then ds.getD (j - k) .u else fc t j
 |[],k,t,C,h,j=>by
  simp only[vQ,aK] at h;subst h;rw[if_neg (by simp only[List.length_nil];omega)]
 |d::ds,k,t,C,h,j=>by
  simp only[vQ] at h;split at h
  .rename_i J h1;rw[OX ds (k+1) J C h j,JA h1];simp only[List.length_cons,zY];by_cases hj:j=k
   .subst hj;rw[if_neg oG,if_pos rfl,if_pos ⟨bO _,oG⟩];simp
   .by_cases h2:k+1<=j/\j<k+1+ds.length
    .rw[if_pos h2,if_pos oG];have:j - k=(j - (k+1))+1:=by omega
     rw[this];simp
    .rw[if_neg h2,if_neg hj,if_neg oG]
  .cases h
theorem Jd{args:List D}{t:T D}(h:vQ 0 args .leaf=some t):fc t=kK args:=by
 funext j;rw[OX args 0 .leaf t h j];unfold kK;by_cases hj:j<args.length
 .rw[if_pos ⟨Nat.zero_le _,oG⟩];simp
 .rw[if_neg oG];simp only[fc,Abs.getD];have:(T.leaf:T D).get j=none:=by unfold T.get;exact xD _
  simp[this,hj]
theorem abm{r:ResultVar}{d:D}(h:Ml P c r=some d):∃ p:Prop,qk P (aO c) r=some (p,d)/\p:=by
 unfold Ml at h;split at h
 .cases h;exact⟨True,rfl,trivial⟩
 .rename_i a t;split at h
  .rename_i i off ha;split at h
   .rename_i cs e hm;cases hb:(aG P t&&iN (off+P.cellsOf t) cs) with
    |false=>rw[hb] at h;cases h
    |true=>
     rw[hb] at h;simp only[cond_true,aK] at h;simp only[ay,lO] at hb;refine⟨aG P t=true/\off+P.cellsOf t<=cs.length,?_,hb⟩;have C:(aO c).env a=.rp i off:=ha;have J:(aO c).mem i=some (.cells cs e):=hm;simp only[qk,C,J, <- h,Aa,oX]
   .cases h
  .rename_i cs ha;cases hb:(aG P t&&iN (P.cellsOf t) cs) with
   |false=>rw[hb] at h;cases h
   |true=>
    rw[hb] at h;simp only[cond_true,aK] at h;simp only[ay,lO] at hb;refine⟨aG P t=true/\P.cellsOf t<=cs.length,?_,hb⟩;have C:(aO c).env a=.pt cs:=ha;simp only[qk,C, <- h,Aa]
  .cases h
theorem FI{K:List D->Prop}:∀ (rs:List ResultVar) (ds C:List D),Ds P c rs=some ds->K (C++ds)->pr P (aO c) rs C K
 |[],ds,C,h,hk=>by
  simp only[Ds,aK] at h;subst h;simpa[pr] using hk
 |r::rs,ds,C,h,hk=>by
  simp only[Ds] at h;split at h
  .rename_i d hd;split at h
   .rename_i J h1;cases h;obtain⟨p,h2,M⟩:=abm hd;simp only[pr,h2];exact⟨M,FI rs J (C++[d]) h1 (by simpa using hk)⟩
   .cases h
  .cases h
theorem J5(jL:P.follows .mixedOrders=true)(U:GS P x.gM)(gu:rA P ev){f:FuncId}{args:List D}{m m':T Row}{nx aA:Nat}{y:D ⊕ List PanicEntry}(h:wy P x ev hd f args m nx=some (y,m',aA)):ZC P hd f args (aW m) nx y (aW m') aA:=by
 unfold wy at h;split at h
 .cases h
 .rename_i fn c hf;obtain⟨wX,hb,aj,he⟩:=U _ _ _ hf;refine⟨he,fun F β w vs hh hm fH hR=>?_⟩;cases hn:iN args.length (List.replicate fn.ntmps .u) with
  |false=>rw[hn] at h;cases h
  |true=>
   rw[hn] at h;have dN:args.length<=fn.ntmps:=by simpa[lO] using hn
   simp only[cond_true] at h;split at h
   .cases h
   .rename_i t ht;cases hx:ev hd true c ⟨t,m,nx⟩ with
    |none=>rw[hx] at h;cases h
    |some es=>
     obtain⟨e,s⟩:=es;rw[hx] at h;have zp:aO ⟨t,m,nx⟩=⟨kK args,aW m,nx⟩:=by rw[<- Jd ht];rfl
     refine Qb wX hb dN hm fH hR (fun a ha hs=>wpIn_mono (gu hd true c ⟨t,m,nx⟩ e s hx F none 0 β w a (fun _=>rfl) hh (by rw[ha];exact aj) (by rw[zp];exact hs)) fun _ _ _ h=>h.1) ?_;rintro e2 st' β' w' a' ⟨rfl,rfl⟩ hs M C O
     have J:qU P fn s=some (y,m',aA)->∃ v,(results fn a'.tmps).run P w'=.ok v w'/\Ends P F β w nx y (aW m') aA (.returned v) w':=fun h=>by
      unfold qU at h;split at h
      .rename_i ds X;simp only[aK,cq] at h;obtain⟨rfl,rfl,rfl⟩:=h;obtain⟨v,d,g1,rfl,g3⟩:=EP (fn:=fn) (K:=fun d=>d=rv ds) hs (FI _ ds [] X rfl);exact⟨v,g1,β',⟨v,rfl,g3⟩,hs.m,hs.n,M,C,O⟩
      .cases h
     cases e2 with
     |normal=>exact J h
     |ret=>exact J h
     |panic ch=>
      simp only[Gp,aK,cq] at h;obtain⟨rfl,rfl,rfl⟩:=h;exact⟨β',rfl,hs.m,hs.n,M,C,O⟩
     |_=>cases h
end
section
variable{P:Program}{F:Nat->Prop}{β β':az}{w w':World}{m:Mem}
theorem GU{O:az}{M:World}{i l:Nat}{L:Loop}{k:RS}(hm:aC P F m β w)(hi:m i=some (.lp k))(h1:O i=some (.lp l))(U:M.heap[l]? =some (.loop L))(hs:Step O M β w):
 β i=some (.lp l)/\∃ st pe,w.heap[l]? =some (.loop { L with state:=st,pending:=pe })/\RS.Is { L with state:=st,pending:=pe } k:=by
 obtain⟨p,hp,hr⟩:=hm.row i _ hi;cases hr with
 |lp _ r X hb hk=>
  have C:β i=some (.lp l):=by
   rcases hs.gq i _ h1 with h2|h2
   .exact h2
   .rw[h2] at hp;cases hp
  rw[C] at hp;cases hp;obtain⟨st,pe,J⟩:=hs.lp i l h1 C L U;rw[J] at hb;cases hb;exact⟨C,st,pe,J,hk⟩
theorem JB{i l:Nat}{L:Loop}{st:LoopState}{pe:Option Code}{r:Option Row}(hm:aC P F m β w)(C:β i=some (.lp l))(X:w.heap[l]? =some (.loop L))
 (hr:∀ r',r=some r'->∃ k,r'=.lp k/\RS.Is { L with state:=st,pending:=pe } k):
 aC P F (up m i r) β (w.putObj l (.loop { L with state:=st,pending:=pe }))/\Step β w β (w.putObj l (.loop { L with state:=st,pending:=pe }))/\(w.putObj l (.loop { L with state:=st,pending:=pe })).heap[l]? =some (.loop { L with state:=st,pending:=pe }):=by
 have aj:=hm.lt i _ l C rfl;have J:(w.putObj l (.loop { L with state:=st,pending:=pe })).heap[l]? =some (.loop { L with state:=st,pending:=pe }):=World.putObj_heap_same aj
 have hs:Step β w β (w.putObj l (.loop { L with state:=st,pending:=pe })):=⟨oS,fun b _ hf=>⟨World.putObj_heap_other fun e=>hf i _ C (by rw[e];rfl),hf⟩,fun _ _ h=>.inl h,⟨rfl,rfl⟩,fun j q _ _=>by
  by_cases hq:q=l
  .subst hq;intro L0 O;rw[X] at O;cases O;exact⟨st,pe,J⟩
  .exact nd (World.putObj_heap_other hq)⟩
 refine⟨⟨fun j r' hj=>?_,hm.inj,fun j p b hp hb=>by simpa using hm.lt j p b hp hb,hm.nf,hm.fb.next (fun b hb=>by simpa using hm.fb.lt b hb) (fun _ h=>h) fun t ht U=>World.putObj_heap_other fun e=>hm.nf i _ l C rfl (e▸U)⟩,hs,J⟩;by_cases M:j=i
 .subst M;rw[au] at hj;obtain⟨k,rfl,hk⟩:=hr r' hj;exact⟨_,C,.lp k l _ J hk⟩
 .rw[bE _ _ M] at hj;obtain⟨p,hp,aD⟩:=hm.row j r' hj;exact⟨p,hp,aD.step hs fun b hb=>World.putObj_heap_other fun e=>M (hm.inj j i p _ l hp C (by rw[hb,e]) rfl)⟩
theorem OB:∀ (ps:List Tmp) (ds:List D) (t C:T D),Ai t ps ds=some C->fc C=tZ (fc t) ps ds
 |[],ds,t,C,h=>by simp only[Ai,aK] at h;subst h;rfl
 |_::_,[],t,C,h=>by simp only[Ai,aK] at h;subst h;rfl
 |p::ps,d::ds,t,C,h=>by
  simp only[Ai] at h;split at h
  .rename_i J h1;rw[OB ps ds J C h,JA h1];rfl
  .cases h
theorem q7.trans{rf:Bool}{s J s':bM}{a a1 a':Act}{O:az}{M:World}{e C:Exit}(h:nJ s.nx β w a (aO J) O M a1)(hd:rf=false->a1.defers=a.defers)(k:q7 P F rf J.nx O M a1 e s' C a' w'):q7 P F rf s.nx β w a e s' C a' w':=by
 obtain⟨⟨st',β',h1,h2,U⟩,X⟩:=k;exact⟨⟨st',β',h1,h2,h.trans U⟩,fun e=>(X e).trans (hd e)⟩
structure o7(P:Program)(x:Ctx):Prop where
 mix:P.follows .mixedOrders=true
 gM:GS P x.gM
 known:∀ f args r,x.known f args=some r->ax P f args r
 CE:∀ f args m nx y m' aA,x.CE f args m nx=some (y,m',aA)->ZC P [] f args (aW m) nx y (aW m') aA
variable{x:Ctx}{ev:Ev}{hd:Hd}
theorem ZC.any{f:FuncId}{args:List D}{nx aA:Nat}{y:D ⊕ List PanicEntry}{m':Mem}(h:ZC P [] f args m nx y m' aA):ZC P hd f args m nx y m' aA:=
 ⟨h.1,fun F β w vs _=>h.2 F β w vs sf⟩
theorem ZV(hx:o7 P x)(gu:rA P ev){g:Operand}{ps:Array Tmp}{assign body:Code}{s s':bM}{e:Exit}{rf:Bool}(h:KK g ps assign body P x ev hd rf s=some (e,s')){r:Option Nat}{n:Nat}{a:Act}
 (fF:rf=true->r=none) (hh:mL P F hd β w) (aj:fv a.tmps.size (.rangeFunc g ps assign body)=true) (hs:bW P F (aO s) β w a):(Code.rangeFunc g ps assign body).wpIn (Fe r) n P (CN P F s.nx β w a (QE e s')) a w:=by
 unfold KK at h;cases rf with
 |false=>cases h
 |true=>
 have hr:=fF rfl;subst hr;simp only[cond_true] at h;split at h
 rotate_left
 .cases h
 rename_i f fs cs hv;split at h
 .cases h
 rename_i m0 jS;simp only[fv,ay,b7,Nat.blt_eq] at aj;obtain⟨nK,LX,LY⟩:=aj
 obtain⟨y,X,Bj,dc⟩:∃ y X Bj,wy P x ev ((s.nx,CF ev hd s.nx s.env ps.toList assign body)::hd) f (fs++[.yl s.nx]++cs) m0 (s.nx+1)=some (y,X,Bj):=by
  generalize wy P x ev ((s.nx,CF ev hd s.nx s.env ps.toList assign body)::hd) f (fs++[.yl s.nx]++cs) m0 (s.nx+1)=z at h;cases z with
  |none=>cases h
  |some z=>obtain⟨y,X,Bj⟩:=z;exact⟨_,_,_,rfl⟩
 rw[dc] at h;have hz:=J5 hx.mix hx.gM gu dc
 have hR:R F β w (.fn (.func f) fs cs) (a.eval g):=by
  rw[<- hv,Ad];exact hs.e.un.opd g
 refine wpIn_rangeFunc fun fn tg=>?_;obtain⟨L,O⟩:∃ L:Loop,L={ state:=.ready,pending:=none,fn,tmps:=a.tmps,params:=ps,assign,body,defers:=w.heap.size }:=⟨_,rfl⟩
 obtain⟨J,pC⟩:∃ J,(w.alloc (.deferred (some []))).alloc (.loop L)=J:=⟨_,rfl⟩
 obtain⟨l,hl⟩:∃ l,l=w.heap.size+1:=⟨_,rfl⟩
 obtain⟨us,vs,d,DP,qv,hu,y5,mI,hinv⟩:=Od (P:=P) hR hz.1 l J;have hn:∀ i,s.nx<=i->β i=none:=hs.n;have qw:Step β w β (w.alloc (.deferred (some []))):=xG oS fun b hb=>heap_alloc_old w _ hb;have Us:aC P F (aW s.mem) β (w.alloc (.deferred (some []))):=hs.m.ext oS fun b hb=>heap_alloc_old w _ hb;have AZ:∀ b,(Pl.lp l).bJ=some b->b=(w.alloc (.deferred (some []))).heap.size:=fun b hb=>by simp only[Pl.bJ,aK] at hb;simp;omega
 have Dv:J.heap[l]? =some (.loop L):=by
  rw[<- pC,hl];have:=World.alloc_heap_new (w.alloc (.deferred (some []))) (.loop L)
  rwa[World.size_alloc] at this
 have y4:aC P F (aW m0) (up β s.nx (some (.lp l))) J:=by
  rw[xJ jS, <- pC];refine Us.alloc (hn _ (bO _)) _ _ _ AZ (.lp _ l L ?_ ⟨by rw[O],by rw[O]⟩);rw[pC];exact Dv
 have dH:Step β w (up β s.nx (some (.lp l))) J:=by
  rw[<- pC];exact qw.trans (zM Us _ (hn _ (bO _)) _ AZ)
 have Bz:(up β s.nx (some (.lp l))) s.nx=some (.lp l):=au _ _ _
 have pH:∀ i,s.nx+1<=i->(up β s.nx (some (.lp l))) i=none:=fun i hi=>by
  rw[bE _ _ (show i≠s.nx by omega)];exact hn i oG
 have M1:J.heap[w.heap.size]? =some (.deferred (some [])):=by
  rw[<- pC,heap_alloc_old _ _ oS];exact World.alloc_heap_new w _
 have CD:az.free (up β s.nx (some (.lp l))) w.heap.size:=
  oW (fun i p hp e=>by have:=hs.m.lt i p _ hp e;omega) (by rintro q hq;cases hq;simp[Pl.bJ];omega)
 have LZ:J.heap.size=w.heap.size+2:=by rw[<- pC];simp
 have hh1:mL P F ((s.nx,CF ev hd s.nx s.env ps.toList assign body)::hd) (up β s.nx (some (.lp l))) J:=by
  intro i hf BA;simp only[Dq] at BA;by_cases hi:s.nx=i
  rotate_left
  .have:Nat.beq s.nx i=false:=by cases hb:Nat.beq s.nx i with|false=>rfl|true=>exact absurd (Nat.eq_of_beq_eq_true hb) hi
   rw[this] at BA;exact(hh.step dH) i hf BA
  .subst hi;rw[Nat.beq_refl] at BA;simp only[cond_true,aK] at BA;subst BA;refine⟨l,.inl Bz,fun args m nx b m' aA U C=>?_⟩;intro β2 w2 uM rq qA wM uN;unfold CF at C;cases hlen:Nat.beq args.length ps.toList.length with
   |false=>rw[hlen] at C;cases C
   |true=>
   rw[hlen] at C;have sO:args.length=ps.size:=by simpa using hlen
   simp only[cond_true] at C;split at C
   rotate_left
   .cases C
   rename_i t ht
   obtain⟨e3,M,Vu⟩:∃ e3 M,ev hd false assign ⟨t,m,nx⟩=some (e3,M):=by
    generalize ev hd false assign ⟨t,m,nx⟩=z at C;cases z with
    |none=>cases C
    |some z=>exact⟨z.1,z.2,rfl⟩
   rw[Vu] at C;obtain⟨hβ2,Nh,pe2,Ut,BB⟩:=GU qA (show aW m s.nx=some (.lp .ready) from U) Bz Dv rq
   have eL:({ L with state:=Nh,pending:=pe2 }:Loop)=L:=by
    obtain⟨k1,k2⟩:=BB;simp only at k1 k2;rw[O,k1,k2]
   rw[eL] at Ut;have L2:uM.size=ps.size:=by rw[uN.1];exact sO
   have hy:=run_yield (P:=P) (args:=uM) Ut (by rw[O];exact L2);simp only[O,O'] at hy;refine⟨fn,_,assign,body,hy,fun n'=>?_⟩;have TC:=dH.trans rq;have Vv:mL P F hd β2 w2:=hh.step TC;have DR:eZ F β2 w2 (fc s.env) { tmps:=a.tmps,defers:=[] }:=fun t=>(hs.e t).step TC;obtain⟨M4,Dl⟩:=IH ps.toList args uM.toList (fc s.env) a.tmps (by simp[uN.1]) (fun j d v hd hv=>uN.2 j d v hd (by simpa using hv)) (fun t ht=>nK t ht) DR
   have adj:bW P F (aO ⟨t,m,nx⟩) β2 w2 { tmps:=(ps.toList.zip uM.toList).foldl (fun tmps (t,a)=>tmps.setIfInBounds t a) a.tmps,defers:=[] }:=⟨by
    show eZ F β2 w2 (fc t) _
    rw[OB _ _ _ _ ht];exact M4,qA,wM⟩
   have L3:=gu hd false assign _ e3 M Vu F (some l) n' β2 w2 _ (fun h=>by cases h) Vv (by show fv (Array.size _) assign=true;rw[Dl];exact LX) adj;refine roundIn_of_wpIn trivial (wpIn_mono L3 fun e a3 w3 hp=>?_);obtain⟨⟨_,β3,⟨rfl,rfl⟩,jy,gg⟩,_⟩:=hp;unfold Su at C;split at C
   rotate_left
   .cases C
   rename_i s3' fR;cases fR;split at C
   rotate_left
   .cases C
   rename_i af2;split at C
   rotate_left
   .cases C
   rename_i m4 hm4;obtain⟨hβ3,jx,pe3,Mn,hk3⟩:=GU jy.m (show aW M.mem s.nx=some (.lp .ready) from af2) Bz Dv (rq.trans gg.step)
   have eL3:({ L with state:=jx,pending:=pe3 }:Loop)=L:=by
    obtain⟨k1,k2⟩:=hk3;simp only at k1 k2;rw[O,k1,k2]
   rw[eL3] at Mn;obtain⟨hmb,Mo,akS⟩:=JB (st:=.busy) (pe:=none) (r:=some (.lp .busy)) jy.m hβ3 Mn (fun r' gL=>⟨.busy,(Option.some.inj gL).symm,rfl,rfl⟩);have eLb:({ L with state:=.busy }:Loop)={ L with state:=.busy,pending:=none }:=by rw[O]
   refine⟨_,run_beginRound Mn (by rw[O]),?_⟩;rw[eLb]
   obtain⟨e5,s5,Vw⟩:∃ e5 s5,ev hd false body ⟨M.env,m4,M.nx⟩=some (e5,s5):=by
    generalize ev hd false body ⟨M.env,m4,M.nx⟩=z at C;cases z with
    |none=>cases C
    |some z=>exact⟨z.1,z.2,rfl⟩
   rw[Vw] at C
   have adk:bW P F (aO ⟨M.env,m4,M.nx⟩) β3 (w3.putObj l (.loop { L with state:=.busy,pending:=none })) a3:=⟨jy.e.step Mo,by
    show aC P F (aW m4) β3 _
    rw[xJ hm4];exact hmb,jy.n⟩
   have K8:=gu hd false body _ e5 s5 Vw F (some l) n' β3 _ a3 (fun h=>by cases h) ((Vv.step gg.step).step Mo) (by rw[gg.size];show fv (Array.size _) body=true;rw[Dl];exact LY) adk;refine wpIn_mono K8 fun e a5 w5 hp5=>?_;obtain⟨⟨_,β5,⟨rfl,rfl⟩,Eb,Nj⟩,_⟩:=hp5;have Uu:Step β2 w2 β5 w5:=(gg.step.trans Mo).trans Nj.step
   have fin:∀ (jump:Option Code) (bb:Bool) (k:RS),bb=jump.isNone->RS.Is { L with state:=if jump.isNone then .ready else .done,pending:=jump } k->CR s.nx bb k s5=some (b,m',aA)->
    ∃ v w',(Instr.endRound l jump).run P w5=.ok v w'/\∃ v' d m2 iC β',Ending.returned v=.returned v'/\(d=.s (.bool b)/\m2=aW m'/\iC=aA)/\aC P F m2 β' w'/\(∀ i,iC<=i->β' i=none)/\R F β' w' d v'/\Step β2 w2 β' w'/\nx<=iC/\∀ i,i<nx->β2 i=none->β' i=none:=fun jump bb k Hz hk uL=>by
    unfold CR at uL;split at uL
    rotate_left
    .cases uL
    rename_i af3;split at uL
    rotate_left
    .cases uL
    rename_i X rI;simp only[aK,cq] at uL;obtain⟨rfl,rfl,rfl⟩:=uL;obtain⟨hβ5,st5,pe5,Uv,hk5⟩:=GU Eb.m (show aW s5.mem s.nx=some (.lp .busy) from af3) Bz Dv (rq.trans Uu);obtain⟨Nk,Mp,akT⟩:=JB (st:=if jump.isNone then .ready else .done) (pe:=jump) (r:=some (.lp k)) Eb.m hβ5 Uv (fun r' gL=>⟨k,(Option.some.inj gL).symm,hk⟩);refine⟨_,_,run_endRound (P:=P) jump Uv,.bool jump.isNone,.s (.bool bb),aW X,s5.nx,β5,rfl,⟨rfl,rfl,rfl⟩,?_,Eb.n,?_,Uu.trans Mp,Nat.le_trans gg.le Nj.le,fun i hi hb=>Nj.grow i (Nat.lt_of_lt_of_le hi gg.le) (gg.grow i hi hb)⟩
    .rw[xJ rI];exact Nk
    .rw[Hz];exact .s _ rfl
   unfold Ss at C;cases e with
   |normal=>exact fin none true .ready rfl ⟨rfl,rfl⟩ C
   |ret=>exact fin (some .ret) false (.done .ret) rfl ⟨rfl,rfl⟩ C
   |exit id=>exact fin (some (.exit id)) false (.done (.exit id)) rfl ⟨rfl,rfl⟩ C
   |_=>cases C
 refine⟨l,[mark w.heap.size],J,d,J,f,_,J,?_,mI,fun f' _=>trivial,hinv,fun hd=>by simp at hd,Fk ?_⟩
 .rw[<- pC,O,hl];exact run_enterLoop_outer _ _ _ _ _
 refine(hz.2 F _ J _ hh1 y4 pH ?_).mono ?_
 .refine Rs.append (Rs.append ?_ ?_) ?_
  .exact⟨by simp[DP],fun k d v hd hv=>(hu k d v hd (by simpa using hv)).step dH⟩
  .refine⟨rfl,fun k d v hd hv=>?_⟩;cases k with
   |zero=>
    simp only[List.getElem?_cons_zero,aK] at hd;simp only[List.getElem?_toArray,List.getElem?_cons_zero,aK] at hv;subst hd;subst hv;exact .yl _ l Bz
   |succ k=>simp at hd
  .exact⟨by simp[qv],fun k d v hd hv2=>(y5 k d v hd (by simpa using hv2)).step dH⟩
 rintro e6 w6 ⟨β6,hy6,rI,Vb,mJ,Ug,L4⟩;cases y with
 |inr ch=>cases h
 |inl dy=>
 obtain⟨v6,rfl,_⟩:=hy6
 have fin:∀ (k:RS) (jump:Option Code) (e1:Exit),(∀ Lx:Loop,RS.Is Lx k->Lx.state≠ .busy/\Lx.pending=jump)->X.get s.nx=some (.lp k)->Dt s.nx s.env X Bj e1=some (e,s')->
  ∃ w7,(Instr.endLoop l).run P w6=.ok jump w7/\CN P F s.nx β w a (QE e s') e1 { a with defers:=[mark w.heap.size]++a.defers } w7:=fun k jump e1 hk U he=>by
  unfold Dt at he;split at he
  rotate_left
  .cases he
  rename_i m7 hm7;simp only[aK,cq] at he;obtain⟨rfl,rfl⟩:=he;obtain⟨hβ6,st6,Vx,Uw,hk6⟩:=GU rI (show aW X s.nx=some (.lp k) from U) Bz Dv mJ;obtain⟨hk7,Nl⟩:=hk _ hk6;have Nl:Vx=jump:=Nl;subst Nl;have dc:=run_endLoop (P:=P) Uw hk7;obtain⟨Nk,Mp,_⟩:=JB (st:=.exhausted) (pe:=Vx) (r:=none) rI hβ6 Uw (fun r' gL=>by cases gL);have Ux:=(dH.trans mJ).trans Mp;have hl6:w.heap.size<w6.heap.size:=by have:=mJ.size;omega
  refine⟨_,dc,_,β6,⟨rfl,rfl⟩,⟨fun t=>(hs.e t).step Ux,?_,Vb⟩,⟨Ux,Nat.le_trans (Nat.le_succ _) Ug,fun i hi hb=>L4 i (Nat.lt_succ_of_lt hi) ?_,rfl,[mark w.heap.size],rfl,w.heap.size,rfl,bO _,by simpa using hl6,?_,(mJ.ej _ oG CD).2,trivial⟩⟩
  .show aC P F (aW m7) β6 _;rw[xJ hm7];exact Nk
  .rw[bE _ _ (show i≠s.nx by omega)];exact hb
  .exact(World.putObj_heap_other oG).trans ((mJ.ej _ oG CD).1.trans M1)
 simp only[Sv] at h;split at h
 .rename_i U;obtain⟨w7,h1,h2⟩:=fin .ready none .normal (fun Lx hk=>⟨by rw[hk.1];simp,hk.2⟩) U h;exact⟨none,w7,h1,h2⟩
 .rename_i U;obtain⟨w7,h1,h2⟩:=fin (.done .ret) (some .ret) .ret (fun Lx hk=>⟨by rw[hk.1];simp,hk.2⟩) U h;exact⟨some .ret,w7,h1,wpIn_ret h2⟩
 .rename_i id U;obtain⟨w7,h1,h2⟩:=fin (.done (.exit id)) (some (.exit id)) (.exit id) (fun Lx hk=>⟨by rw[hk.1];simp,hk.2⟩) U h;exact⟨some (.exit id),w7,h1,wpIn_exit h2⟩
 .cases h
end
section
variable{P:Program}{F:Nat->Prop}{β:az}{w:World}
theorem qb:∀ {n:Nat} {d:D},nQ n d=true->Tr d
 |0,_,h=>by cases h
 |n+1,d,h=>by
  cases d with
  |rs=>cases h
  |rp=>cases h
  |mp=>cases h
  |sc=>cases h
  |yl=>cases h
  |cG c d=>exact .cG (qb h)
  |agg cs=>exact .agg fun d hd=>qb (b7.1 h d hd)
  |bp cs=>exact .bp fun d hd=>qb (b7.1 h d hd)
  |sl cs n=>exact .sl fun d hd=>qb (b7.1 h d hd)
  |pt cs=>exact .pt fun d hd=>qb (b7.1 h d hd)
  |fn f fs cs=>
   simp only[nQ,ay] at h;exact .fn (fun d hd=>qb (b7.1 h.1 d hd)) fun d hd=>qb (b7.1 h.2 d hd)
  |im es=>exact .im fun x hx=>qb (b7.1 h x hx)
  |s v=>exact .s v
  |ub=>exact .ub
  |u=>exact .u
  |z=>exact .z
theorem E2{α β:Type}{f:α->Option (β×List Nat)}:∀ {xs:List α} {ys:List β} {r:List Nat},ir f xs=some (ys,r)->
 ys.length=xs.length/\(∀ (k:Nat) (y:β),ys[k]? =some y->∃ x r',xs[k]? =some x/\f x=some (y,r')/\∀ i∈r',i∈r)
 |[],ys,r,h=>by simp only[ir,aK,cq] at h;obtain⟨rfl,rfl⟩:=h;simp
 |x::xs,ys,r,h=>by
  simp only[ir] at h;cases hx:f x with
  |none=>rw[hx] at h;cases h
  |some y=>
   rw[hx] at h;simp only at h;cases C:ir f xs with
   |none=>rw[C] at h;cases h
   |some J=>
    rw[C] at h;simp only[aK,cq] at h;obtain⟨rfl,rfl⟩:=h;obtain⟨h1,h2⟩:=E2 (ys:=J.1) (r:=J.2) C;refine⟨by simp[h1],fun k z hz=>?_⟩;cases k with
    |zero=>
     simp only[List.getElem?_cons_zero,aK] at hz;subst hz;exact⟨x,y.2,rfl,hx,fun i hi=>by simp[hi]⟩
    |succ k=>
     obtain⟨X,r',M,O,U⟩:=h2 k z (by simpa using hz);exact⟨X,r',by simpa using M,O,fun i hi=>by simp[U i hi]⟩
theorem qJ{α β:Type}{f:α->Option (β×List Nat)}{xs:List α}{ys:List β}{r:List Nat}(h:ir f xs=some (ys,r)){p:β->Prop}(hp:∀ x y r',f x=some (y,r')->p y):∀ y∈ys,p y:=fun y hy=>by
 obtain⟨k,hk⟩:=dY hy;obtain⟨x,r',_,h2,_⟩:=(E2 h).2 k y hk;exact hp x y r' h2
theorem FJ{m:T Row}:∀ {n:Nat} {d d':D} {r:List Nat},cR P m n d=some (d',r)->Tr d'
 |0,_,_,_,h=>by cases h
 |n+1,d,d',r,h=>by
  have ih:∀ x y r',cR P m n x=some (y,r')->Tr y:=fun x y r' h=>FJ h
  have C:∀ (x:Value×D) (y:Value×D) r',(cR P m n x.2).map (fun y=>((x.1,y.1),y.2))=some (y,r')->Tr y.2:=fun x y r' h=>by
   simp only[dm,cq] at h;obtain⟨z,hz,rfl,_⟩:=h;exact FJ (r:=z.2) hz
  cases d with
  |sc=>cases h
  |yl=>cases h
  |mp i=>
   simp only[cR] at h;split at h
   .simp only[dm,cq] at h;obtain⟨x,hx,rfl,_⟩:=h;exact .im (qJ (ys:=x.1) (r:=x.2) hx C)
   .cases h
  |im es=>
   simp only[cR,dm,cq] at h;obtain⟨x,hx,rfl,_⟩:=h;exact .im (qJ (ys:=x.1) (r:=x.2) hx C)
  |rs i off k=>
   simp only[cR] at h;split at h
   .simp only[dm,cq] at h;obtain⟨x,hx,rfl,_⟩:=h;exact .sl (qJ (ys:=x.1) (r:=x.2) hx ih)
   .cases h
  |rp i off=>
   simp only[cR] at h;split at h
   .simp only[dm,cq] at h;obtain⟨x,hx,rfl,_⟩:=h;exact .pt (qJ (ys:=x.1) (r:=x.2) hx ih)
   .cases h
  |cG c d=>
   cases c with
   |true=>
    simp only[cR,dm,cq] at h;obtain⟨x,hx,rfl,_⟩:=h;exact .cG (FJ (r:=x.2) hx)
   |false=>simp only[cR,aK,cq] at h;obtain⟨rfl,_⟩:=h;exact .cG .u
  |agg cs=>
   simp only[cR,dm,cq] at h;obtain⟨x,hx,rfl,_⟩:=h;exact .agg (qJ (ys:=x.1) (r:=x.2) hx ih)
  |bp cs=>
   simp only[cR,dm,cq] at h;obtain⟨x,hx,rfl,_⟩:=h;exact .bp (qJ (ys:=x.1) (r:=x.2) hx ih)
  |sl cs k=>
   simp only[cR,dm,cq] at h;obtain⟨x,hx,rfl,_⟩:=h;exact .sl (qJ (ys:=x.1) (r:=x.2) hx ih)
  |pt cs=>
   simp only[cR,dm,cq] at h;obtain⟨x,hx,rfl,_⟩:=h;exact .pt (qJ (ys:=x.1) (r:=x.2) hx ih)
  |fn f fs cs=>
   simp only[cR] at h;cases hx:ir (cR P m n) fs with
   |none=>rw[hx] at h;cases h
   |some x=>
    rw[hx] at h;simp only[dm,cq] at h;obtain⟨y,hy,rfl,_⟩:=h;exact .fn (qJ (ys:=x.1) (r:=x.2) hx ih) (qJ (ys:=y.1) (r:=y.2) hy ih)
  |s v=>simp only[cR,aK,cq] at h;obtain⟨rfl,_⟩:=h;exact .s v
  |ub=>simp only[cR,aK,cq] at h;obtain⟨rfl,_⟩:=h;exact .ub
  |u=>simp only[cR,aK,cq] at h;obtain⟨rfl,_⟩:=h;exact .u
  |z=>simp only[cR,aK,cq] at h;obtain⟨rfl,_⟩:=h;exact .z
def Looks(P:Program)(F:Nat->Prop)(β:az)(w:World)(m:T Row)(bx:List Nat):Prop:=∀ i∈bx,∀ r,m.get i=some r->∃ p,β i=some p/\cO P F β w r p/\∀ b,p.bJ=some b->¬ F b
theorem zK(b:Nat):gU.free b:=fun i p hp=>by cases hp
theorem CG{m:T Row}:∀ {n:Nat} {d d':D} {r:List Nat},cR P m n d=some (d',r)->Looks P F β w m r->∀ {v:Value},R F β w d v->R F gU w d' v
 |0,_,_,_,h,_,_,_=>by cases h
 |n+1,d,d',r,h,hl,v,hv=>by
  have many:∀ {xs ys:List D} {r':List Nat},ir (cR P m n) xs=some (ys,r')->(∀ i∈r',i∈r)->ys.length=xs.length/\∀ (k:Nat) (d:D) (u:Value),ys[k]? =some d->(∀ d0,xs[k]? =some d0->R F β w d0 u)->R F gU w d u:=fun h hr=>by
   obtain⟨h1,h2⟩:=E2 h;refine⟨h1,fun k d u hd hu=>?_⟩;obtain⟨x,U,C,J,O⟩:=h2 k d hd;exact CG J (fun i hi=>hl i (hr i (O i hi))) (hu x C)
  have look:∀ {i:Nat} {cs:List D} {e:TypeId},i∈r->m.get i=some (.cells cs e)->∃ p,β i=some p/\cO P F β w (.cells cs e) p/\∀ b,p.bJ=some b->¬ F b:=fun hi hm=>hl _ hi _ hm
  have Uy:∀ {es ys:List (Value×D)} {r':List Nat} {ms:Array MapEntry},ir (fun x=>(cR P m n x.2).map fun y=>((x.1,y.1),y.2)) es=some (ys,r')->(∀ i∈r',i∈r)->ms.size=es.length->(es.map (·.1)).Nodup->
   (∀ (k:Nat) (x:Value×D) (m:MapEntry),es[k]? =some x->ms[k]? =some m->m.key=x.1/\R F β w x.2 m.val)->
   ms.size=ys.length/\(ys.map (·.1)).Nodup/\(∀ (k:Nat) (x:Value×D) (m:MapEntry),ys[k]? =some x->ms[k]? =some m->m.key=x.1)/\∀ (k:Nat) (x:Value×D) (m:MapEntry),ys[k]? =some x->ms[k]? =some m->R F gU w x.2 m.val:=fun {es ys r' ms} h hr bK ef hh=>by
   obtain⟨h1,h2⟩:=E2 h
   have key:∀ (k:Nat) (y:Value×D),ys[k]? =some y->∃ x U,es[k]? =some x/\y.1=x.1/\cR P m n x.2=some (y.2,U)/\∀ i∈U,i∈r':=fun k y hy=>by
    obtain⟨x,U,C,J,O⟩:=h2 k y hy;simp only[dm,cq] at J;obtain⟨z,hz,rfl,rfl⟩:=J;exact⟨x,z.2,C,rfl,hz,O⟩
   have keys:ys.map (·.1)=es.map (·.1):=by
    refine List.ext_getElem? fun k=>?_;simp only[List.getElem?_map];cases hy:ys[k]? with
    |some y=>
     obtain⟨x,_,C,J,_⟩:=key k y hy;simp[C,J]
    |none=>
     have:es[k]? =none:=by
      rw[List.getElem?_eq_none_iff] at hy ⊢;omega
     simp[this]
   refine⟨by rw[h1];exact bK,by rw[keys];exact ef,fun k y mm hy fE=>?_,fun k y mm hy fE=>?_⟩
   .obtain⟨x,U,C,J,_⟩:=key k y hy;rw[J];exact(hh k x mm C fE).1
   .obtain⟨x,U,C,_,O,X⟩:=key k y hy;exact CG O (fun i hi=>hl i (hr i (X i hi))) (hh k x mm C fE).2
  cases d with
  |sc=>cases h
  |yl=>cases h
  |mp i=>
   simp only[cR] at h;split at h
   .rename_i es hm;simp only[dm,cq] at h;obtain⟨x,hx,rfl,rfl⟩:=h;obtain⟨p,hp,aD,uZ⟩:=hl i (List.mem_cons_self ..) _ hm;cases hv with
    |y6 _ _ h1 _=>rw[h1] at hp;cases hp;exact absurd rfl aD.live
    |mp _ b h1=>
     rw[h1] at hp;cases hp;cases aD with
     |map _ _ ms clock C J O X=>
      obtain⟨k1,k2,k3,k4⟩:=Uy (ys:=x.1) (r':=x.2) hx (fun i hi=>List.mem_cons_of_mem _ hi) J O X;exact .im x.1 b ms clock (uZ b rfl) (zK b) C k1 k2 k3 k4
   .cases h
  |im es=>
   simp only[cR,dm,cq] at h;obtain⟨x,hx,rfl,rfl⟩:=h;cases hv with
   |im _ b ms clock hf hb hc J O X g5=>
    obtain⟨k1,k2,k3,k4⟩:=Uy (ys:=x.1) (r':=x.2) hx (fun _ h=>h) J O (fun k x m hx hm=>⟨X k x m hx hm,g5 k x m hx hm⟩);exact .im x.1 b ms clock hf (zK b) hc k1 k2 k3 k4
  |rs i off k=>
   simp only[cR] at h;split at h
   .rename_i cs e hm;simp only[dm,cq] at h;obtain⟨x,hx,rfl,rfl⟩:=h;obtain⟨p,hp,aD,uZ⟩:=look (List.mem_cons_self ..) hm;obtain⟨C,J⟩:=many (ys:=x.1) (r':=x.2) hx (fun i hi=>List.mem_cons_of_mem _ hi)
    have nil:(cs.drop off).take (k*P.cellsOf e)=[]->x.1=[]:=fun e=>by
     rw[e] at C;exact List.eq_nil_of_length_eq_zero (by simpa using C)
    cases hv with
    |lG _ _ _ _ h1 _=>
     rw[h1] at hp;cases hp;exact absurd rfl aD.live
    |jR _ a h1=>
     rw[h1] at hp;cases hp;cases aD;rw[nil oS];exact .iz a 0
    |kX _ _ a b o len room sz h1=>
     rw[nil oS];exact .iz a 0
    |rs _ _ _ cap b o len room sz h1 hn dt h2 h3=>
     rw[h1] at hp;cases hp;obtain⟨bU,hl,bK,_⟩:=aD.rd;obtain⟨us,u1,u2⟩:=(bU.drop off).take (k*P.cellsOf e)
     have aj:b<w.heap.size:=by
      cases aD with
      |cells _ _ _ _ _ _ c hb=>exact(Array.getElem?_eq_some_iff.1 hb).1
     exact .sl x.1 k b (o+off) cap us (uZ b rfl) (zK b) aj hn dt (fun j hj=>u1 j (by rw[<- C];exact hj)) fun j d hd=>J j d _ hd fun d0 M=>u2 j d0 M
   .cases h
  |rp i off=>
   simp only[cR] at h;split at h
   .rename_i cs e hm;simp only[dm,cq] at h;obtain⟨x,hx,rfl,rfl⟩:=h;obtain⟨p,hp,aD,uZ⟩:=look (List.mem_cons_self ..) hm;obtain⟨C,J⟩:=many (ys:=x.1) (r':=x.2) hx (fun i hi=>List.mem_cons_of_mem _ hi);cases hv with
    |rH _ _ _ h1 _=>
     rw[h1] at hp;cases hp;exact absurd rfl aD.live
    |rp _ _ b o len room sz h1=>
     rw[h1] at hp;cases hp;obtain⟨bU,hl,bK,_⟩:=aD.rd;obtain⟨us,u1,u2⟩:=bU.drop off
     have aj:b<w.heap.size:=by
      cases aD with
      |cells _ _ _ _ _ _ c hb=>exact(Array.getElem?_eq_some_iff.1 hb).1
     exact .pt x.1 b (o+off) us (uZ b rfl) (zK b) aj (fun j hj=>u1 j (by rw[<- C];exact hj)) fun j d hd=>J j d _ hd fun d0 M=>u2 j d0 M
   .cases h
  |cG c d=>
   cases hv with
   |cG _ _ _ h1 h2=>
   cases c with
   |true=>
    simp only[cR,dm,cq] at h;obtain⟨x,hx,rfl,rfl⟩:=h;exact .cG true _ v (fun _=>CG (r:=x.2) hx hl (h1 rfl)) oS
   |false=>simp only[cR,aK,cq] at h;obtain⟨rfl,_⟩:=h;exact .cG false _ v oS h2
  |agg cs=>
   simp only[cR,dm,cq] at h;obtain⟨x,hx,rfl,rfl⟩:=h;obtain⟨vs,rfl,qv,hh⟩:=hv.qM;obtain⟨C,J⟩:=many (ys:=x.1) (r':=x.2) hx (fun _ h=>h);exact .agg _ vs (by rw[C];exact qv) fun k d u hd hu=>J k d u hd fun d0 M=>hh k d0 u M hu
  |bp cs=>
   simp only[cR,dm,cq] at h;obtain⟨x,hx,rfl,rfl⟩:=h;obtain⟨vs,rfl,qv,hh⟩:=hv.Ag;obtain⟨C,J⟩:=many (ys:=x.1) (r':=x.2) hx (fun _ h=>h);exact .bp _ vs (by rw[C];exact qv) fun k d u hd hu=>J k d u hd fun d0 M=>hh k d0 u M hu
  |sl cs k=>
   simp only[cR,dm,cq] at h;obtain⟨x,hx,rfl,rfl⟩:=h;obtain⟨C,J⟩:=many (ys:=x.1) (r':=x.2) hx (fun _ h=>h);cases hv with
   |iz a cap=>
    have:x.1=[]:=List.eq_nil_of_length_eq_zero (by simpa using C);rw[this];exact .iz a cap
   |sl _ _ b o cap us hf hb aj ow dt hc hh=>
    exact .sl _ k b o cap us hf (zK b) aj ow dt (fun j hj=>hc j (by rw[<- C];exact hj)) fun j d hd=>J j d _ hd fun d0 M=>hh j d0 M
  |pt cs=>
   simp only[cR,dm,cq] at h;obtain⟨x,hx,rfl,rfl⟩:=h;obtain⟨C,J⟩:=many (ys:=x.1) (r':=x.2) hx (fun _ h=>h);cases hv with
   |pt _ b o us hf hb aj hc hh=>
    exact .pt _ b o us hf (zK b) aj (fun j hj=>hc j (by rw[<- C];exact hj)) fun j d hd=>J j d _ hd fun d0 M=>hh j d0 M
  |fn f fs cs=>
   simp only[cR] at h;cases hx:ir (cR P m n) fs with
   |none=>rw[hx] at h;cases h
   |some x=>
    rw[hx] at h;simp only[dm,cq] at h;obtain⟨y,hy,rfl,rfl⟩:=h;obtain⟨C,J⟩:=many (ys:=x.1) (r':=x.2) hx (fun _ h=>List.mem_append_left _ h);obtain⟨k1,k2⟩:=many (ys:=y.1) (r':=y.2) hy (fun _ h=>List.mem_append_right _ h);cases hv with
    |fn _ _ _ us vs DP qv h1 h2=>
     exact .fn f _ _ us vs (by rw[C];exact DP) (by rw[k1];exact qv) (fun k d u hd hu=>J k d u hd fun d0 M=>h1 k d0 u M hu) fun k d u hd hu=>k2 k d u hd fun d0 M=>h2 k d0 u M hu
  |s v=>simp only[cR,aK,cq] at h;obtain⟨rfl,_⟩:=h;obtain⟨rfl,h⟩:=hv.cJ;exact .s _ h
  |ub=>simp only[cR,aK,cq] at h;obtain⟨rfl,_⟩:=h;obtain⟨b,rfl⟩:=hv.Cy;exact .ub b
  |u=>simp only[cR,aK,cq] at h;obtain⟨rfl,_⟩:=h;exact .u v
  |z=>simp only[cR,aK,cq] at h;obtain⟨rfl,_⟩:=h;rw[hv.yM];exact .z
theorem IC{m:T Row}{n:Nat}{bx:List Nat}:∀ {aS bs:List D} {r:List Nat},ir (cR P m n) aS=some (bs,r)->(∀ i∈r,i∈bx)->nH P bx (aW m) aS bs
 |[],bs,r,h,_=>by
  simp only[ir,aK,cq] at h;obtain⟨rfl,_⟩:=h;trivial
 |a::aS,bs,r,h,hr=>by
  simp only[ir] at h;split at h
  .cases h
  .rename_i y hy;split at h
   .cases h
   .rename_i ys C;simp only[aK,cq] at h;obtain⟨rfl,rfl⟩:=h;exact⟨fun F β w v hl hv=>CG (r:=y.2) hy (fun i hi=>hl i (hr i (List.mem_append_left _ hi))) hv,IC (r:=ys.2) C fun i hi=>hr i (List.mem_append_right _ hi)⟩
theorem Po:aW .leaf=fun _=>none:=by funext j;exact xD _
theorem ZW{f:FuncId}{args:List D}{d r:D}{m':T Row}{n aA:Nat}{bx:List Nat}(hz:ZC P [] f args (aW .leaf) 0 (.inl d) (aW m') aA)(ht:∀ a∈args,Tr a)(hd:cR P m' n d=some (r,bx)):ax P f args r:=
 ⟨hz.1,ht,fun F w vs C hR=>(hz.2 F gU w vs sf (Po▸EY C) (fun _ _=>rfl) hR).mono fun e w' ⟨β',⟨v,he,hv⟩,hm,hn,bt,_⟩=>
  ⟨v,he,CG hd (fun i hi r hr=>by obtain⟨p,hp,aD⟩:=hm.row i r hr;exact⟨p,hp,aD,fun b hb=>hm.nf i p b hp hb⟩) hv,It bt⟩⟩
variable{x:Ctx}{ev:Ev}
def KO(P:Program)(f:FuncId)(args:List D):D ⊕ (List D×Nat×TypeId)->Prop
 | .inl r=>ax P f args r
 | .inr (es,k,t)=>qY P f args es k t
theorem Qn{f:FuncId}{args:List D}{M:D ⊕ List PanicEntry}{m':T Row}{aA:Nat}{y:D ⊕ (List D×Nat×TypeId)}(h:wg P (some (M,m',aA))=some y)(hz:ZC P [] f args (aW .leaf) 0 M (aW m') aA)(ht:∀ a∈args,Tr a):KO P f args y:=by
 cases M with
 |inr ch=>cases h
 |inl d=>
  have deep:∀ {d},GP P m' d=some y->ZC P [] f args (aW .leaf) 0 (.inl d) (aW m') aA->KO P f args y:=fun {d} hd hz=>by
   unfold GP at hd;split at hd
   .rename_i r bx cK;cases hd;exact ZW hz ht cK
   .cases hd
  unfold wg at h;split at h
  .rename_i i k m2 X J;cases J;split at h
   .rename_i es t U;cases C:es.all (nQ depth) with
    |false=>rw[C] at h;exact deep h hz
    |true=>
     rw[C] at h;cases h;exact Qc hz.1 ht (fun a ha=>qb (b7.1 C a ha)) fun F w vs O hR=>(hz.2 F gU w vs sf (Po▸EY O) (fun _ _=>rfl) hR).mono fun e w' ⟨β',⟨v,he,hv⟩,hm,hn,bt,_⟩=>⟨v,i,_,β',he,U,hv,hm,bt⟩
   .cases h
  .rename_i J;cases J;exact deep h hz
  .cases h
theorem JC(hx:o7 P x)(C:rA P ev){f:FuncId}{args:List D}{y:D ⊕ (List D×Nat×TypeId)}(h:uq P x ev f args=some y)(ht:∀ a∈args,Tr a):KO P f args y:=by
 unfold uq at h;cases hr:wy P x ev [] f args .leaf 0 with
 |none=>rw[hr] at h;cases h
 |some z=>
  obtain⟨J,m',aA⟩:=z;rw[hr] at h;exact Qn h (J5 hx.mix hx.gM C hr) ht
theorem Qo:∀ {n:Nat} {d:D},AU n d=true->K3 d
 |0,d,h=>by cases h
 |n+1,d,h=>fun F F' β β' w w' v hv=>by
  have many:∀ {cs:List D},cs.all (AU n)=true->∀ {vs:List Value},(∀ (k:Nat) (d:D) (u:Value),cs[k]? =some d->vs[k]? =some u->R F β w d u)->∀ (k:Nat) (d:D) (u:Value),cs[k]? =some d->vs[k]? =some u->R F' β' w' d u:=
   fun hc _ hh k d u hd hu=>Qo (b7.1 hc d (cX hd)) F F' β β' w w' u (hh k d u hd hu)
  unfold AU at h;split at h
  .rw[hv.cJ.1];exact .s _ hv.cJ.2
  .obtain⟨b,rfl⟩:=hv.Cy;exact .ub b
  .rw[hv.yM];exact .z
  .obtain⟨vs,rfl,hl,hh⟩:=hv.qM;exact .agg _ vs hl (many h hh)
  .obtain⟨vs,rfl,hl,hh⟩:=hv.Ag;exact .bp _ vs hl (many h hh)
  .cases h
theorem Ci{hd:Hd}(hx:o7 P x)(U:rA P ev):tU P hd (yv P x ev hd):=fun f args m nx y m' aA h=>by
 unfold yv at h;split at h
 .rename_i r hr;cases h;have hp:=hx.known _ _ _ hr;exact⟨hp.1,fun F β w vs _ hm C hR=>(O6 hm hp hR).mono fun e w' ⟨v,h1,h2,J,M⟩=>⟨β,⟨v,h1,h2⟩,J,C,M,bO _,fun _ _ h=>h⟩⟩
 .split at h
  .rename_i r hr;cases h;exact(hx.CE _ _ _ _ _ _ _ hr).any
  .split at h
   .rename_i r hr;cases h;cases hi:zn f x.deep with
    |false=>rw[hi] at hr;cases hr
    |true=>
    rw[hi] at hr;simp only[cond_true] at hr;unfold Ty at hr;split at hr
    rotate_left
    .cases hr
    rename_i X bx O;split at hr
    rotate_left
    .cases hr
    rename_i r' hk;cases hn:AU depth r' with
    |false=>rw[hn] at hr;cases hr
    |true=>
     rw[hn] at hr;cases hr;have hp:=hx.known _ _ _ hk;exact⟨hp.1,fun F β w vs _ hm C hR=>(O7 hm (IC O fun _ h=>h) (fun _ _ _=>rfl) hp (Qo hn) hR).mono fun e w' ⟨v,h1,h2,J,M⟩=>⟨β,⟨v,h1,h2⟩,J,C,M,bO _,fun _ _ h=>h⟩⟩
   .exact J5 hx.mix hx.gM U h
theorem JD(hx:o7 P x)(U:rA P ev):xO P (CQ P x ev):=fun f args m nx p h o st hg hm hn ha hc=>by
 have J:fP #[] o st true:=xB hg
 have X:∀ r,ax P f args r->p=⟨r,[],[],0⟩->p.Ok P #[] o st/\∀ i∈p.wr,st.mem i≠none\/(nx<=i/\i<nx+p.new):=fun r hr hp=>by
  subst hp;exact⟨J1 J ha hc hr,by simp[bf.wr]⟩
 unfold CQ at h;split at h
 .rename_i r hr;cases h;exact X r (hx.known _ _ _ hr) rfl
 .cases C:args.all (nQ depth) with
  |true=>
   rw[C] at h;simp only[cond_true] at h;have ht:∀ a∈args,Tr a:=fun a ha=>qb (b7.1 C a ha);cases hp:uq P x ev f args with
   |none=>rw[hp] at h;cases h
   |some y=>
    rw[hp] at h;have h1:=JC hx U hp ht;cases y with
    |inl r=>cases h;exact X r h1 rfl
    |inr y=>
     obtain⟨es,k,t⟩:=y;cases h;subst hn;exact⟨Se J ha hc h1,by simp[bf.wr]⟩
  |false=>
   rw[C] at h;simp only[cond_false] at h;split at h
   .cases h
   .rename_i M bx O;have tf:nH P bx st.mem args M:=by rw[hm];exact IC O fun _ h=>h
    have snap:∀ r,ax P f M r->GQ bx (some (.inl r))=some p->p.Ok P #[] o st/\∀ i∈p.wr,st.mem i≠none\/(nx<=i/\i<nx+p.new):=fun r hr hp=>by
     simp only[GQ] at hp;cases hs:r.jK with
     |false=>rw[hs] at hp;cases hp
     |true=>
      rw[hs] at hp;cases hp;exact⟨Rh J ha hc tf hr hs,by simp[bf.wr]⟩
    split at h
    .rename_i r hr;exact snap r (hx.known _ _ _ hr) h
    .cases hp:uq P x ev f M with
     |none=>rw[hp] at h;cases h
     |some y=>
      rw[hp] at h;cases y with
      |inl r=>exact snap r (JC hx U hp (qJ O fun x y r' h=>FJ h)) h
      |inr y=>cases h
theorem Sy(hx:o7 P x):∀ n,rA P (jW P x n):=by
 intro n
 induction n using Nat.strongRecOn with
 |_ n ih=>
 cases n with
 |zero=>intro hd rf c s e s' h;cases h
 |succ n=>
  have hn:=ih n (Nat.lt_succ_self n);intro hd rf c s e s' h F r k β w a fF hh aj hs;replace h:codeF c P x (jW P x n) hd rf s=some (e,s'):=h
  have self:∀ {e0},some (e0,s)=some (e,s')->q7 P F rf s.nx β w a e s' e0 a w:=fun {e0} h=>by
   cases h;exact⟨⟨_,β,⟨rfl,rfl⟩,hs,(dC.refl (aO s) β w a).wH⟩,fun _=>rfl⟩
  have andThen:∀ {O c2:Code} {Q:Exit->Act->World->Prop},fv a.tmps.size O=true->GR (jW P x n) hd rf c2 (jW P x n hd rf O s)=some (e,s')->(∀ J C a1 M U,jW P x n hd rf O s=some (J,C)->bW P F (aO C) U M a1->nJ s.nx β w a (aO C) U M a1->(rf=false->a1.defers=a.defers)->
   (J=.normal->jW P x n hd rf c2 C=some (e,s')->Q .normal a1 M)/\(J≠ .normal->J=e->C=s'->Q J a1 M))->O.wpIn (Fe r) k P Q a w:=fun {O c2 Q} hl ht hk=>by
   cases h1:jW P x n hd rf O s with
   |none=>rw[h1] at ht;cases ht
   |some es=>
    obtain⟨J,C⟩:=es;rw[h1] at ht;refine wpIn_mono (hn hd rf O s J C h1 F r k β w a fF hh hl hs) fun e2 a2 w2 hp=>?_;obtain⟨⟨_,β2,⟨rfl,rfl⟩,iE,iR⟩,fq⟩:=hp;have:=hk e2 C a2 w2 β2 h1 iE iR fq;cases e2 with
    |normal=>exact this.1 rfl ht
    |_=>cases ht;exact this.2 oS rfl rfl
  cases c with
  |skip=>exact wpIn_skip (self h)
  |ret=>exact wpIn_ret (self h)
  |exit id=>exact wpIn_exit (self h)
  |label l=>exact wpIn_label (self h)
  |region id ops dr=>
   have hl:lA a.tmps.size ops=true:=aj;refine wpIn_mono (Q:=dd P F s.nx β w a (QE e s')) ?_ fun J a1 M ⟨st',β',h1,h2,h3⟩=>⟨⟨st',β',h1,h2,h3.wH⟩,fun _=>h3.defers⟩
   cases dr with
   |false=>
    refine wpIn_region ?_;exact ZU (Ci hx hn) hh hl h hs (dC.refl (aO s) β w a)
   |true=>exact Qm hx.mix (Ci hx hn) (JD hx hn) hl h hh hs
  |seq O c2=>
   simp only[fv,ay] at aj;refine wpIn_seq (andThen aj.1 h fun J C a1 M U _ dH X cK=>⟨fun he h2=>?_,fun he h2 h3=>?_⟩)
   .refine wpIn_mono (hn hd rf c2 C e s' h2 F r k U M a1 fF (hh.step X.step) (by rw[X.size];exact aj.2) dH) fun e2 a2 w2 hp=>q7.trans X cK hp
   .subst h2;subst h3;have hq:q7 P F rf s.nx β w a J C J a1 M:=⟨⟨_,U,⟨rfl,rfl⟩,dH,X⟩,cK⟩
    cases J with
    |normal=>exact absurd rfl he
    |_=>exact hq
  |loop b=>
   refine Oc (fun j a1 M=>∃ C U,j<=n+1/\jW P x j hd rf (.loop b) C=some (e,s')/\bW P F (aO C) U M a1/\nJ s.nx β w a (aO C) U M a1/\(rf=false->a1.defers=a.defers)) (j₀:=n+1) ⟨s,β,bO _,h,hs,(dC.refl (aO s) β w a).wH,fun _=>rfl⟩ ?_;rintro j a1 M ⟨C,U,hj,h1,dH,X,cK⟩;cases j with
   |zero=>cases h1
   |succ j=>
    replace h1:GR (jW P x j) hd rf (.loop b) (jW P x j hd rf b C)=some (e,s'):=h1;cases h2:jW P x j hd rf b C with
    |none=>rw[h2] at h1;cases h1
    |some es=>
     obtain⟨e2,s2⟩:=es;rw[h2] at h1;refine wpIn_mono (ih j oG hd rf b C e2 s2 h2 F r k U M a1 fF (hh.step X.step) (by rw[X.size];exact aj) dH) fun e3 a3 w3 hp=>?_;obtain⟨⟨_,β3,⟨rfl,rfl⟩,jy,gg⟩,wY⟩:=hp;cases e3 with
     |normal=>exact⟨j,Nat.lt_succ_self j,s2,β3,oG,h1,jy,X.trans gg,fun e=>(wY e).trans (cK e)⟩
     |_=>cases h1;exact⟨⟨_,β3,⟨rfl,rfl⟩,jy,X.trans gg⟩,fun e=>(wY e).trans (cK e)⟩
  |cond c O c2=>
   simp only[fv,ay] at aj
   replace h:(match agX s.env c with
    | .s (.bool true)=>jW P x n hd rf O s
    | .s (.bool false)=>jW P x n hd rf c2 s
    |_=>none)=some (e,s'):=h
   have hR:R F β w (agX s.env c) (a.eval c):=by rw[Ad];exact hs.e.un.opd c
   split at h
   .rename_i hv;rw[hv] at hR;exact wpIn_cond_split hR.cJ.1 (fun _=>hn hd rf O s e s' h F r k β w a fF hh aj.1 hs) fun h=>by cases h
   .rename_i hv;rw[hv] at hR;exact wpIn_cond_split hR.cJ.1 (fun h=>by cases h) fun _=>hn hd rf c2 s e s' h F r k β w a fF hh aj.2 hs
   .cases h
  |scope b=>
   replace h:Ur (jW P x n hd rf b s)=some (e,s'):=h;cases h1:jW P x n hd rf b s with
   |none=>rw[h1] at h;cases h
   |some es=>
    obtain⟨J,C⟩:=es;rw[h1] at h;refine OJ (wpIn_mono (hn hd rf b s J C h1 F r k β w a fF hh aj hs) fun e2 a2 w2 hp=>?_);obtain⟨⟨_,β2,⟨rfl,rfl⟩,iE,iR⟩,fq⟩:=hp;cases e2 with
    |goto l=>cases h
    |_=>cases h;exact⟨⟨_,β2,⟨rfl,rfl⟩,iE,iR⟩,fq⟩
  |block id b=>
   replace h:Lr id (jW P x n hd rf b s)=some (e,s'):=h;cases h1:jW P x n hd rf b s with
   |none=>rw[h1] at h;cases h
   |some es=>
    obtain⟨J,C⟩:=es;rw[h1] at h;refine wpIn_block (wpIn_mono (hn hd rf b s J C h1 F r k β w a fF hh aj hs) fun e2 a2 w2 hp=>?_);obtain⟨⟨_,β2,⟨rfl,rfl⟩,iE,iR⟩,fq⟩:=hp;cases e2 with
    |exit i=>
     simp only[Lr] at h;simp only[Exit.inBlock];by_cases hi:i=id
     .rw[if_pos hi];subst hi;rw[Nat.beq_refl] at h;cases h;exact⟨⟨_,β2,⟨rfl,rfl⟩,iE,iR⟩,fq⟩
     .rw[if_neg hi];have:Nat.beq i id=false:=by cases hb:Nat.beq i id with|false=>rfl|true=>exact absurd (Nat.eq_of_beq_eq_true hb) hi
      rw[this] at h;cases h;exact⟨⟨_,β2,⟨rfl,rfl⟩,iE,iR⟩,fq⟩
    |_=>cases h;exact⟨⟨_,β2,⟨rfl,rfl⟩,iE,iR⟩,fq⟩
  |rangeFunc g ps assign body=>
   refine wpIn_mono (ZV hx hn h fF hh aj hs) fun _ _ _ hp=>⟨hp,fun e=>?_⟩
   subst e;cases h
  |_=>cases h
theorem mX(hx:o7 P x)(n:Nat){f:FuncId}{args:List D}{r:D}(h:uq P x (jW P x n) f args=some (.inl r))(ht:args.all (nQ depth)=true):ax P f args r:=
 JC hx (Sy hx n) h fun a ha=>qb (b7.1 ht a ha)
end
section
variable{P:Program}{ops:Array Oper}{Q:Exit->St->Prop}{F:Nat->Prop}{N₀:Nat}{β₀:az}{w₀:World}{a₀:Act}
def bf.Ec(P:Program)(ops:Array Oper)(o:Oper)(st:St)(p:bf):Prop:=
 ∀ (F:Nat->Prop) (β:az) (w:World) (a:Act) (env:Env),(∀ t∈o.looksAt ops,env t=st.env t)->eZ F β w env a->aC P F st.mem β w->(∀ i,st.nx<=i->β i=none)->
  ∀ (r:Option Nat) (n:Nat) (QX:Exit->Act->World->Prop) (K:Act->World->Prop),
   (∀ v w' β',R F β' w' p.val v->aC P F (cu st.mem p.aT) β' w'->Step β w β' w'->(∀ i,β i=none->(i<st.nx\/st.nx+p.new<=i)->β' i=none)->K (a.put o.dst v) w')->
   gV r n P ops QX o K a w
def FL(F:Nat->Prop)(C:Option Nat):Nat->Prop:=fun x=>F x\/some x=C
def Lt(P:Program)(F:Nat->Prop)(t:Nat)(ty:TypeId)(w₀ w:World)(a:Act)(C:Option Nat):Prop:=∀ b,C=some b->w₀.heap.size<=b/\¬ F b/\b<w.heap.size/\a.tmps.getD t undef=.pointer (some ⟨b,0,none⟩)/\
 ∃ z:Value,aZ P ty=z.cells.toList.map jM/\(∀ u∈z.cells.toList,(jM u).one=true)/\w.heap[b]? =some (.cells z.cells ty (0,0))
theorem abn{m:Mem}{β:az}{w:World}{env:Env}{a:Act}(he:eZ F β w env a)(hm:aC P F m β w):eZ (FL F none) β w env a/\aC P (FL F none) m β w:=by
 have h:∀ b,FL F none b->F b:=fun b hb=>hb.elim id fun e=>by cases e
 exact⟨fun t=>(he t).qi h,hm.qi h fun t ht=>.inl (hm.fb.gM t ht).1⟩
theorem ZX{m:Mem}{β:az}{w:World}{nx b:Nat}{ty:TypeId}{z:Value}(hm:aC P (FL F (some b)) m β w)(hF:FB F w)(hn:β nx=none)(U:¬ F b)(aj:b<w.heap.size)(hz:aZ P ty=z.cells.toList.map jM)(h1:∀ u∈z.cells.toList,(jM u).one=true)(hb:w.heap[b]? =some (.cells z.cells ty (0,0))):
 ∃ p,aC P F (up m nx (some (.cells (aZ P ty) ty))) (up β nx (some p)) w/\R F (up β nx (some p)) w (.rp nx 0) (.pointer (some ⟨b,0,none⟩))/\p.bJ=some b/\∀ {d:D} {v:Value},R (FL F (some b)) β w d v->R F (up β nx (some p)) w d v:=by
 obtain⟨p,hp⟩:∃ p,p=Pl.cells b 0 (aZ P ty).length (aZ P ty).length (P.cellsOf ty):=⟨_,rfl⟩
 have M:p.bJ=some b:=by rw[hp];rfl
 have nB:∀ C,C<w.heap.size->¬ FL F (some b) C->β.free C->mC w w C/\az.free (up β nx (some p)) C/\¬ F C:=fun C _ hf jl=>⟨mC.refl w C,oW jl (fun q hq e=>by cases hq;rw[M] at e;cases e;exact hf (.inr rfl)),fun e=>hf (.inl e)⟩
 have jn:∀ i q,(∀ r,q≠ .raw r)->β i=some q->(up β nx (some p)) i=some q\/(up β nx (some p)) i=some .dead:=fun i q _ hq=>.inl (by rw[bE _ _ (fun e=>by rw[e,hn] at hq;cases hq)];exact hq);have lift:∀ {d:D} {v:Value},R (FL F (some b)) β w d v->R F (up β nx (some p)) w d v:=fun h=>h.gen (bO _) nB jn;have zq:∀ i q C,β i=some q->q.bJ=some C->C≠b:=fun i q C hq e J=>hm.nf i q C hq e (.inr (by rw[J]))
 have look:∀ i q,(up β nx (some p)) i=some q->(i=nx/\q=p)\/(i≠nx/\β i=some q):=fun i q hq=>by
  by_cases hi:i=nx
  .subst hi;rw[au] at hq;cases hq;exact .inl ⟨rfl,rfl⟩
  .rw[bE _ _ hi] at hq;exact .inr ⟨hi,hq⟩
 obtain⟨c1,c2⟩:=xY (F:=F) (β:=up β nx (some p)) (w:=w) hz h1;refine⟨p,⟨fun i r hi=>?_,fun i j q X C hq gZ e J=>?_,fun i q C hq e=>?_,fun i q C hq e=>?_,hF⟩,?_,M,lift⟩
 .by_cases O:i=nx
  .subst O;rw[au] at hi;cases hi;refine⟨p,au _ _ _,?_⟩;rw[hp];refine .cells _ ty b 0 _ _ z.cells hb (by simp at c1 ⊢;omega) (bO _) rfl fun k d hk=>?_;have iZ:k<(aZ P ty).length:=(bZ.1 hk).1;have Bt:k<z.cells.size:=by simpa using(c1▸iZ:k<z.cells.toList.length)
   obtain⟨g1,g2⟩:=c2 k d z.cells[k] hk (by simp[Bt]);rw[<- hp];exact⟨z.cells[k],by rw[Nat.zero_add];simp[Bt],g1,g2⟩
  .rw[bE _ _ O] at hi;obtain⟨q,hq,hr⟩:=hm.row i r hi;exact⟨q,by rw[bE _ _ O];exact hq,hr.gen (bO _) (fun C h1 h2 h3=>nB C h1 h2 h3) jn fun _ _=>rfl⟩
 .rcases look i q hq with⟨rfl,rfl⟩|⟨hi,h1⟩<;>rcases look j X gZ with⟨rfl,rfl⟩|⟨hj,h2⟩
  .rfl
  .rw[M] at e;cases e;exact absurd rfl (zq j X _ h2 J)
  .rw[M] at J;cases J;exact absurd rfl (zq i q _ h1 e)
  .exact hm.inj i j q X C h1 h2 e J
 .rcases look i q hq with⟨rfl,rfl⟩|⟨hi,h1⟩
  .rw[M] at e;cases e;exact aj
  .exact hm.lt i q C h1 e
 .rcases look i q hq with⟨rfl,rfl⟩|⟨hi,h1⟩
  .rw[M] at e;cases e;exact U
  .exact fun hf=>hm.nf i q C h1 e (.inl hf)
 .rw[hp];exact .rp nx 0 b 0 _ _ _ (au _ _ _)
theorem W4{o:Oper}{ty:TypeId}{t:Nat}{w:World}{a:Act}{r:Option Nat}{n:Nat}{QX:Exit->Act->World->Prop}{K:Act->World->Prop}(ho:o.op=.alloc ty)(hd:o.dst=some t)(hg:o.guard=none)(C:aG P ty=true)
 (U:∀ z:Value,aZ P ty=z.cells.toList.map jM->(∀ u∈z.cells.toList,(jM u).one=true)->K (a.put (some t) (.pointer (some ⟨w.heap.size,0,none⟩))) (w.alloc (.cells z.cells ty))):gV r n P ops QX o K a w:=by
 obtain⟨z,hz,_,M,O⟩:=xy (P:=P) w C;have X:Region.wanted o (yielded ops a.tmps)=true:=by simp[Region.wanted,hg]
 have J:(execOp a.eval o).run P w=.ok (.value (.pointer (some ⟨w.heap.size,0,none⟩))) (w.alloc (.cells z.cells ty)):=by
  unfold execOp;rw[ho];simp[Instr.alloc,hz,B5]
 unfold gV;rw[X,if_pos rfl];refine⟨fun _ _=>trivial,?_⟩;rw[yc (fun c hc=>by rw[ho] at hc;cases hc),J];show K (a.put o.dst _) _;rw[hd];exact U z M O
structure KP(p q:bf)(hp hq:Bool):Prop where
 ww:∀ x∈p.wr,x∉q.wr
 wr:∀ x∈p.wr,x∉q.rd
 rw:∀ x∈q.wr,x∉p.rd
 hp:hp=true->q.aT=[]/\q.new=0
 hq:hq=true->p.aT=[]/\p.new=0
theorem acj{oo:Nat->Oper}{pp:Nat->bf}{st₀:St}{hv:Nat->Bool}{p nl t:Nat}{ty:TypeId}(r:Option Nat)(n:Nat)(y8:∀ j o,ops[j]? =some o->oo j=o)(aj:lA a₀.tmps.size ops=true)(bK:ops.size=p+2)
 (rJ:∀ (i:Nat) (o:Oper),ops[i]? =some o->∀ e∈o.after,Region.binds .any e=true->e.on<i)
 (wZ:(oo p).op=.alloc ty) (zi:(oo p).dst=some t) (hlg:(oo p).guard=none) (Ed:aG P ty=true) (zr:∀ j,j<p->(oo j).dst≠some t) (h0:st₀.env t=.u)
 (yq:∀ i,i<p+1->((dE ops.toList []).getD (p+1) 0).testBit i=true) (jT:nl<=p)
 (c7:∀ j,j<nl->(pp j).Ok P ops (oo j) (bI oo pp st₀ j)\/(hv j=true/\(pp j).Ec P ops (oo j) (bI oo pp st₀ j)))
 (u7:∀ i j,i<j->j<nl->((dE ops.toList []).getD j 0).testBit i=false->(oo i).apart ops (oo j)=true/\KP (pp i) (pp j) (hv i) (hv j))
 (Mq:nl=p->∀ β w a,bW P F ⟨up (bI oo pp st₀ p).env t (.rp (bI oo pp st₀ p).nx 0),up (bI oo pp st₀ p).mem (bI oo pp st₀ p).nx (some (.cells (aZ P ty) ty)),(bI oo pp st₀ p).nx+1⟩ β w a->
  dC N₀ β₀ w₀ a₀ ⟨up (bI oo pp st₀ p).env t (.rp (bI oo pp st₀ p).nx 0),up (bI oo pp st₀ p).mem (bI oo pp st₀ p).nx (some (.cells (aZ P ty) ty)),(bI oo pp st₀ p).nx+1⟩ β w a->
  ∀ K:Act->World->Prop,(∀ a' w',dd P F N₀ β₀ w₀ a₀ Q .normal a' w'->K a' w')->gV r n P ops (dd P F N₀ β₀ w₀ a₀ Q) (oo (p+1)) K a w)
 (Mr:nl<p->nl+1=p/\(∀ i,i<nl->((dE ops.toList []).getD nl 0).testBit i=true)/\∃ ch mP pJ,Q (.panic ch) ⟨(bI oo pp st₀ nl).env,mP,pJ⟩/\
  ∀ (F:Nat->Prop) (β:az) (w:World) (a:Act),bW P F (bI oo pp st₀ nl) β w a->∀ (QX:Exit->Act->World->Prop) (K:Act->World->Prop),
   (∀ β' w',aC P F mP β' w'->(∀ i,pJ<=i->β' i=none)->Step β w β' w'->(bI oo pp st₀ nl).nx<=pJ->(∀ i,i<(bI oo pp st₀ nl).nx->β i=none->β' i=none)->QX (.panic ch) a w')->gV r n P ops QX (oo nl) K a w)
 (hN:N₀<=st₀.nx) (HY:FB F w₀):
 ∀ (dV:Nat) (listed:Array Bool) (β:az) (w:World) (a:Act),listed.size=ops.size->listed.toList.countP (fun b=> !b)<=dV->listed.getD (p+1) false=false->(nl<p->listed.getD nl false=false)->
  (∀ j,listed.getD j false=true->∀ o,ops[j]? =some o->∀ e∈o.after,Region.binds .any e=true->listed.getD e.on false=true)->
  (∃ ob:Option Nat,(listed.getD p false=true->ob.isSome=true)/\(listed.getD p false=false->ob=none)/\Lt P F t ty w₀ w a ob/\DS P (FL F ob) oo pp st₀ nl N₀ β₀ w₀ a₀ (fun j=>listed.getD j false) β w a)->
  wpAnyIn (Fe r) n P .any ops (dd P F N₀ β₀ w₀ a₀ Q) dV listed a w:=by
 have kS:∀ listed:Array Bool,listed.size=ops.size->Region.ready .any ops listed=[]->∀ k,k<ops.size->listed.getD k false=true:=by
  intro listed bK hr k
  induction k using Nat.strongRecOn with
  |_ k ih=>
   intro hk;cases hl:listed.getD k false with
   |true=>rfl
   |false=>
    exfalso
    have:k∈Region.ready .any ops listed:=by
     rw[mem_ready];refine⟨?_,ops[k],by simp[hk],fun e he hb=>?_⟩
     .have iZ:k<listed.size:=by omega
      simpa[iZ] using hl
     .have h1:=rJ k ops[k] (by simp[hk]) e he hb;exact ih e.on h1 oG
    rw[hr] at this;cases this
 have adl:∀ (S:Nat->Bool),(dw oo pp st₀ S nl).env t=.u:=fun S=>by
  rw[<- h0,JT oo pp st₀ (T:=fun _=>false) nl (fun j hj _=>zr j oG)]
  have:∀ m,dw oo pp st₀ (fun _=>false) m=st₀:=fun m=>by
   induction m with
   |zero=>rfl
   |succ m ih=>simp only[dw,Bool.false_eq_true,if_false];exact ih
  rw[this]
 intro dV
 induction dV with
 |zero=>
  intro listed β w a Hi hc jz _ _ _;exfalso;have hx:p+1<listed.size:=by omega
  have h1:listed[p+1]=false:=by simpa[hx] using jz
  have h2:0<listed.toList.countP (fun b=> !b):=List.countP_pos_iff.2 ⟨listed[p+1],oS,by simp[h1]⟩;omega
 |succ dV ih=>
  rintro listed β w a Hi hc jz nR cF ⟨ob,Uz,UA,Vz,C⟩;refine⟨fun hr=>?_,fun k hk=>?_⟩
  .rw[kS listed Hi hr (p+1) oG] at jz;cases jz
  rw[mem_ready] at hk;obtain⟨uT,o,ho,yK⟩:=hk;have lI:k<ops.size:=(Array.getElem?_eq_some_iff.1 ho).1;have mR:k<listed.size:=by omega
  have za:listed[k]=false:=by simpa[mR] using uT
  have pD:listed.getD k false=false:=by simp[mR,za]
  have eo:oo k=o:=y8 k o ho
  have TD:(∀ i,i<k->((dE ops.toList []).getD k 0).testBit i=true)->∀ j,j<k->listed.getD j false=true:=by
   intro q2 j hj;have hb:=q2 j hj;have h1:=zZ ops.toList [] k o (by simpa using ho);simp only[List.length_nil,Nat.zero_add] at h1;rw[h1] at hb;rcases zR _ j _ 0 hb with h2|⟨e,he,iP,h2⟩
   .simp at h2
   .have mQ:=yK e (by simpa using he) iP;rcases h2 with rfl|h2
    .exact mQ
    .have aj:=rJ k o ho e (by simpa using he) iP;have J:((dE ops.toList []).getD e.on 0).testBit j=true:=by simpa[List.getElem?_take,aj] using h2
     exact zN (S:=fun j=>listed.getD j false) cF j e.on mQ J
  have akE:listed.toList.countP (fun b=> !b)<=dV+1:=hc
  have Rt:(listed.setIfInBounds k true).toList.countP (fun b=> !b)<=dV:=by
   have:(listed.setIfInBounds k true).toList=listed.toList.set k true:=by simp
   rw[this,List.countP_set (by simpa using mR)];have h2:0<listed.toList.countP (fun b=> !b):=List.countP_pos_iff.2 ⟨listed[k],oS,by simp[za]⟩;have J:listed.toList[k]'(by simpa using mR)=false:=by simpa using za
   rw[J];simp only[Bool.not_false,if_true,Bool.not_true,Bool.false_eq_true,if_false];omega
  have Dp:∀ j,(listed.setIfInBounds k true).getD j false=true->∀ o,ops[j]? =some o->∀ e∈o.after,Region.binds .any e=true->(listed.setIfInBounds k true).getD e.on false=true:=by
   intro j hj o' rL e he hb;by_cases uV:j=k
   .subst uV;rw[ho] at rL;cases rL;exact getD_set_true (yK e he hb)
   .rw[getD_set_ne false (Ne.symm uV)] at hj;exact getD_set_true (cF j hj o' rL e he hb)
  refine zJ ho ?_;rw[<- eo];by_cases UB:k=p+1
  ·
    subst UB;have bT:=TD yq
    have wT:nl=p:=by
     rcases Nat.lt_or_ge nl p with h|h
     .have h1:=nR h;rw[bT nl oG] at h1;cases h1
     .omega
    have O:dw oo pp st₀ (fun j=>listed.getD j false) nl=bI oo pp st₀ p:=by rw[<- wT];exact z6 oo pp st₀ _ fun j hj=>bT j oG
    have h1:=C.e;have h2:=C.m;rw[O] at h1 h2;obtain⟨b,rfl⟩:=Option.isSome_iff_exists.1 (Uz (bT p oG));obtain⟨g1,g2,g3,g4,z,g5,g6,g7⟩:=Vz b rfl
    have gW:∀ i,(bI oo pp st₀ p).nx<=i->β i=none:=fun i hi=>C.free i (Nat.le_trans (gy oo pp st₀ (Nat.zero_le _)) hi) fun j hj _ J=>by
     have:=gy oo pp st₀ (show j+1<=p by omega);rw[lc,n7] at this;omega
    have hFw:FB F w:=⟨fun b hb=>h2.fb.lt b (.inl hb),fun t ht=>⟨(HY.gM t ht).1,(h2.fb.gM t ht).2⟩⟩
    obtain⟨pl,k1,k2,k3,k4⟩:=ZX h2 hFw (gW _ (bO _)) g2 g3 g5 g6 g7;refine Mq wT (up β (bI oo pp st₀ p).nx (some pl)) w a ⟨fun u=>?_,k1,fun i hi=>?_⟩ ⟨?_,?_,fun i hi hb=>?_,C.size,C.defers⟩ _ ?_
    rotate_left 5
    .intro a' w' hp
     have hr:Region.ready .any ops (listed.setIfInBounds (p+1) true)=[]:=by
      cases me:Region.ready .any ops (listed.setIfInBounds (p+1) true) with
      |nil=>rfl
      |cons x xs=>
       exfalso;have hx:x∈Region.ready .any ops (listed.setIfInBounds (p+1) true):=by rw[me];simp
       rw[mem_ready] at hx;obtain⟨g1,o',rL,_⟩:=hx;have qB:x<ops.size:=(Array.getElem?_eq_some_iff.1 rL).1;by_cases DU:x=p+1
       .subst DU;simp[mR] at g1
       .have J:=bT x oG;rw[getD_set_ne true (Ne.symm DU)] at g1;have Bn:x<listed.size:=by omega
        simp[Bn] at g1 J;rw[g1] at J;cases J
     cases dV with
     |zero=>exact⟨hr,hp⟩
     |succ dV=>exact⟨fun _=>hp,fun i hi=>by rw[hr] at hi;cases hi⟩
    .show R F _ w ((up (bI oo pp st₀ p).env t (.rp (bI oo pp st₀ p).nx 0)) u) _;by_cases hu:u=t
     .subst hu;rw[au,g4];exact k2
     .rw[bE _ _ hu];exact k4 (h1 u)
    .have cP:(bI oo pp st₀ p).nx+1<=i:=hi;rw[bE _ _ oG];exact gW i oG
    .refine⟨C.step.size,fun M l8 rU=>?_,fun i q hq=>?_,C.step.out,fun i q hq gZ=>?_⟩
     .obtain⟨U,q2⟩:=C.step.ej M l8 rU;exact⟨U,oW q2 fun q hq e=>by cases hq;rw[k3] at e;cases e;omega⟩
     .rcases C.step.gq i q hq with U|U
      .exact .inl (by rw[bE _ _ (fun e=>by rw[e,gW _ (bO _)] at U;cases U)];exact U)
      .exact .inr (by rw[bE _ _ (fun e=>by rw[e,gW _ (bO _)] at U;cases U)];exact U)
     .have a8:i≠(bI oo pp st₀ p).nx:=fun e=>by
       rcases C.step.gq i _ hq with U|U<;>(rw[e,gW _ (bO _)] at U;cases U)
      rw[bE _ _ a8] at gZ;exact C.step.lp i q hq gZ
    .have h5:=gy oo pp st₀ (Nat.zero_le p);show N₀<=(bI oo pp st₀ p).nx+1;have h6:(bI oo pp st₀ 0).nx=st₀.nx:=rfl;omega
    .have h5:=gy oo pp st₀ (Nat.zero_le p);have h6:(bI oo pp st₀ 0).nx=st₀.nx:=rfl;rw[bE _ _ oG];exact C.grow i hi hb
  have TE:(listed.setIfInBounds k true).getD (p+1) false=false:=by rw[getD_set_ne false (fun e=>UB e)];exact jz
  by_cases Nn:k=p
  ·
    subst Nn;have af4:=UA pD;subst af4;refine W4 wZ zi hlg Ed fun z hz h1=>ih _ β _ _ (by simpa using Hi) Rt TE (fun h=>by rw[getD_set_ne false oG];exact nR h) Dp ?_;have Bo:dw oo pp st₀ (fun j=>(listed.setIfInBounds k true).getD j false) nl=dw oo pp st₀ (fun j=>listed.getD j false) nl:=z6 oo pp st₀ _ fun j hj=>getD_set_ne false oG;have cI:Step β w β (w.alloc (.cells z.cells ty)):=xG oS fun b hb=>heap_alloc_old w _ hb;have Um:∀ M,M<w.heap.size->M≠w.heap.size:=fun M h=>by omega
    have D3:∀ M,M<w.heap.size->¬ FL F none M->¬ FL F (some w.heap.size) M:=fun M h h2 J=>by
     rcases J with J|J
     .exact h2 (.inl J)
     .cases J;omega
    have hRs:∀ {d:D} {v:Value},R (FL F none) β w d v->R (FL F (some w.heap.size)) β (w.alloc (.cells z.cells ty)) d v:=fun h=>h.gen oS (fun M hb hf jl=>⟨tQ (heap_alloc_old w _ hb),jl,D3 M hb hf⟩) fun _ _ _ h=>.inl h;refine⟨some w.heap.size,fun _=>rfl,fun h=>?_,fun b hb=>?_,⟨fun u=>?_,?_,fun i hi BC=>C.free i hi fun j hj O=>BC j hj (getD_set_true O),C.step.trans cI,C.grow,by rw[tN];exact C.size,by rw[put_defers];exact C.defers⟩⟩
    .have:(listed.setIfInBounds k true).getD k false=true:=by simp[mR]
     rw[this] at h;cases h
    .cases hb;refine⟨C.step.size,fun e=>by have:=C.m.fb.lt _ (.inl e);omega,oS,?_,z,hz,h1,heap_alloc_new w _⟩;have kz:=sb aj ho t (by rw[<- eo];exact zi);simp[Act.put,Array.getD_eq_getD_getElem?,C.size,kz]
    .rw[Bo];by_cases hu:u=t
     .subst hu;rw[adl];exact .u _
     .have h2:=hRs (C.e u)
      have:(a.put (some t) (.pointer (some ⟨w.heap.size,0,none⟩))).tmps.getD u undef=a.tmps.getD u undef:=by
       simp only[Act.put,Array.getD_eq_getD_getElem?];rw[Array.getElem?_setIfInBounds_ne (Ne.symm hu)]
      rw[this];exact h2
    .rw[Bo];refine⟨fun i rr hi=>?_,C.m.inj,fun i q b hq e=>?_,fun i q b hq e hf=>?_,C.m.fb.next (fun b hb=>?_) (fun b hb=>?_) fun tt HL hF=>heap_alloc_old w _ (C.m.fb.lt _ hF)⟩
     .obtain⟨q,hq,hr⟩:=C.m.row i rr hi;exact⟨q,hq,hr.gen oS (fun M hb hf jl=>⟨tQ (heap_alloc_old w _ hb),jl,D3 M hb hf⟩) (fun _ _ _ h=>.inl h) fun b hb=>heap_alloc_old w _ (C.m.lt i q b hq hb)⟩
     .have:=C.m.lt i q b hq e;simp;omega
     .have h2:=C.m.lt i q b hq e;exact D3 b h2 (C.m.nf i q b hq e) hf
     .rcases hb with hb|hb
      .have:=C.m.fb.lt b (.inl hb);simp;omega
      .cases hb;simp
     .rcases hb with hb|hb
      .exact .inl hb
      .cases hb
  by_cases Ms:k=nl
  ·
    have kz:nl<p:=by omega
    obtain⟨U,q2,ch,mP,pJ,q3,q5⟩:=Mr kz;rw[<- Ms] at q2;have bT:=TD q2;have O:dw oo pp st₀ (fun j=>listed.getD j false) nl=bI oo pp st₀ nl:=z6 oo pp st₀ _ fun j hj=>bT j oG;have h1:=C.e;have h2:=C.m;rw[O] at h1 h2
    have gW:∀ i,(bI oo pp st₀ nl).nx<=i->β i=none:=fun i hi=>C.free i (Nat.le_trans (gy oo pp st₀ (Nat.zero_le _)) hi) fun j hj _ J=>by
     have:=gy oo pp st₀ (show j+1<=nl by omega);rw[lc,n7] at this;omega
    have h5:=gy oo pp st₀ (Nat.zero_le nl);have h6:(bI oo pp st₀ 0).nx=st₀.nx:=rfl;rw[Ms];refine q5 (FL F ob) β w a ⟨h1,h2,gW⟩ _ _ fun β' w' g1 g2 g3 q4 g4=>⟨_,β',q3,⟨fun u=>((h1 u).step g3).qi fun b hb=>.inl hb,g1.qi (fun b hb=>.inl hb) fun tt HL=>(HY.gM tt HL).1,g2⟩,⟨C.step.trans g3,?_,fun i hi hb=>g4 i oG (C.grow i hi hb),C.size,C.defers⟩⟩
    show N₀<=pJ;omega
  have wP:k<nl:=by omega
  have A4:∀ j,j<k->listed.getD j false=false->((dE ops.toList []).getD k 0).testBit j=false:=by
   intro j uV hj;cases hb:((dE ops.toList []).getD k 0).testBit j with
   |false=>rfl
   |true=>
    exfalso;have h1:=zZ ops.toList [] k o (by simpa using ho);simp only[List.length_nil,Nat.zero_add] at h1;rw[h1] at hb;rcases zR _ j _ 0 hb with h2|⟨e,he,iP,h2⟩
    .simp at h2
    .have mQ:=yK e (by simpa using he) iP;rcases h2 with rfl|h2
     .rw[hj] at mQ;cases mQ
     .have aj:=rJ k o ho e (by simpa using he) iP;have J:((dE ops.toList []).getD e.on 0).testBit j=true:=by simpa[List.getElem?_take,aj] using h2
      have:=zN (S:=fun j=>listed.getD j false) cF j e.on mQ J;rw[hj] at this;cases this
  have ry:∀ j,k<j->listed.getD j false=true->((dE ops.toList []).getD j 0).testBit k=false:=by
   intro j X hj;cases hb:((dE ops.toList []).getD j 0).testBit k with
   |false=>rfl
   |true=>
    exfalso;have:=zN (S:=fun j=>listed.getD j false) cF k j hj hb;rw[pD] at this;cases this
  have AO:∀ j,j<nl->listed.getD j false≠decide (j<k)->(j<k/\listed.getD j false=false)\/(k<j/\listed.getD j false=true):=by
   intro j hj a8;rcases Nat.lt_trichotomy j k with h|h|h
   .left;refine⟨h,?_⟩;simpa[h] using a8
   .subst h;simp[pD] at a8
   .right;refine⟨h,?_⟩;have:¬ j<k:=by omega
    simpa[this] using a8
  have uU:=Kq oo pp st₀ k nl oG
  have np:∀ u∈(oo k).looksAt ops,(dw oo pp st₀ (fun j=>listed.getD j false) nl).env u=(bI oo pp st₀ k).env u:=fun u hu=>by
   rw[<- uU];refine JT oo pp st₀ _ fun j hj a8=>?_;rcases AO j hj a8 with⟨h1,h2⟩|⟨h1,h2⟩
   .have:=(Oper.apart_spec (u7 j k h1 wP (A4 j h1 h2)).1).1;exact fun hd=>this u hd hu
   .have:=(Oper.apart_spec (u7 k j h1 hj (ry j h1 h2)).1).2.2;exact fun hd=>this u hd hu
  have fin:∀ v w' β',R (FL F ob) β' w' (pp k).val v->aC P (FL F ob) (cu (dw oo pp st₀ (fun j=>listed.getD j false) nl).mem (pp k).aT) β' w'->Step β w β' w'->
   (∀ i,β i=none->(i<(bI oo pp st₀ k).nx\/(bI oo pp st₀ k).nx+(pp k).new<=i)->β' i=none)->wpAnyIn (Fe r) n P .any ops (dd P F N₀ β₀ w₀ a₀ Q) dV (listed.setIfInBounds k true) (a.put (oo k).dst v) w':=by
   intro v w' β' g1 g2 g3 g4
   have Bo:(fun j=>(listed.setIfInBounds k true).getD j false)=(fun j=>if j=k then true else listed.getD j false):=by
    funext j;by_cases hj:j=k
    .subst hj;simp[mR]
    .rw[if_neg hj,getD_set_ne false (Ne.symm hj)]
   obtain⟨ae,am⟩:=QZ oo pp st₀ (S:=fun j=>listed.getD j false) (k:=k) pD nl wP fun j X hj zb=>
    ⟨(Oper.apart_spec (u7 k j X hj (ry j X zb)).1).2.1,(u7 k j X hj (ry j X zb)).2.ww⟩
   refine ih _ β' w' _ (by simpa using Hi) Rt TE (fun h=>by rw[getD_set_ne false Ms];exact nR h) Dp ⟨ob,fun h=>Uz (by rw[getD_set_ne false Nn] at h;exact h),fun h=>UA (by rw[getD_set_ne false Nn] at h;exact h),fun b hb=>?_,?_⟩
   .obtain⟨l1,l2,l3,l4,z,l5,l6,l7⟩:=Vz b hb;have Ee:β.free b:=fun i q hq e=>C.m.nf i q b hq e (.inr hb.symm);refine⟨l1,l2,Nat.lt_of_lt_of_le l3 g3.size,?_,z,l5,l6,(g3.ej b l3 Ee).1.trans l7⟩;have a8:=zr k oG;cases fC:(oo k).dst with
    |none=>exact l4
    |some u=>
     have hu:u≠t:=fun e=>a8 (by rw[fC,e]);simp only[Act.put,Array.getD_eq_getD_getElem?] at l4 ⊢;rw[Array.getElem?_setIfInBounds_ne hu];exact l4
   .rw[Bo];refine⟨?_,by rw[am];exact g2,fun i hi hn=>?_,C.step.trans g3,fun i hi hn=>?_,by rw[tN];exact C.size,by rw[put_defers];exact C.defers⟩
    .rw[ae];have hd:∀ t,(oo k).dst=some t->t<a.tmps.size:=fun t ht=>by rw[C.size];rw[eo] at ht;exact sb aj ho t ht
     have he:=C.e.step g3;cases fC:(oo k).dst with
     |none=>exact he
     |some u=>exact he.put (some u) _ v g1 fun t ht=>hd t (by rw[fC];exact ht)
    .have BB:=hn k wP oS;refine g4 i (C.free i hi fun j hj O J=>hn j hj ?_ J) ?_
     .show(if j=k then true else listed.getD j false)=true;split
      .rfl
      .exact O
     .omega
    .refine g4 i (C.grow i hi hn) (.inl ?_);have h5:=gy oo pp st₀ (Nat.zero_le k);have h6:(bI oo pp st₀ 0).nx=st₀.nx:=rfl;omega
  rcases c7 k wP with DV|⟨hH,DV⟩
  .refine DV (FL F ob) β w a (dw oo pp st₀ (fun j=>listed.getD j false) nl).mem (dw oo pp st₀ (fun j=>listed.getD j false) nl).env (bI oo pp st₀ nl).nx np C.e C.m ?_ ?_ ?_ r n _ _ fin
   .intro i hi a8;rw[<- uU];refine JU oo pp st₀ _ fun j hj yL hw=>?_;rcases AO j hj yL with⟨h1,h2⟩|⟨h1,h2⟩
    .exact(u7 j k h1 wP (A4 j h1 h2)).2.wr i hw hi
    .exact(u7 k j h1 hj (ry j h1 h2)).2.rw i hw hi
   .intro i h1 h2;refine C.free i (Nat.le_trans (gy oo pp st₀ (Nat.zero_le _)) h1) fun j hj O J=>?_;rcases Nat.lt_trichotomy j k with h|h|h
    .have:=gy oo pp st₀ (show j+1<=k by omega);rw[lc,n7] at this;omega
    .subst h;simp only[pD] at O;cases O
    .have:=gy oo pp st₀ (show k+1<=j by omega);rw[lc,n7] at this;omega
   .intro i hi;refine C.free i (Nat.le_trans (gy oo pp st₀ (Nat.zero_le _)) hi) fun j hj _ J=>?_;have:=gy oo pp st₀ (show j+1<=nl by omega);rw[lc,n7] at this;omega
  .have oA:(dw oo pp st₀ (fun j=>listed.getD j false) nl).mem=(bI oo pp st₀ k).mem:=by
    funext i;rw[<- uU];refine JU oo pp st₀ _ fun j hj yL hw=>?_;rcases AO j hj yL with⟨h1,h2⟩|⟨h1,h2⟩
    .have:=((u7 j k h1 wP (A4 j h1 h2)).2.hq hH).1;simp[bf.wr,this] at hw
    .have:=((u7 k j h1 hj (ry j h1 h2)).2.hp hH).1;simp[bf.wr,this] at hw
   have hm:=C.m;rw[oA] at hm fin;refine DV (FL F ob) β w a (dw oo pp st₀ (fun j=>listed.getD j false) nl).env np C.e hm (fun i hi=>?_) r n _ _ fin;refine C.free i (Nat.le_trans (gy oo pp st₀ (Nat.zero_le _)) hi) fun j hj O J=>?_;rcases Nat.lt_trichotomy j k with h|h|h
   .have:=gy oo pp st₀ (show j+1<=k by omega);rw[lc,n7] at this;omega
   .subst h;simp only[pD] at O;cases O
   .have:=((u7 k j h hj (ry j h O)).2.hp hH).2;omega
end
end Go.Abs
