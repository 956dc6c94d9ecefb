/- Part 5. -/
import Derived.Test.YtkogeiacmmckkaaGreatDoorFlowNames4
import Derived.Lib.Strings
set_option linter.all false
set_option maxHeartbeats 0
set_option maxRecDepth 10000
noncomputable section
namespace Go.Abs
open List
section
inductive fj(P:Program)(o:Op)(ρ:Operand->D)(m:Mem)(nx:Nat):bI->Prop
 |a (e:ez) (h:bh P o ρ m nx=some e) (hp:e.pre):fj P o ρ m nx ⟨e.val,e.bn,e.rd,e.new⟩
 |n (e:ez) (h:fN P ρ m nx o e):fj P o ρ m nx ⟨e.val,e.bn,e.rd,e.new⟩
def bt(t:T Row):Mem:=λi=>t.get i
variable{b:Bool}{d:D}{i n:Nat}{r:Row}{rd:List Nat}{a:Operand}{t:TypeId}{x:Operand}{ps:Array (Nat×Operand)}{op:BinOp}{y:Operand}{ty:TypeId}{ok:Bool}{k:Nat}{c:Call}{xs:List Operand}{ts:List TypeId}
section
variable{P:Program}{o:Op}{ρ:Operand->D}{m:T Row}{nx:Nat}{p:bI}
def fU(h:iw b d=some p):b=true/\p=⟨d,[],[],0⟩:=by
 cases b with
 |true=>exact⟨rfl,(Option.some.inj h).symm⟩
 |false=>cases h
def r5(h:rK b d i=some p):b=true/\p=⟨d,[],[i],0⟩:=by
 cases b with
 |true=>exact⟨rfl,(Option.some.inj h).symm⟩
 |false=>cases h
def xA(h:wB b n d r rd=some p):b=true/\p=⟨d,[(n,some r)],rd,1⟩:=by
 cases b with
 |true=>exact⟨rfl,(Option.some.inj h).symm⟩
 |false=>cases h
def Gr(h:Fo b i r=some p):b=true/\p=⟨.bu [],[(i,some r)],[i],0⟩:=by
 cases b with
 |true=>exact⟨rfl,(Option.some.inj h).symm⟩
 |false=>cases h
def Bj{α:Type _}{x e:α}(h:(bif b then some x else none)=some e):b=true/\e=x:=by
 cases b with
 |true=>exact⟨rfl,(Option.some.inj h).symm⟩
 |false=>cases h
def fj.of{pre:Prop}{val:D}{bn:List (Nat×Option Row)}{new:Nat}(h:bh P o ρ (bt m) nx=some ⟨pre,val,bn,rd,new⟩)(hp:pre)(he:p=⟨val,bn,rd,new⟩):fj P o ρ (bt m) nx p:=he▸ .a ⟨pre,val,bn,rd,new⟩ h hp
def fj.nw{e:ez}(h:fN P ρ (bt m) nx o e)(he:p=⟨e.val,e.bn,e.rd,e.new⟩):fj P o ρ (bt m) nx p:=he▸ .n e h
def agi{c b:Operand}(h:Qd c a b P ρ m nx=some p):fj P (.pick c a b) ρ (bt m) nx p:=by
 unfold Qd at h;split at h
 .rename_i hc;split at h
  .rename_i v ha;cases h;refine .of (by simp only[bh,hc,D.core,D.gL];rfl) ?_ (by simp[ha,D.core,D.gL]);simp[ha,D.ask,D.core,D.gL]
  .cases h
 .rename_i hc;split at h
  .rename_i v hb;cases h;refine .of (by simp only[bh,hc,D.core,D.gL];rfl) ?_ (by simp[hb,D.core,D.gL]);simp[hb,D.ask,D.core,D.gL]
  .cases h
 .cases h
def aev(h:Pm t P ρ m nx=some p):fj P (.alloc t) ρ (bt m) nx p:=by
 unfold Pm at h;cases hb:EA t with
 |true=>
  rw[hb] at h;simp[cond_true] at h;split at h
  .rename_i hz;let⟨h1,h2⟩:=xA h;exact .nw (.D2 t hb h1 hz) h2
  .cases h
 |false=>
  rw[hb] at h;simp[cond_false] at h;let⟨h1,h2⟩:=xA h;exact .of rfl h1 h2
def ahX(h:Q4 t x P ρ m nx=some p):fj P (.box t x) ρ (bt m) nx p:=by
 unfold Q4 at h;cases hb:EA t with
 |true=>
  rw[hb] at h;simp[cond_true] at h;split at h
  .rename_i d hx;let⟨h1,h2⟩:=xA h;simp[aH,Nat.beq_eq] at h1;exact .nw (.EB t x d hb hx h1.1 h1.2) h2
  .cases h
 |false=>
  rw[hb] at h;simp[cond_false] at h;let⟨h1,h2⟩:=xA h;exact .of rfl h1 h2
def aew(h:Po t ps P ρ m nx=some p):fj P (.build t ps) ρ (bt m) nx p:=by
 unfold Po at h
 have agg:∀ {b:Bool} {o:Option (List D)},Qe b o=some p->b=true/\∃ cs,o=some cs/\p=⟨.agg cs,[],[],0⟩:=λ{b o} h=>by
  cases o with
  |none=>cases h
  |some cs=>exact⟨(fU h).1,cs,rfl,(fU h).2⟩
 split at h
 .rename_i fs hu;let⟨h1,cs,h2,J⟩:=agg h;simp[aH] at h1;have C:=Jy _ _ _ h2;rw[parts_eq] at C
  have e:Pn P fs=λi=>(fs[i]?).map λf=>(f.offset,P.cellsOf f.type):=by
   funext i;unfold Pn;cases fs[i]? <;>rfl
  rw[e] at C;refine .of (by simp only[bh,hu,C,Option.map_some];rfl) ?_ J;exact h1
 .rename_i n e hu;let⟨h1,cs,h2,J⟩:=agg h;simp[aH] at h1;have C:=Jy _ _ _ h2;rw[parts_eq] at C;refine .of (by simp[bh,hu,C,Option.map_some];rfl) ?_ J;exact h1
 .cases h
def acz(h:MY t n ps P ρ m nx=some p):fj P (.buildSlice t n ps) ρ (bt m) nx p:=by
 unfold MY YL at h;split at h
 .rename_i cs h2;let⟨h1,J⟩:=xA h;simp[aH,Nat.ble_eq] at h1;have C:=Jy _ _ _ h2;rw[parts_eq] at C;refine .of (by simp[bh,C,Option.map_some];rfl) ?_ J;exact⟨h1.2,h1.1.2.1,h1.1.1,h1.1.2.2⟩
 .cases h
def agj(h:Qf t a P ρ m nx=some p):fj P (.load t a) ρ (bt m) nx p:=by
 unfold Qf at h;split at h
 .rename_i cs ha;let⟨h1,h2⟩:=fU h;simp[aH,oq] at h1;rw[DC] at h2;refine .of (by simp[bh,ha];rfl) ?_ h2;exact h1
 .rename_i i off ha;split at h
  .rename_i cs e hm;have hm:bt m i=some (.cells cs e):=hm;let⟨h1,h2⟩:=r5 h;simp[aH,oq] at h1;rw[DC,rZ] at h2;refine .of (by simp[bh,ha,hm];rfl) ?_ h2;exact h1
  .rename_i u x T hm;let⟨h1,h2⟩:=r5 h;simp[aH,Nat.beq_eq,Bool.not_eq_true'] at h1;obtain⟨rfl,C,J⟩:=h1;exact .nw (.Eh t a i u x T ha hm C J) h2
  .cases h
 .cases h
def aex(h:Pp t a x P ρ m nx=some p):fj P (.store t a x) ρ (bt m) nx p:=by
 unfold Pp at h;split at h
 .rename_i i off ha;split at h
  .rename_i cs e hm;have hm:bt m i=some (.cells cs e):=hm;let⟨h1,h2⟩:=Gr h;simp[aH,oq,zH] at h1;refine .of (by simp[bh,ha,hm];rfl) ?_ h2;exact⟨h1.1.1,h1.1.2,h1.2.1,h1.2.2⟩
  .rename_i u y T hm;let⟨h1,h2⟩:=Gr h;simp[aH,Nat.beq_eq,Bool.not_eq_true'] at h1;obtain⟨rfl,C,J,O⟩:=h1;exact .nw (.Bz t a x i u y T ha hm C J O) h2
  .cases h
 .cases h
def acO(h:NH x P ρ m nx=some p):fj P (.nilCheck x) ρ (bt m) nx p:=by
 unfold NH at h;split at h
 .rename_i cs hx;cases h;refine .of (by simp only[bh,hx];rfl) ?_ rfl;exact trivial
 .rename_i i off hx;split at h
  .rename_i r hm;have hm:bt m i=some r:=hm;cases h;refine .of (by simp only[bh,hx,hm];rfl) ?_ rfl;exact trivial
  .cases h
 .cases h
def agk(h1:y≠ .const (.slice none 0 0))(h2:y≠ .const (.pointer none)):nd P (bt m) op t d y=none:=by
 unfold nd;split
 .exact absurd rfl h1
 .exact absurd rfl h2
 .exact absurd rfl h2
 .rfl
def DM{e:D}{q:Prop}(h1:y≠ .const (.slice none 0 0))(h2:y≠ .const (.pointer none))(h:rD P op t (ρ x) (ρ y)=some (q,e))(hq:q)(hp:p=⟨e,[],[],0⟩):
 fj P (.binOp op t x y ty) ρ (bt m) nx p:=
 .of (pre:=q) (by simp[bh,agk h1 h2,h,Option.map_some]) hq hp
def nlt(a b:Int):(!decide (b<a))=decide (a<=b):=by
 rw[Bool.eq_iff_iff];simp
def ahY{k k':IntKind}{a b:Int}(h:Q5 op k k' a b=some p):∃ q v,qj op (.int k a) (.int k' b)=some (q,v)/\q/\p=⟨.s v,[],[],0⟩:=by
 have hs:∀ {c:Bool} {n:Int},sI c k n=some p->c=true/\p=⟨.s (.int k n),[],[],0⟩:=λh=>fU h;have hb:∀ {c v:Bool},sB c v=some p->c=true/\p=⟨.s (.bool v),[],[],0⟩:=λh=>fU h;have ne:∀ {c d:Bool},(c&& !d)=true->c=true/\d=false:=λh=>tn h
 cases op<;>simp[Q5,VA,KC,XP,nlt] at h
 case shl=>
  obtain⟨h1,rfl⟩:=hs h;exact⟨_,_,rfl,tn h1,rfl⟩
 case shr=>
  obtain⟨h1,rfl⟩:=hs h;exact⟨_,_,rfl,tn h1,rfl⟩
 case quo=>
  obtain⟨h1,rfl⟩:=hs h;let⟨h2,C⟩:=ne h1;exact⟨_,_,rfl,⟨DD _ _ h2,tn C⟩,rfl⟩
 case rem=>
  obtain⟨h1,rfl⟩:=hs h;let⟨h2,C⟩:=ne h1;exact⟨_,_,rfl,⟨DD _ _ h2,tn C⟩,rfl⟩
 all_goals first
  |(obtain⟨h1,rfl⟩:=hs h;exact⟨_,_,rfl,DD _ _ h1,rfl⟩)
  |(obtain⟨h1,rfl⟩:=hb h;exact⟨_,_,rfl,DD _ _ h1,rfl⟩)
def ahZ{a b:ByteArray}(hx:ρ x=.s (.string a))(hy:ρ y=.s (.string b))(h1:y≠ .const (.slice none 0 0))(h2:y≠ .const (.pointer none))(h:Q6 op a.data.toList b.data.toList=some p):
 fj P (.binOp op t x y ty) ρ (bt m) nx p:=by
 have hb:∀ {v:Bool},sB true v=some p->p=⟨.s (.bool v),[],[],0⟩:=λh=>(fU h).2
 have fin:∀ {v:Bool},qj op (.string a) (.string b)=some (True,.bool v)->p=⟨.s (.bool v),[],[],0⟩->fj P (.binOp op t x y ty) ρ (bt m) nx p:=λ{v} hv hp=>
  DM h1 h2 (q:=True) (e:=.s (.bool v)) (by rw[hx,hy];simp[rD,hv,Option.map_some]) aa hp
 unfold Q6 at h;split at h
 .exact fin (by simp only[qj,ByteArray.toList_eq, <- KD]) (hb h)
 .exact fin (by simp only[qj,ByteArray.toList_eq, <- KD]) (hb h)
 .exact fin (by simp[qj,ByteArray.toList_eq, <- Pw]) (hb h)
 .exact fin (by simp[qj,ByteArray.toList_eq, <- Pw]) (hb h)
 .let⟨C,J⟩:=fU h
  have e:(⟨⟨a.data.toList++b.data.toList⟩⟩:ByteArray)=a++b:=by
   apply ByteArray.ext;simp only[ByteArray.data_append];apply Array.ext';simp
  rw[e] at J;simp[Nat.ble_eq,Dt] at C;exact .nw (.add t ty x y a b hx hy C) J
 .cases h
def ah0(h:Q7 op t x y P ρ m nx=some p):fj P (.binOp op t x y ty) ρ (bt m) nx p:=by
 have O:∀ {b:Bool},Lr op=some b->op=if b then .eql else .neq:=λ{b} h=>by
  cases op<;>simp[Lr,aY,reduceCtorEq] at h<;>subst h<;>rfl
 unfold Q7 at h;split at h
 ·
   split at h
   .rename_i b hb;have ho:=O hb;unfold YN at h;split at h
    .rename_i hx;let⟨h1,h2⟩:=fU h;exact .nw (.B5 b op t ty x ho hx h1) (by rw[h2];cases b<;>rfl)
    .rename_i i off n hx;split at h
     .rename_i cs e hm;let⟨h1,h2⟩:=r5 h;simp[aH,Nat.blt_eq] at h1;exact .nw (.B6 b op t ty x i off n cs e ho hx hm h1.2 h1.1) (by rw[h2];cases b<;>rfl)
     .cases h
    .rename_i es n hx;cases b with
     |false=>cases h
     |true=>
      simp only[if_true] at ho;subst ho;let⟨h1,h2⟩:=fU h;refine .of (by simp only[bh,nd,hx];rfl) ?_ ?_
      .exact h1
      .exact(by rw[h2];cases n<;>rfl)
    .cases h
   .cases h
 ·
   split at h
   .rename_i b hb;have ho:=O hb;unfold YO at h;split at h
    .rename_i i off hx;split at h
     .rename_i r hm;have hm:bt m i=some r:=hm;let⟨h1,h2⟩:=r5 h;cases b with
      |true=>
       simp[if_true] at ho;subst ho;refine .of (by simp[bh,nd,hx,hm];rfl) ?_ h2;exact h1
      |false=>
       simp[Bool.false_eq_true,if_false] at ho;subst ho;refine .of (by simp[bh,nd,hx,hm];rfl) ?_ h2;exact h1
     .cases h
    .cases h
   .cases h
 .rename_i h1 h2;have h1:y≠ .const (.slice none 0 0):=λe=>h1 e;have h2:y≠ .const (.pointer none):=λe=>h2 e;unfold YM at h;split at h
  .rename_i k a k' b hx hy;let⟨q,v,C,J,U⟩:=ahY h;exact DM h1 h2 (by rw[hx,hy];simp[rD,C,Option.map_some]) J U
  .rename_i a b hx hy;exact ahZ hx hy h1 h2 h
  .rename_i a b hx hy;split at h
   .let⟨C,J⟩:=fU h;exact DM h1 h2 (by rw[hx,hy];rfl) C J
   .let⟨C,J⟩:=fU h;exact DM h1 h2 (by rw[hx,hy];rfl) C J
   .cases h
  .rename_i xs ys hx hy;unfold XC at h;split at h
   .rename_i X q hk hz;let⟨C,J⟩:=fU h;simp[aH,decide_eq_true_eq,Bool.not_eq_true'] at C;exact DM h1 h2 (by rw[hx,hy];simp[rD,Bx,hk,hz]) C J
   .rename_i X q hk hz;let⟨C,J⟩:=fU h;simp[aH,decide_eq_true_eq,Bool.not_eq_true'] at C;exact DM h1 h2 (by rw[hx,hy];simp[rD,Bx,hk,hz]) C J
   .cases h
  .cases h
def ai8{op:UnOp}(h:Sc op x P ρ m nx=some p):fj P (.unOp op t x) ρ (bt m) nx p:=by
 unfold Sc at h;split at h
 .rename_i v hx;split at h
  .rename_i r hr;cases h;refine .of (by simp only[bh,hx,hr,Option.map_some];rfl) ?_ rfl;trivial
  .cases h
 .cases h
def agl{src dst:TypeId}(h:Qg src dst x P ρ m nx=some p):fj P (.convert src dst x) ρ (bt m) nx p:=by
 have str:∀ {b:Bool} {n:Nat} {rd:List Nat} {o:Option (List Int)},Ls b n rd o=some p->b=true/\∃ l,o=some l/\l.length=n/\p=⟨.s (.string (mkStr l)),[],rd,0⟩:=λ{b n rd o} h=>by
  unfold Ls at h;split at h
  .rename_i l;let⟨h1,h2⟩:=Bj h;simp[aH,Nat.beq_eq] at h1;exact⟨h1.1,l,rfl,h1.2,h2⟩
  .cases h
 unfold Qg at h;split at h
 .rename_i k hd;unfold XF at h;split at h
  .rename_i k' n hx;let⟨h1,h2⟩:=fU h;rw[VA] at h2;refine .of (by simp[bh,hd,hx];rfl) ?_ h2;exact h1
  .cases h
 .rename_i hd;have C:gR P dst=true:=by simp[gR,hd]
  unfold XD at h;split at h
  .rename_i es n hx;obtain⟨h1,l,h2,rfl,J⟩:=str h;rw[I8 h2] at hx;exact .nw (.Ee src dst x l hx (Jz h1) C) J
  .rename_i i off n hx;split at h
   .rename_i cs e hm;obtain⟨h1,l,h2,rfl,J⟩:=str h;have O:=I8 h2;rw[zB,rZ] at O;exact .nw (.Eg src dst x l i off cs e hx hm O (Jz h1) C) J
   .cases h
  .rename_i k n hx;split at h
   .rename_i k' hk;let⟨h1,h2⟩:=fU h;simp[aH,Bool.not_eq_true',KC,decide_eq_false_iff_not,decide_eq_true_eq,Int.not_lt] at h1;exact .nw (.rune src dst x k k' n hx hk C h1.1 h1.2) h2
   .cases h
  .cases h
 .rename_i e hd;split at h
  .rename_i he;unfold XE at h;split at h
   .rename_i b hx;let⟨h1,h2⟩:=fU h;simp[aH,Nat.ble_eq,Dt] at h1 h2;refine .of (by simp[bh,hd,hx,he];rfl) ?_ h2;exact h1
   .cases h
  .cases h
 .cases h
def ah1{r:Option Operand}(h:Q8 r P ρ m nx=some p):fj P (.makeMap t r) ρ (bt m) nx p:=by
 unfold Q8 at h;split at h
 .cases h;refine .of (by simp only[bh];rfl) ?_ rfl;trivial
 .cases h
def agm{l c:Operand}(h:Qh t l c P ρ m nx=some p):fj P (.makeSlice t l c) ρ (bt m) nx p:=by
 unfold Qh at h;split at h
 .rename_i n k hl hc;let⟨h1,h2⟩:=xA h;simp only[aH,Nat.ble_eq,Nat.beq_eq] at h1;obtain⟨⟨rfl,C⟩,J,O⟩:=h1;refine .of (by simp only[bh,hl,hc];rfl) ?_ h2;refine⟨?_,by first|rfl|trivial,?_,?_,O⟩
  .exact Int.natCast_nonneg n
  .exact Int.ofNat_le.2 C
  .show(P.bytesOf (aK P t):Int)*(n:Int)<=_;rw[<- Int.natCast_mul];exact Int.ofNat_le.2 J
 .cases h
def agn{k:Operand}(h:Qi t x k ok P ρ m nx=some p):fj P (.lookup t x k ok) ρ (bt m) nx p:=by
 unfold Qi at h;split at h
 .rename_i key i hk hx;split at h
  .rename_i es hm;have hm:bt m i=some (.map es):=hm;let⟨h1,h2⟩:=r5 h;simp[aH,Gf] at h1;refine .of (by simp[bh,pW,hk,hx,hm];rfl) ?_ h2;exact h1
  .cases h
 .rename_i key es hk hx;let⟨h1,h2⟩:=fU h;simp[aH,Gf] at h1;refine .of (by simp[bh,pW,hk,hx];rfl) ?_ h2;exact h1
 .rename_i key hk hx;let⟨h1,h2⟩:=fU h;simp[aH] at h1;refine .of (by simp[bh,pW,hk,hx];rfl) ?_ h2;exact h1
 .cases h
def WG{k v:Operand}(h:Lu t x k v P ρ m nx=some p):fj P (.mapUpdate t x k v) ρ (bt m) nx p/\fj P (.insert t x k v) ρ (bt m) nx p:=by
 unfold Lu at h;split at h
 .rename_i key i hk hx;split at h
  .rename_i es hm;have hm:bt m i=some (.map es):=hm;let⟨h1,h2⟩:=Gr h;simp[aH,Gf] at h1;constructor
   .refine .of (by simp[bh,pX,hk,hx,hm];rfl) ?_ h2;exact h1
   .refine .of (by simp[bh,pX,hk,hx,hm];rfl) ?_ h2;exact h1
  .cases h
 .cases h
def JP{o:Option Operand}{d:Nat}(h:tC ρ o d=some n):gd (o.map ρ) d=some (n:Int):=by
 unfold tC at h;split at h
 .cases h;rfl
 .rename_i x;split at h
  .rename_i k n' hx;cases h;simp[gd,hx,D.int?]
  .cases h
def DE{o:Option Operand}(h:tC ρ o 0=some n):gd (o.map ρ) 0=some (n:Int):=JP h
def aey{lo hi mx:Option Operand}(h:Pq t x lo hi mx P ρ m nx=some p):fj P (.slice t x lo hi mx) ρ (bt m) nx p:=by
 have OO:∀ {l h:Nat},l<=h->((h:Int) - (l:Int)).toNat=h - l:=λ{l h} _=>by omega
 unfold Pq at h;split at h
 .unfold WB at h;split at h
  .rename_i es n hx;split at h
   .rename_i l hh h1 h2;let⟨C,J⟩:=fU h;simp[aH,Nat.ble_eq] at C;let⟨O,U,h7⟩:=C;simp[zB,rZ] at J;refine .of (val:=.sl ((es.drop (l*P.cellsOf (aK P t))).take ((hh - l)*P.cellsOf (aK P t))) (hh - l)) (pre:=bE P t=true/\(0:Int)<=l/\(l:Int)<=hh/\(hh:Int)<=n) ?_ ?_ J
    .simp[bh,nJ,hx,DE h1,JP h2,Option.map_none,OO U,eC]
    .exact⟨O,oG,oG,oG⟩
   .cases h
  .rename_i i off n hx;split at h
   .rename_i cs e l hh hm h1 h2;have hm:bt m i=some (.cells cs e):=hm;let⟨C,J⟩:=r5 h;simp[aH,Nat.ble_eq,Nat.beq_eq] at C;let⟨⟨O,h8⟩,U,h7⟩:=C;refine .of (val:=.rs i (off+l*P.cellsOf (aK P t)) (hh - l)) (pre:=(bE P t=true/\P.cellsOf e=P.cellsOf (aK P t))/\(0:Int)<=l/\(l:Int)<=hh/\(hh:Int)<=n) ?_ ?_ J
    .simp[bh,nJ,hx,hm,DE h1,JP h2,Option.map_none,OO U,eC]
    .exact⟨⟨O,h8⟩,oG,oG,oG⟩
   .cases h
  .rename_i b hx;split at h
   .rename_i l hh h1 h2;let⟨C,J⟩:=fU h;simp[aH,Nat.ble_eq,Dt] at C;let⟨O,U,h7⟩:=C;rw[Dt] at h2
    have e:(⟨⟨(b.data.toList.drop l).take (hh - l)⟩⟩:ByteArray)=b.extract l hh:=by
     let⟨⟨bl⟩⟩:=b;apply ByteArray.ext;apply Array.ext';exact(Lib.extract_data (⟨⟨bl⟩⟩:ByteArray) l hh).symm
    rw[e] at J;refine .of (val:=.s (.string (b.extract l hh))) (pre:=gR P t=true/\(0:Int)<=l/\(l:Int)<=hh/\(hh:Int)<=b.size) ?_ ?_ J
    .simp[bh,nJ,hx,DE h1,JP h2,Option.map_none,eC]
    .exact⟨O,oG,oG,oG⟩
   .cases h
  .rename_i hx;split at h
   .rename_i h1 h2;let⟨C,J⟩:=fU h;exact .nw (.E' t x lo hi hx (DE h1) (DE h2) C) J
   .cases h
  .cases h
 .rename_i c;cases hR:Od P t ρ m (ρ x) lo hi c with
  |some q=>
   rw[hR] at h;cases h;unfold Od at hR;split at hR
   .rename_i i off n hy kk k hx hc;split at hR
    .rename_i cs e X hh hm h2;have hm:bt m i=some (.cells cs e):=hm;cases hb:(Nat.beq hh n&&Nat.beq k n) with
     |true=>
      rw[hb] at hR;simp[cond_true] at hR;obtain⟨C,rfl⟩:=r5 hR;simp[aH,Nat.beq_eq,zH] at hb C;obtain⟨rfl,rfl⟩:=hb;exact .nw (.ED t x hy c i off _ cs e X kk hx hm h2 hc C.1 C.2.symm) rfl
     |false=>rw[hb] at hR;cases hR
    .cases hR
   .cases hR
  |none=>
  rw[hR] at h;simp only at h;unfold WA at h;split at h
  .rename_i es n l hy kk k hx h1 hc;split at h
   .rename_i X hh h2;cases hb:(Nat.beq l 0&&(Nat.beq hh n&&Nat.beq k n)&&lo.isNone) with
    |true=>
     rw[hb] at h;simp[cond_true] at h;let⟨C,J⟩:=fU h;simp[aH,Nat.beq_eq,zH,Option.isNone_iff_eq_none] at hb C;obtain⟨⟨rfl,rfl,rfl⟩,rfl⟩:=hb;exact .nw (.cut t x hy c es _ X kk hx h2 hc C.1 C.2.symm) J
    |false=>
     rw[hb] at h;simp[cond_false] at h;let⟨C,J⟩:=fU h;simp[aH,Nat.ble_eq] at C;let⟨O,U,h7,h8⟩:=C;simp[zB,rZ] at J;have kF:gd (some (ρ hy)) n=some (hh:Int):=by simp[gd,h2,D.int?]
     refine .of (val:=.sl ((es.drop (l*P.cellsOf (aK P t))).take ((hh - l)*P.cellsOf (aK P t))) (hh - l)) (pre:=bE P t=true/\((some hy).map ρ).isSome=true/\(0:Int)<=l/\(l:Int)<=hh/\(hh:Int)<=k/\(k:Int)<=n) ?_ ?_ J
     .simp[bh,nJ,hx,DE h1,kF,Option.map_some,hc,D.int?,OO U,eC,Int.ofNat_eq_natCast]
     .exact⟨O,rfl,oG,oG,oG,oG⟩
   .cases h
  .rename_i hy kk k hx hc;split at h
   .rename_i X hh h2;cases hb:(Nat.beq hh 0&&Nat.beq k 0&&lo.isNone) with
    |true=>
     rw[hb] at h;simp[cond_true] at h;let⟨C,J⟩:=fU h;simp[aH,Nat.beq_eq,Option.isNone_iff_eq_none] at hb;obtain⟨⟨rfl,rfl⟩,rfl⟩:=hb;exact .nw (.EC t x hy c X kk hx h2 hc C) J
    |false=>rw[hb] at h;cases h
   .cases h
  .cases h
def acI(h:Nn t x k P ρ m nx=some p):fj P (.fieldAddr t x k) ρ (bt m) nx p:=by
 unfold Nn at h;split at h
 .rename_i off C hf;split at h
  .rename_i cs hx;let⟨h1,h2⟩:=fU h;rw[rZ] at h2;refine .of (by simp[bh,hf,hx];rfl) ?_ h2;simpa using h1
  .rename_i i o hx;split at h
   .rename_i r hm;have hm:bt m i=some r:=hm;let⟨h1,h2⟩:=r5 h;refine .of (by simp[bh,hf,hx,hm];rfl) ?_ h2;simpa using h1
   .cases h
  .cases h
 .cases h
def aez(h:Pr t x k P ρ m nx=some p):fj P (.field t x k) ρ (bt m) nx p:=by
 unfold Pr at h;split at h
 .rename_i off C cs hf hx;let⟨h1,h2⟩:=fU h;simp[aH,oq] at h1;rw[DC,rZ] at h2;refine .of (by simp[bh,hf,hx];rfl) ?_ h2;exact h1
 .cases h
def acJ{i:Operand}(h:No t x i P ρ m nx=some p):fj P (.indexAddr t x i) ρ (bt m) nx p:=by
 unfold No at h;split at h
 .rename_i es n C k hx hi;let⟨h1,h2⟩:=fU h;simp only[aH,oq,Nat.blt_eq] at h1;rw[rZ] at h2;refine .of (by simp only[bh,hx,hi];rfl) ?_ h2;exact⟨h1.1,oS,by simp only[Int.ofNat_eq_natCast];omega,h1.2.2⟩
 .rename_i j off n C k hx hi;split at h
  .rename_i r hm;have hm:bt m j=some r:=hm;let⟨h1,h2⟩:=r5 h;simp only[aH,Nat.blt_eq] at h1;refine .of (by simp only[bh,hx,hi,hm];rfl) ?_ h2;exact⟨h1.1,oS,by simp only[Int.ofNat_eq_natCast];omega⟩
  .cases h
 .rename_i j off C k hx hi;split at h
  .rename_i r hm;have hm:bt m j=some r:=hm;let⟨h1,h2⟩:=r5 h;simp only[aH,Nat.blt_eq] at h1;refine .of (by simp only[bh,hx,hi,hm];rfl) ?_ h2;exact⟨h1.1,oS,by simp only[Int.ofNat_eq_natCast];omega⟩
  .cases h
 .cases h
def aeA{i:Operand}(h:Ps t x i P ρ m nx=some p):fj P (.index t x i) ρ (bt m) nx p:=by
 unfold Ps at h;split at h
 .rename_i b C k hx hi;let⟨h1,h2⟩:=fU h;simp only[aH,Nat.blt_eq,Dt] at h1;refine .of (by simp only[bh,hx,hi];rfl) ?_ h2;exact⟨h1.1,oS,by simp only[Int.ofNat_eq_natCast];omega⟩
 .rename_i cs C k hx hi;let⟨h1,h2⟩:=fU h;simp only[aH,Nat.blt_eq,oq] at h1;rw[DC,rZ] at h2;refine .of (by simp only[bh,hx,hi];rfl) ?_ h2;exact⟨h1.1,oS,by simp only[Int.ofNat_eq_natCast];omega,h1.2.2⟩
 .cases h
def ac8(h:Oe x k P ρ m nx=some p):fj P (.extract x k) ρ (bt m) nx p:=by
 unfold Oe at h;split at h
 .rename_i cs hx;split at h
  .rename_i d hd;cases h;let⟨h1,h2⟩:=WE _ _ _ hd;refine .of (by simp only[bh,hx];rfl) ?_ (by rw[h2]);exact h1
  .cases h
 .cases h
def aeB(h:Pt t x P ρ m nx=some p):fj P (.makeInterface t x) ρ (bt m) nx p:=by
 unfold Pt at h;split at h
 .rename_i v hv;let⟨h1,h2⟩:=fU h;simp[aH] at h1;exact .nw (.mkIf t x v hv h1.1 h1.2) h2
 .cases h
def ady{u:TypeId}(h:OM x t ok P ρ m nx=some p):fj P (.typeAssert x u t ok) ρ (bt m) nx p:=by
 unfold OM at h;cases ok with
 |false=>cases h
 |true=>
  simp[cond_true] at h;split at h
  .rename_i v hv;let⟨h1,h2⟩:=fU h;simp[aH] at h1;exact .nw (.EE x u t v hv h1.1.1 h1.1.2 h1.2.1 h1.2.2) h2
  .cases h
def Uy{sz:Nat}{news:List D}(h:Kz m sz d=some (rd,k,news)):∃ q:Prop,kq (bt m) sz d=some (q,rd,k,news)/\q:=by
 unfold Kz at h;split at h
 .rename_i es n;let⟨h1,h2⟩:=Bj h;cases h2;rw[oq] at h1;exact⟨_,by simp[kq,zB],h1⟩
 .cases h;exact⟨True,rfl,aa⟩
 .rename_i i off n;split at h
  .rename_i cs e hm;have hm:bt m i=some (.cells cs e):=hm;let⟨h1,h2⟩:=Bj h;cases h2;rw[oq] at h1;exact⟨_,by simp[kq,hm,zB,rZ],h1⟩
  .cases h
 .cases h
def ah2{b:Builtin}(hc:c.callee=.builtin b)(hx:c.args.toList=xs)(ht:c.argTypes.toList=ts):c={ callee:=.builtin b,args:=xs.toArray,argTypes:=ts.toArray }:=by
 let⟨C,args,J⟩:=c;simp only at hc hx ht;subst hc hx ht;simp
def xy{b:Builtin}(hl:ts.length=xs.length):bh P (.call { callee:=.builtin b,args:=xs.toArray,argTypes:=ts.toArray }) ρ (bt m) nx=fP P (bt m) nx b ts.toArray (xs.map ρ):=by
 simp[bh,hl]
def MZ{b:Builtin}(hc:c.callee=.builtin b)(h:Gq b c.args c.argTypes P ρ m nx=some p):fj P (.call c) ρ (bt m) nx p:=by
 unfold Gq at h;generalize hx:c.args.toList=xs at h;generalize ht:c.argTypes.toList=ts at h;rw[ah2 hc hx ht];have b1:∀ {t:TypeId},([t]:List TypeId).toArray.getD 0 0=t:=rfl;have b2:∀ {t u:TypeId},([t,u]:List TypeId).toArray.getD 0 0=t/\([t,u]:List TypeId).toArray.getD 1 0=u:=⟨rfl,rfl⟩
 unfold buK at h;split at h
 ·
   unfold ZU at h;split at h
   .rename_i x t;split at h
    .rename_i es n hd;let⟨h1,h2⟩:=fU h;refine .of (by rw[xy rfl];simp[fP,map_cons,map_nil,nR,hd,b1];rfl) ?_ h2;exact h1
    .rename_i i off n hd;split at h
     .rename_i r hm;have hm:bt m i=some r:=hm;let⟨h1,h2⟩:=r5 h;refine .of (by rw[xy rfl];simp[fP,map_cons,map_nil,nR,hd,hm,b1];rfl) ?_ h2;exact h1
     .cases h
    .rename_i hd;let⟨h1,h2⟩:=fU h;refine .of (by rw[xy rfl];simp[fP,map_cons,map_nil,nR,hd,b1];rfl) ?_ h2;exact h1
    .rename_i bs hd;let⟨h1,h2⟩:=fU h;rw[Dt] at h2;refine .of (by rw[xy rfl];simp[fP,map_cons,map_nil,nR,hd,b1];rfl) ?_ h2;exact h1
    .rename_i cs hd;let⟨h1,h2⟩:=fU h;refine .of (by rw[xy rfl];simp[fP,map_cons,map_nil,nR,hd,b1];rfl) ?_ h2;exact h1
    .rename_i i hd;split at h
     .rename_i es hm;let⟨h1,h2⟩:=r5 h;exact .nw (.B3 _ x t i es rfl hd hm h1) h2
     .cases h
    .cases h
   .cases h
 ·
   unfold WC at h;split at h
   .rename_i s x t u;split at h
    .rename_i bs hd;unfold YP at h;split at h
     .rename_i hs;let⟨h1,h2⟩:=xA h;simp[aH,Nat.ble_eq] at h1;exact .nw (.Bm _ s x t u bs rfl hs hd (Jz h1.1.1) h1.1.2 h1.2.1 h1.2.2) h2
     .rename_i i off n hs;split at h
      .rename_i cs e hm;obtain⟨h1,rfl⟩:=Bj h;simp[aH,Nat.ble_eq,Nat.beq_eq,zH] at h1;obtain⟨⟨rfl,C,J⟩,U,O,h7⟩:=h1;exact .nw (.By _ s x t u bs i off n cs rfl hs hd hm (Jz C) J U.symm O h7) (by rw[rZ])
      .cases h
     .cases h
    .rename_i eY;cases Se:Nat.beq t u with
     |false=>rw[Se] at h;cases h
     |true=>
     rw[Se] at h;simp[cond_true] at h;obtain rfl:=Nat.eq_of_beq_eq_true Se;split at h
     .rename_i rd k news dh;let⟨q,gh,X⟩:=Uy dh
      have hb:∀ {e:Option ez},tc P (bt m) nx t (ρ s) (ρ x)=e->bh P (.call { callee:=.builtin .append,args:=[s,x].toArray,argTypes:=[t,t].toArray }) ρ (bt m) nx=e:=λ{e} he=>by
       rw[xy rfl];simp[fP,map_cons,map_nil,b2,if_true];exact he
      unfold ZV at h;split at h
      .rename_i hs;let⟨h1,h2⟩:=xA h;simp[aH,Nat.ble_eq,Nat.blt_eq] at h1;refine .of (hb (by simp[tc,gh,hs];rfl)) ?_ h2;exact⟨h1.1,X,h1.2.1,h1.2.2.1,h1.2.2.2⟩
      .rename_i es n hs;let⟨h1,h2⟩:=xA h;simp[aH,Nat.ble_eq,Nat.blt_eq,zH] at h1;let⟨⟨C,J⟩,⟨U,O⟩,h7,h8⟩:=h1;exact .nw (.BK _ s x t es news n k q rd rfl hs gh X C J.symm U O h7 h8) h2
      .rename_i i off n hs;split at h
       .rename_i cs e hm;have hm:bt m i=some (.cells cs e):=hm;obtain⟨h1,rfl⟩:=Bj h;simp only[aH,Nat.ble_eq,Nat.blt_eq,Nat.beq_eq,zH,Of] at h1;obtain⟨⟨⟨C,rfl⟩,J,U⟩,⟨O,h7⟩,h8⟩:=h1;refine .of (hb (by simp only[tc,gh,hs,hm];rfl)) ?_ (by rw[rZ]);exact⟨C,by first|rfl|trivial,X,J,U.symm,O,h7,h8⟩
       .cases h
      .cases h
     .cases h
   .cases h
 ·
   unfold ZW at h;split at h
   .rename_i x y t u;split at h
    .rename_i k a k' b sM hy';let⟨h1,h2⟩:=fU h;have:=DD _ _ h1;subst this
     have e:(bif rL b a then b else a)=if b<a then b else a:=by
      rw[KC];by_cases al:b<a<;>simp[al]
     rw[e] at h2;refine .of (by rw[xy rfl];simp only[fP,map_cons,map_nil,sM,hy'];rfl) ?_ h2
     first|rfl|trivial
    .cases h
   .cases h
 ·
   unfold XG at h;split at h
   .rename_i x t;split at h
    .rename_i i off n hd;split at h
     .rename_i cs e hm;have hm:bt m i=some (.cells cs e):=hm;let⟨h1,h2⟩:=Gr h;simp[aH,Nat.beq_eq,oq] at h1;refine .of (by rw[xy rfl];simp[fP,map_cons,map_nil,hd,hm,b1];rfl) ?_ h2;exact⟨h1.1,h1.2.2,h1.2.1⟩
     .cases h
    .cases h
   .cases h
 ·
   unfold WD at h;split at h
   .rename_i x k t u;split at h
    .rename_i key i hk sM;split at h
     .rename_i es hm;have hm:bt m i=some (.map es):=hm;let⟨h1,h2⟩:=Gr h;simp[aH,Gf] at h1;refine .of (by rw[xy rfl];simp[fP,map_cons,map_nil,xH,hk,sM,hm,b2];rfl) ?_ h2;exact h1
     .cases h
    .cases h
   .cases h
 ·
   unfold YQ at h;split at h
   .rename_i x y t u;split at h
    .rename_i i off n sM;split at h
     .rename_i cs e rd k news hm dh;let⟨q,gh,X⟩:=Uy dh;obtain⟨h1,rfl⟩:=Bj h;simp[aH,Nat.beq_eq,Nat.ble_eq,oq] at h1;obtain⟨⟨rfl,rfl⟩,h2,C,J⟩:=h1;exact .nw (.copy _ x y t i off n k cs news q rd rfl sM hm gh X h2 C J) rfl
     .cases h
    .cases h
   .cases h
 ·
   unfold XH at h;split at h
   .rename_i s t;split at h
    .rename_i i off n hs;split at h
     .rename_i r hm;let⟨h1,h2⟩:=r5 h;exact .nw (.BL _ s t i off n r rfl hs hm (tn h1)) h2
     .cases h
    .cases h
   .cases h
 ·
   unfold YR at h;split at h
   .rename_i x y t u;split at h
    .rename_i i off k0 k hp hn;split at h
     .rename_i cs e hm;split at h
      .rename_i l e' hl he;obtain⟨h1,rfl⟩:=Bj h;simp[aH,Nat.beq_eq,Nat.blt_eq,Nat.ble_eq,cm,Bool.not_eq_true',KC,decide_eq_false_iff_not,decide_eq_true_eq,Int.not_lt] at h1;obtain⟨⟨rfl,rfl⟩,⟨h2,C⟩,J,U⟩:=h1;have O:=I8 hl;rw[zB,rZ] at O;exact .nw (.B4 _ x y t u e' l i off cs k0 rfl hp hn hm O (by intro e;rw[e] at h2;simp at h2) he C J U) rfl
      .cases h
     .cases h
    .cases h
   .cases h
 .cases h
def Px(h:Im o P ρ m nx=some p):fj P o ρ (bt m) nx p:=by
 unfold Im at h;split at h
 .cases h;refine .of (by simp only[bh];rfl) ?_ rfl;trivial
 .cases h;refine .of (by simp only[bh];rfl) ?_ rfl;trivial
 .exact agi h
 .exact aev h
 .exact ahX h
 .exact aew h
 .exact acz h
 .exact agj h
 .exact aex h
 .exact acO h
 .exact ah0 h
 .exact ai8 h
 .exact agl h
 .cases h;refine .of (by simp only[bh];rfl) ?_ rfl;trivial
 .exact ah1 h
 .exact agm h
 .exact agn h
 .exact(WG h).1
 .exact(WG h).2
 .exact aey h
 .exact acI h
 .exact aez h
 .exact acJ h
 .exact aeA h
 .exact ac8 h
 .exact aeB h
 .exact ady h
 .rename_i c;unfold YS at h;cases hc:c.callee with
  |builtin b=>rw[hc] at h;exact MZ hc h
  |_=>rw[hc] at h;cases h
 .cases h
end
end
section
def gu(t:T D):Env:=λi=>getD t i
def bj(c:cg):St:=⟨gu c.env,bt c.mem,c.nx⟩
def o7(env:Env):Env:=λi=>wT (env i)
def ah3(d:D):(wT d).ask/\(wT d).core=wT d:=by cases d<;>exact⟨aa,rfl⟩
def ah4(v:Value):(AH v).ask/\(AH v).core=AH v:=by
 unfold AH;split<;>exact⟨aa,rfl⟩
def Py(env:Env)(x:Operand):(opd (o7 env) x).ask/\(opd (o7 env) x).core=opd (o7 env) x:=by
 cases x with
 |tmp t=>exact ah3 _
 |const v=>exact ah4 v
 |global g=>exact⟨aa,rfl⟩
 |func f=>exact⟨aa,rfl⟩
def zI(env:Env)(o:Op):asks (o7 env) o:=by
 unfold asks;cases o<;>first|exact(Py env _).1|exact λx _=>(Py env x).1
def ai9(env:Env)(o:Op):bS (o7 env) o=opd (o7 env):=by
 unfold bS;cases o<;>first|rfl|(funext x;exact(Py env x).2)
def DF(t:T D):fx t=opd (o7 (gu t)):=by
 funext x;cases x<;>rfl
def Bn(t:T D)(o:Op):bS (o7 (gu t)) o=fx t:=(ai9 _ o).trans (DF t).symm
variable{d:D}{dst:Option Nat}{ρ:Operand->D}{call:qb}
section
variable{P:Program}{F:Nat->Prop}{ops:Array Oper}{o:Oper}{β:aN}{w:World}{a:Act}{c c':cg}{p:bI}
def R.un{v:Value}(h:R F β w d v):R F β w (wT d) v:=by
 cases d with
 |dq=>exact .u v
 |_=>exact h
def gq.un{env:Env}(h:gq F β w env a):gq F β w (o7 env) a:=λt=>(h t).un
def DN{m:T Row}{nx:Nat}(h:Aj c dst d m nx=some c'):bj c'=St.put ⟨gu c.env,bt m,nx⟩ dst d:=by
 unfold Aj at h;cases dst with
 |none=>
  simp[Ra,aY] at h;subst h;rfl
 |some i=>
  simp[Ra] at h;split at h
  .rename_i t ht;cases h
   have e:gu t=up (gu c.env) i d:=by
    funext j;simp[gu,getD,T.ON ht,Dw];by_cases hj:j=i<;>simp[hj]
   simp[bj,St.put,e]
  .cases h
def Bk{m m':T Row}{i:Nat}{r:Option Row}(h:m.put i r=some m'):bt m'=up (bt m) i r:=by
 funext j;simp[bt,T.ON h,Dw]
def VB:∀ {us:List (Nat×Option Row)} {m m':T Row},HA m us=some m'->bt m'=cT (bt m) us
 |[],m,m',h=>by simp[HA,aY] at h;subst h;rfl
 |(i,r)::us,m,m',h=>by
  simp[HA] at h;cases hp:m.put i r with
  |none=>rw[hp] at h;cases h
  |some C=>
   rw[hp] at h;simp only at h;rw[VB h,Bk hp];rfl
def JQ(h:Ak c dst p=some c'):bj c'=St.put ⟨gu c.env,cT (bt c.mem) p.bn,c.nx+p.new⟩ dst p.val:=by
 unfold Ak at h;split at h
 .rename_i m hm;rw[DN h,VB hm]
 .cases h
def YY{st:St}(U:gY ops o st true)(h:bI.Ok P #[] { o with guard:=none } ⟨o7 st.env,st.mem,st.nx⟩ p):bI.Ok P ops o st p:=by
 intro F β w a m env N he C hm hr hn O r n QX K J
 have h1:=h F β w a m (o7 env) N (λt ht=>by
  have:t∈o.looksAt ops:=mem_append_left _ (by simpa[Oper.looksAt] using ht);show wT (env t)=wT (st.env t)
  rw[he t this]) C.un hm hr hn O r n QX K J
 unfold ju at h1 ⊢;rw[U F β w a env he C,bi rfl];rw[bi (by simp[Region.wanted])] at h1;exact h1
def WH(C:gY ops o (bj c) true)(h:fj P o.op (fx c.env) (bt c.mem) c.nx p):p.Ok P ops o (bj c):=by
 apply YY C;cases h with
 |a e h hp=>exact Pk (Bc rfl) (zI _ _) (by rw[<- Bn] at h;exact h) hp
 |n e h=>exact Ws (Bc rfl) (zI _ _) (by rw[<- Bn] at h;exact h)
def aeC{st:St}{op:Op}(h:fj P op ρ st.mem st.nx p):p.pE (de op) st:=by
 cases h with
 |a e h hp=>
  let⟨t1,t2,t3,t4⟩:=Oa h;exact⟨t1,t2,t3,t4⟩
 |n e h=>
  let⟨t1,t2,t3,t4⟩:=h.tidy;exact⟨t1,t2,t3,t4⟩
def I3{j:Nat}{b g:Bool}(hg:o.guard=some (j,b))(h:KA ops j b c=some g):gY ops o (bj c) g:=by
 unfold KA at h;split at h
 .rename_i J C;split at h
  .rename_i t ht;exact Nl hg (t:=t) (by simp[C,ht]) h
  .cases h
 .cases h
def Bo(P:Program)(call:qb):Prop:=∀ f args m nx p,call f args m nx=some p->∀ (o:Oper) (st:St),o.guard=none->st.mem=bt m->st.nx=nx->asks st.env o.op->eB (bS st.env o.op) o.op=some (f,args)->
 p.Ok P #[] o st/\∀ i∈p.wr,st.mem i≠none\/(nx<=i/\i<nx+p.new)
def Og{call:Call}{f:Operand}{g:FuncId}{fs cs:List D}(hc:call.callee=.value f)(hv:ρ f=.fn (.func g) fs cs):eB ρ (.call call)=some (g,fs++call.args.toList.map ρ++cs):=by
 simp[eB,hc,hv]
def XQ(U:Bo P call)(C:gY ops o (bj c) true)(h:Ml o.op P call c=some p):p.Ok P ops o (bj c)/\p.pE (de o.op) (bj c):=by
 have fin:∀ {q:bI},fj P o.op (fx c.env) (bt c.mem) c.nx q->q.Ok P ops o (bj c)/\q.pE (de o.op) (bj c):=λhq=>⟨WH C hq,aeC (st:=bj c) hq⟩
 have other:∀ k:gT,(∀ (c:cg) p,k P (fx c.env) c.mem c.nx=some p->fj P o.op (fx c.env) (bt c.mem) c.nx p)->gK k P call c=some p->p.Ok P ops o (bj c)/\p.pE (de o.op) (bj c):=λk hk hg=>fin (hk c p hg);cases ho:o.op
 case call cl=>
  rw[ho] at h;simp only[Ml] at h;unfold YU at h;cases hc:cl.callee with
  |value f=>
   rw[hc] at h;simp only[XK] at h;split at h
   .rename_i g fs cs hv;have O:=Og hc hv
    have hk:de (.call cl)=2:=by
     let⟨J,aS,ts⟩:=cl;cases hc;rfl
    let⟨h1,h2⟩:=U _ _ _ _ _ h { o with guard:=none } ⟨o7 (gu c.env),bt c.mem,c.nx⟩ rfl rfl rfl (zI _ _) (by rw[Bn,ho];exact O);rw[hk];exact⟨YY C h1,⟨h2,(λh=>by simp at h),(λh=>by simp at h),(λh=>by simp at h)⟩⟩
   .cases h
  |builtin b=>
   rw[hc] at h;rw[<- ho];exact fin (by rw[ho];exact MZ hc h)
  |invoke=>rw[hc] at h;cases h
 all_goals (rw[ho] at h;exact ho▸fin (by rw[ho];exact Px h))
def VC(C:Bo P call)(h:K0 P call ops o c=some p):p.Ok P ops o (bj c)/\p.pE (de o.op) (bj c):=by
 unfold K0 at h;split at h
 .rename_i hg;exact XQ C (Bc hg) h
 .rename_i j b hg;split at h
  .cases h
  .rename_i hv;cases h;exact⟨JO (I3 hg hv) _ λF β w=>.dq false .u undef oS λ_=>rfl,⟨by simp[bI.wr],λ_=>⟨rfl,rfl⟩,λ_=>rfl,λ_=>⟨rfl,by simp[bI.wr]⟩⟩⟩
  .rename_i hv;exact XQ C (I3 hg hv) h
end
end
section
variable{f:FuncId}{args:List D}{call:mX}{e:Exit}{β₀:aN}{w₀:World}{a₀:Act}
section
variable{P:Program}{F:Nat->Prop}{ops:Array Oper}{o:Oper}{β β':aN}{w w':World}{a:Act}{c c':cg}{hd:Hd}
def HOk(P:Program)(F:Nat->Prop)(C:aN)(U:World)(i:Nat)(h:Hf):Prop:=
 ∃ l,(C i=some (.lp l)\/C i=some .dead)/\∀ args m nx b m' aw,m.get i=some (.lp .ready)->h args m nx=some (b,m',aw)->
  sk P F C U l args (bt m) nx λd O J=>d=.s (.bool b)/\O=bt m'/\J=aw
def pF(P:Program)(F:Nat->Prop)(hd:Hd)(β:aN)(w:World):Prop:=∀ i h,Hz hd i=some h->HOk P F β w i h
def pF.step(h:pF P F hd β w)(hs:Step β w β' w'):pF P F hd β' w':=λi f hf=>by
 let⟨l,h1,h2⟩:=h i f hf;refine⟨l,?_,λargs m nx b m' aw hm hr=>(h2 args m nx b m' aw hm hr).base hs⟩;rcases h1 with h1|h1
 .exact hs.iL i _ h1
 .rcases hs.iL i _ h1 with h2|h2<;>exact .inr h2
def vE:pF P F [] β w:=λi h hf=>by simp[Hz] at hf
def Ends(P:Program)(F:Nat->Prop)(β:aN)(w:World)(nx:Nat)(x:D ⊕ List PanicEntry)(m':Mem)(aw:Nat)(e:Ending)(w':World):Prop:=
 ∃ β',(match x with
  | .inl d=>∃ v,e=.returned v/\R F β' w' d v
  | .inr ch=>e=.panicked ch)/\aQ P F m' β' w'/\(∀ i,aw<=i->β' i=none)/\Step β w β' w'/\nx<=aw/\∀ i,i<nx->β i=none->β' i=none
def ZC(P:Program)(hd:Hd)(f:FuncId)(args:List D)(m:Mem)(nx:Nat)(x:D ⊕ List PanicEntry)(m':Mem)(aw:Nat):Prop:=
 nB P f=true/\∀ F β w vs,pF P F hd β w->aQ P F m β w->(∀ i,nx<=i->β i=none)->Rs F β w args vs->Calls P f vs w (Ends P F β w nx x m' aw)
def xK(P:Program)(hd:Hd)(call:mX):Prop:=∀ f args m nx x m' aw,call f args m nx=some (x,m',aw)->ZC P hd f args (bt m) nx x (bt m') aw
def NJ{env:Env}(O:Region.wanted o (yielded ops a.tmps)=true)(C:gq F β w env a)(ha:asks env o.op)
 (h:eB (bS env o.op) o.op=some (f,args)) (he:nB P f=true) {r:Option Nat} {n:Nat} {QX:Exit->Act->World->Prop} {K:Act->World->Prop}
 (J:∀ vs,Rs F β w args vs->Calls P f vs w λe w'=>(∃ v,e=.returned v/\K (a.put o.dst v) w')\/∃ ch,e=.panicked ch/\QX (.panic ch) a w'):ju r n P ops QX o K a w:=by
 let⟨vs,h1,h2⟩:=TX (F:=F) (β:=β) (w:=w) C ha h he;rw[ju,O,bi rfl];refine⟨λ_ _=>trivial,?_⟩;rw[BC (TN h),h1];refine⟨oS,Jw ((J vs h2).mono ?_)⟩;rintro e w' (⟨v,rfl,hk⟩|⟨ch,rfl,hk⟩)
 .exact hk
 .exact hk
def Er(P:Program)(F:Nat->Prop)(ops:Array Oper)(o:Oper)(c c':cg)(oc:Option (List PanicEntry))(β:aN)(w:World)(a:Act)(r:Option Nat)(n:Nat):Prop:=
 ∀ (QX:Exit->Act->World->Prop) (K:Act->World->Prop),(oc=none->∀ β' a' w',cy P F (bj c') β' w' a'->eM c.nx β w a (bj c') β' w' a'->K a' w')->
  (∀ ch,oc=some ch->∀ β' w',cy P F (bj c') β' w' a->eM c.nx β w a (bj c') β' w' a->QX (.panic ch) a w')->ju r n P ops QX o K a w
variable{oc:Option (List PanicEntry)}{r:Option Nat}{n:Nat}
def JA{x:Option cg}(h:Io x=some (oc,c')):oc=none/\x=some c':=by
 cases x with
 |none=>cases h
 |some C=>cases h;exact⟨rfl,rfl⟩
def ago{p:Option bI}(hp:∀ q,p=some q->q.Ok P ops o (bj c))(h:ZX c o.dst p=some (oc,c'))(hs:cy P F (bj c) β w a)(hd:∀ t,o.dst=some t->t<a.tmps.size):Er P F ops o c c' oc β w a r n:=by
 cases p with
 |none=>cases h
 |some q=>
  obtain⟨rfl,h1⟩:=JA h;refine λQX K U X=>Jf (hp q rfl) hs hd r n QX λβ' a' w' C J=>?_;have e:=JQ h1;have O:St.put ⟨(bj c).env,cT (bj c).mem q.bn,(bj c).nx+q.new⟩ o.dst q.val=bj c':=e.symm;rw[O] at C J;exact U rfl β' a' w' C J
def NK{st:St}{m':Mem}{aw:Nat}{dst:Option Nat}{d:D}{v:Value}(h1:Step β w β' w')(h2:st.nx<=aw)(C:∀ i,i<st.nx->β i=none->β' i=none):eM st.nx β w a (St.put ⟨st.env,m',aw⟩ dst d) β' w' (a.put dst v):=
 ⟨h1,by rw[Dq];exact h2,C,xD _ _ _,put_defers _ _ _⟩
def agp{x:Option qF}(hw:gY ops o (bj c) true)(hc:eB (fx c.env) o.op=some (f,args))(hz:∀ y m' aw,x=some (y,m',aw)->ZC P hd f args (bt c.mem) c.nx y (bt m') aw)
 (h:Rb c o.dst x=some (oc,c')) (hh:pF P F hd β w) (hs:cy P F (bj c) β w a) (gO:∀ t,o.dst=some t->t<a.tmps.size):Er P F ops o c c' oc β w a r n:=by
 have J:Region.wanted o (yielded ops a.tmps)=true:=hw F β w a (bj c).env (λ_ _=>rfl) hs.e;have hC:eB (bS (o7 (gu c.env)) o.op) o.op=some (f,args):=by rw[Bn];exact hc
 cases x with
 |none=>cases h
 |some y=>
  let⟨y,m',aw⟩:=y;have hz:=hz y m' aw rfl;cases y with
  |inl d=>
   obtain⟨rfl,h1⟩:=JA h;have e:=DN h1;intro QX K hK _;refine NJ J hs.e.un (zI _ _) hC hz.1 λvs hR=>?_;refine(hz.2 F β w vs hh hs.m hs.n hR).mono λe1 w' hp=>?_;obtain⟨β',⟨v,rfl,O⟩,U,X,C,g6,g7⟩:=hp;refine .inl ⟨v,rfl,hK rfl β' _ w' ?_ ?_⟩
   .rw[e];exact cy.put (st':=⟨gu c.env,bt m',aw⟩) (hs.e.step C) gO O U X
   .rw[e];exact NK (st:=bj c) C g6 g7
  |inr ch=>
   simp[Rb,aY,cO] at h;obtain⟨rfl,rfl⟩:=h;intro QX K _ hX;refine NJ J hs.e.un (zI _ _) hC hz.1 λvs hR=>?_;refine(hz.2 F β w vs hh hs.m hs.n hR).mono λe1 w' hp=>?_;let⟨β',O,U,X,C,g6,g7⟩:=hp;exact .inr ⟨ch,O,hX ch rfl β' w' ⟨hs.e.step C,U,X⟩ ⟨C,g6,g7,rfl,rfl⟩⟩
def aeD{f:Operand}{cl:Call}{i:Nat}(ho:o.op=.call cl)(hf:cl.callee=.value f)(hw:gY ops o (bj c) true)(hv:fx c.env f=.yl i)
 (h:Pu i (cl.args.toList.map (fx c.env)) P hd call o.dst c=some (oc,c')) (hh:pF P F hd β w) (hs:cy P F (bj c) β w a) (gO:∀ t,o.dst=some t->t<a.tmps.size):Er P F ops o c c' oc β w a r n:=by
 unfold Pu at h;split at h
 .rename_i AP hg an;cases hx:AP (cl.args.toList.map (fx c.env)) c.mem c.nx with
  |none=>rw[hx] at h;cases h
  |some x=>
   let⟨b,m',aw⟩:=x;rw[hx] at h;obtain⟨rfl,h1⟩:=JA h;have e:=DN h1;let⟨l,J,g2⟩:=hh i AP hg;have hy:=g2 _ _ _ _ _ _ an hx;let⟨p,hp,hpr⟩:=hs.m.row i _ an;have U:=hs.e.un;have hR:∀ x,R F β w (fx c.env x) (a.eval x):=λx=>by rw[DF];exact U.opd x
   have Cn:a.eval f=.func (.yield l) #[] #[]:=by
    have h2:=hR f;rw[hv] at h2;generalize a.eval f=u at h2;cases h2 with
    |yl _ l' C=>
     rcases J with J|J
     .rw[J] at C;cases C;rfl
     .rw[J] at C;cases C
    |E3 _ _ C _=>rw[C] at hp;cases hp;cases hpr
   let⟨q1,q2⟩:=DY (F:=F) (β:=β) (w:=w) (xs:=cl.args) (ρ:=fx c.env) (a:=a) (λx _=>hR x);let⟨O,tmps,assign,body,k1,k2⟩:=hy β w (cl.args.map a.eval) (Step.refl β w) hs.m hs.n ⟨tn q1,λj d u hd hu=>q2 j d u hd (tn hu)⟩;intro QX K hK _;rw[ju,hw F β w a (bj c).env (λ_ _=>rfl) hs.e,bi rfl];refine⟨λ_ _=>trivial,?_⟩
   have X:(execOp a.eval o).run P w=(Instr.yield l (cl.args.map a.eval)).run P w:=by
    rw[execOp,ho];simp only[resolve,hf,Sem.run_bind,Cn,Deferred.ofValue,Sem.run_pure,Result.andThen_ok,invoke];simp
   rw[BC (λc hc=>by rw[ho] at hc;cases hc),X,k1];refine⟨oS,?_⟩;refine RoundIn.mono (F:=Fe r) (show RoundIn (Fe r) (n - 1) P l O tmps assign body w _ from k2 (n - 1)) λe1 w' hp=>?_;obtain⟨v,d,m2,jl,β',rfl,⟨rfl,rfl,rfl⟩,j3,j4,j5,j6,j7,j8⟩:=hp;refine hK rfl β' _ w' ?_ ?_
   .rw[e];exact cy.put (st':=⟨gu c.env,bt m',jl⟩) (hs.e.step j6) gO j5 j3 j4
   .rw[e];exact NK (st:=bj c) j6 j7 j8
 .cases h
def WI(kM:xK P hd call)(C:gY ops o (bj c) true)(h:Ip o.op P hd call o.dst c=some (oc,c'))(hh:pF P F hd β w)(hs:cy P F (bj c) β w a)(J:∀ t,o.dst=some t->t<a.tmps.size):
 Er P F ops o c c' oc β w a r n:=by
 have U:∀ {k:gT},(∀ p,k P (fx c.env) c.mem c.nx=some p->fj P o.op (fx c.env) (bt c.mem) c.nx p)->fK k P hd call o.dst c=some (oc,c')->Er P F ops o c c' oc β w a r n:=λhk hg=>ago (λq hq=>WH C (hk q hq)) hg hs J;cases ho:o.op
 case call cl=>
  rw[ho] at h;simp only[Ip] at h;unfold YT at h;cases hc:cl.callee with
  |value f=>
   rw[hc] at h;simp only[XI] at h;split at h
   .rename_i g fs cs hv;exact agp C (by rw[ho];exact Og hc hv) (λy m' aw hy=>kM _ _ _ _ _ _ _ hy) h hh hs J
   .rename_i i hv;exact aeD ho hc C hv h hh hs J
   .cases h
  |builtin b=>
   rw[hc] at h;exact U (λp hp=>by rw[ho];exact MZ hc hp) h
  |invoke=>rw[hc] at h;cases h
 case panic x=>
  rw[ho] at h;simp only[Ip,XJ] at h;split at h
  .rename_i t v hv;cases h;intro QX K _ X;have hR:R F β w (fx c.env x) (a.eval x):=by rw[DF];exact hs.e.un.opd x
   rw[hv] at hR;rw[ju,C F β w a (bj c).env (λ_ _=>rfl) hs.e,bi rfl];refine⟨λ_ _=>trivial,?_⟩
   have O:(execOp a.eval o).run P w=.halt (.panic (.iface t v)) w:=by
    rw[execOp,ho];simp only[hR.cX.1,Sem.run_bind];rfl
   rw[BC (λc hc=>by rw[ho] at hc;cases hc),O];exact X _ rfl β w hs (eM.refl (bj c) β w a)
  .cases h
 all_goals (rw[ho] at h;exact U (λp hp=>by rw[ho];exact Px hp) h)
def DO(U:xK P hd call)(h:Sd P hd call ops o c=some (oc,c'))(hh:pF P F hd β w)(hs:cy P F (bj c) β w a)(C:∀ t,o.dst=some t->t<a.tmps.size):
 Er P F ops o c c' oc β w a r n:=by
 unfold Sd at h;split at h
 .rename_i hg;exact WI U (Bc hg) h hh hs C
 .rename_i j b hg;split at h
  .cases h
  .rename_i hv;obtain⟨rfl,h1⟩:=JA h;have e:=DN h1;have X:St.put ⟨(bj c).env,cT (bj c).mem [],(bj c).nx+0⟩ o.dst yh=bj c':=e.symm;refine λQX K hK hX=>Jf (JO (I3 hg hv) yh λF β w=>.dq false .u undef oS λ_=>rfl) hs C r n QX λβ' a' w' J O=>?_;rw[X] at J O;exact hK rfl β' a' w' J O
  .rename_i hv;exact WI U (I3 hg hv) h hh hs C
def QE(e:Exit)(c':cg):Exit->St->Prop:=λe2 C=>e2=e/\C=bj c'
def Uz{N tl:Nat}{QX:Exit->Act->World->Prop}(kM:xK P hd call)(hh:pF P F hd β₀ w₀)(al:nP a₀.tmps.size ops=true)
 (hX:∀ ch,e=.panic ch->∀ β w a,cy P F (bj c') β w a->eM N β₀ w₀ a₀ (bj c') β w a->QX (.panic ch) a w):
 ∀ (rest:List Oper) (k:Nat) (c:cg) (β:aN) (w:World) (a:Act),(∀ j o,rest[j]? =some o->ops[k+j]? =some o)->uB P hd call ops rest c=some (e,c')->cy P F (bj c) β w a->eM N β₀ w₀ a₀ (bj c) β w a->
  (e=.normal->∀ β w a,cy P F (bj c') β w a->eM N β₀ w₀ a₀ (bj c') β w a->wpOpsIn (Fe r) n P ops QX (range' (k+rest.length) tl) a w)->
  wpOpsIn (Fe r) n P ops QX (range' k (rest.length+tl)) a w:=by
 intro rest
 induction rest with
 |nil=>
  intro k c β w a hk h hs C X;simp[uB,aY,cO] at h;obtain⟨rfl,rfl⟩:=h;simpa using X rfl β w a hs C
 |cons o rest ih=>
  intro k c β w a hk h hs C X;have ho:ops[k]? =some o:=hk 0 o rfl;have e1:(o::rest).length+tl=(rest.length+tl)+1:=by simp;omega
  rw[e1,range'_succ,wpOpsIn_cons];apply Dg ho;have gO:∀ t,o.dst=some t->t<a.tmps.size:=λt ht=>by rw[C.size];exact vC al ho t ht
  simp[uB] at h;split at h
  .rename_i c1 h1;refine DO kM h1 (hh.step C.step) hs gO _ _ (λ_ β' a' w' O U=>ih (k+1) c1 β' w' a' (λj o hj=>by rw[Nat.add_right_comm];exact hk (j+1) o (tn hj)) h O (C.trans U) λhe β w a q1 q2=>?_) (λch J=>by cases J);have:=X he β w a q1 q2;rw[show k+(o::rest).length=k+1+rest.length by simp;omega] at this;exact this
  .rename_i ch c1 h1;simp[aY,cO] at h;obtain⟨rfl,rfl⟩:=h
   exact DO kM h1 (hh.step C.step) hs gO _ _ (λJ=>by cases J) λch' J β' w' O U=>by
    cases J;exact hX _ rfl β' w' a O (C.trans U)
  .cases h
def agq{N:Nat}(J:xK P hd call)(hh:pF P F hd β₀ w₀)(al:nP a₀.tmps.size ops=true){c:cg}{β:aN}{w:World}{a:Act}(h:uB P hd call ops ops.toList c=some (e,c'))(hs:cy P F (bj c) β w a)(C:eM N β₀ w₀ a₀ (bj c) β w a):
 wpOpsIn (Fe r) n P ops (dV P F N β₀ w₀ a₀ (QE e c')) (range ops.size) a w:=by
 have:=Uz (r:=r) (n:=n) (tl:=0) (QX:=dV P F N β₀ w₀ a₀ (QE e c')) J hh al (λch he β w a h1 h2=>⟨_,β,⟨he.symm,rfl⟩,h1,h2⟩) ops.toList 0 c β w a (λj o hj=>tn hj) h hs C λhe β w a h1 h2=>⟨_,β,⟨he.symm,rfl⟩,h1,h2⟩
 rw[range_eq_range'];simpa using this
end
end
section
variable{P:Program}{F:Nat->Prop}{ops:Array Oper}{β:aN}{w:World}{a:Act}{c c':cg}{hd:Hd}{cf:List (Nat×Nat)}{Q:Exit->St->Prop}
def Bd{l:List Nat}:∀ {xs:List Nat},meets l xs=false->∀ x∈xs,x∉l
 |[],_,x,hx=>by cases hx
 |y::xs,h,x,hx=>by
  simp[meets,Bool.or_eq_false_iff,Bool.not_eq_false'] at h;rcases mem_cons.1 hx with rfl|hx
  .exact(Of _ _).1 h.1
  .exact Bd h.2 x hx
def M0{ps:List bI}:∀ {l:List (Nat×Nat)},BE ps l=true->∀ q∈l,mT (ps.map λp=>(p.rd,p.wr)) q.1 q.2
 |[],_,q,hq=>by cases hq
 |p::l,h,q,hq=>by
  simp[BE,aH] at h;rcases mem_cons.1 hq with rfl|hq
  .have h:=h.1;unfold XL at h;split at h
   .rename_i x y hx hy;simp[aH,Bool.not_eq_true'] at h;simp[mT,List.getD,getElem?_map,hx,hy,Option.map_some,Option.getD_some];exact⟨λz hz=>⟨Bd h.1 z hz,Bd h.2.1 z hz⟩,λz hz=>Bd h.2.2 z hz⟩
   .cases h
  .exact M0 h.2 q hq
def NL{call:qb}(C:Bo P call):∀ {os:List Oper} {ps:List bI} {c c':cg} {tr:o0},D5 P call ops os c=some (ps,c')->(∀ q∈cf,mT (tr++ps.map λp=>(p.rd,p.wr)) q.1 q.2)->Q .normal (bj c')->GB P ops cf Q os ps (bj c) tr
 |[],ps,c,c',tr,h,h1,h2=>by
  simp[D5,aY,cO] at h;obtain⟨rfl,rfl⟩:=h;exact⟨tn h1,h2⟩
 |o::os,ps,c,c',tr,h,h1,h2=>by
  simp[D5] at h;split at h
  .rename_i p hp;split at h
   .rename_i J yW;split at h
    .rename_i ps1 c2 X;simp[aY,cO] at h;obtain⟨rfl,rfl⟩:=h;let⟨O,U⟩:=VC C hp;refine⟨O,U,?_⟩;have e:yS (bj c) o p=bj J:=(JQ yW).symm;rw[e];exact NL C X (tn h1) h2
    .cases h
   .cases h
  .cases h
def VD{jv:mX}{kL:qb}{r:Option Nat}{n id:Nat}{e:Exit}(lZ:P.follows .mixedOrders=true)(ht:xK P hd jv)(hp:Bo P kL)(al:nP a.tmps.size ops=true)(h:K2 P hd jv kL ops c (bV ops)=some (e,c'))
 (hh:pF P F hd β w) (hs:cy P F (bj c) β w a):(Code.region id ops true).wpIn (Fe r) n P (dV P F c.nx β w a (QE e c')) a w:=by
 cases hi:bV ops with
 |none=>rw[hi] at h;cases h
 |some cf=>
  rw[hi] at h;simp only[K2] at h;split at h
  .rename_i ps X h1;cases C:BE ps cf with
   |false=>rw[C] at h;cases h
   |true=>
    rw[C] at h;simp only[cond_true,aY,cO] at h;obtain⟨rfl,rfl⟩:=h;have oY:=NL (Q:=QE .normal X) hp (tr:=[]) h1 (tn (M0 C)) ⟨rfl,rfl⟩;have J:=F7 (λj=>ops.toList.getD j default) (λj=>ps.getD j default) (bj c) ops.toList ps 0 [] (λj o hj=>by simp at hj;simp[hj]) (λj p hj=>by simp[hj]) rfl oS oY;simp only[Nat.zero_add,Array.length_toList] at J;let⟨k1,k2,k3⟩:=J;exact NA lZ hi al (bK _) (λj hj=>k1 j (Nat.zero_le _) hj) (λ_=>k2) (λh=>absurd h (Nat.lt_irrefl _)) k3 hs (eM.refl (bj c) β w a)
  .cases hl:BM ops with
   |false=>rw[hl] at h;cases h
   |true=>
    rw[hl] at h;simp only[cond_true] at h;split at h
    .rename_i ps X h1;cases C:BE ps cf with
     |false=>rw[C] at h;cases h
     |true=>
      rw[C] at h;simp only[cond_true] at h;let⟨lF,hb⟩:=Nj hl;have oY:=NL (Q:=λ_ st=>st=bj X) hp (tr:=[]) h1 (tn (M0 C)) rfl;have hlen:(ops.toList.take (ops.size - 1)).length=ops.size - 1:=by simp
      have J:=F7 (λj=>ops.toList.getD j default) (λj=>ps.getD j default) (bj c) (ops.toList.take (ops.size - 1)) ps 0 [] (λj o hj=>by
       have jm:j<ops.size - 1:=by rw[<- hlen];exact(bO.1 hj).1
       rw[getElem?_take,bi jm] at hj
       simp at hj;simp[hj]) (λj p hj=>by simp[hj]) rfl oS oY
      rw[hlen] at J;simp only[Nat.zero_add] at J;let⟨k1,k2,k3⟩:=J;refine NA lZ hi al (nl:=ops.size - 1) oG (λj hj=>k1 j (Nat.zero_le _) hj) (λh=>by omega) (λ_=>⟨oG,hb,λr n=>?_⟩) k3 hs (eM.refl (bj c) β w a);rw[k2];have mF:ops.size - 1<ops.size:=by omega
      have hx:ops[ops.size - 1]? =some (ops.toList.getD (ops.size - 1) default):=by simp[mF]
      have kU:ops.toList.drop (ops.size - 1)=[ops.toList.getD (ops.size - 1) default]:=by
       have vd:ops.size - 1<ops.toList.length:=by simp;omega
       rw[drop_eq_getElem_cons vd,drop_eq_nil_of_le oP];simp[List.getD,mF]
      rw[kU] at h;intro β1 w1 a1 dY O K hK;have gO:∀ t,(ops.toList.getD (ops.size - 1) default).dst=some t->t<a1.tmps.size:=λt ht=>by rw[O.size];exact vC al hx t ht
      simp only[uB] at h;split at h
      .rename_i c2 h2;simp only[aY,cO] at h;obtain⟨rfl,rfl⟩:=h;exact DO ht h2 (hh.step O.step) dY gO _ _ (λ_ β' a' w' g1 g2=>hK _ _ ⟨_,β',⟨rfl,rfl⟩,g1,O.trans g2⟩) λch U=>by cases U
      .rename_i ch c2 h2;simp only[aY,cO] at h;obtain⟨rfl,rfl⟩:=h
       exact DO ht h2 (hh.step O.step) dY gO _ _ (λU=>by cases U) λch' U β' w' g1 g2=>by
        cases U;exact⟨_,β',⟨rfl,rfl⟩,g1,O.trans g2⟩
      .cases h
    .cases h
end
def uk(P:Program)(F:Nat->Prop)(rf:Bool)(N:Nat)(β:aN)(w:World)(a:Act)(e:Exit)(s':cg)(e2:Exit)(a2:Act)(C:World):Prop:=G9 P F N β w a (QE e s') e2 a2 C/\(rf=false->a2.defers=a.defers)
def uC(P:Program)(ev:Ev):Prop:=∀ (hd:Hd) (rf:Bool) (c:Code) (s:cg) (e:Exit) (s':cg),ev hd rf c s=some (e,s')->∀ (F:Nat->Prop) (r:Option Nat) (n:Nat) (β:aN) (w:World) (a:Act),
 (rf=true->r=none)->pF P F hd β w->gG a.tmps.size c=true->cy P F (bj s) β w a->c.wpIn (Fe r) n P (uk P F rf s.nx β w a e s') a w
def K6(P:Program)(jk:FuncId->Option (Func×Code)):Prop:=∀ f fn c,jk f=some (fn,c)->yA P f fn c
section
variable{P:Program}{F:Nat->Prop}{fn:Func}{x:Ctx}{ev:Ev}{hd:Hd}{c:cg}
def Oh{t C:T D}{i:Nat}{d:D}(h:t.put i (some d)=some C):gu C=up (gu t) i d:=by
 funext j;simp[gu,getD,T.ON h,Dw];by_cases hj:j=i<;>simp[hj]
def Ub:∀ (ds:List D) (k:Nat) (t C:T D),zN k ds t=some C->∀ j,gu C j=if k<=j/\j<k+ds.length then ds.getD (j - k) .u else gu t j
 |[],k,t,C,h,j=>by
  simp only[zN,aY] at h;subst h;rw[ai (by simp only[length_nil];omega)]
 |d::ds,k,t,C,h,j=>by
  simp[zN] at h;split at h
  .rename_i t1 h1;rw[Ub ds (k+1) t1 C h j,Oh h1];simp[length_cons,Dw];by_cases hj:j=k
   .subst hj;rw[ai oG,bi rfl,bi ⟨bK _,oG⟩];simp
   .by_cases h2:k+1<=j/\j<k+1+ds.length
    .rw[bi h2,bi oG];have:j - k=(j - (k+1))+1:=by omega
     rw[this];simp
    .rw[ai h2,ai hj,ai oG]
  .cases h
def NM{args:List D}{t:T D}(h:zN 0 args .leaf=some t):gu t=mW args:=by
 funext j;rw[Ub args 0 .leaf t h j];unfold mW;by_cases hj:j<args.length
 .rw[bi ⟨Nat.zero_le _,oG⟩];simp
 .rw[ai oG];simp[gu,Abs.getD];have:(T.leaf:T D).get j=none:=by unfold T.get;exact Be _
  simp[this,hj]
def ah5{r:ResultVar}{d:D}(h:Rc P c r=some d):∃ p:Prop,tB P (bj c) r=some (p,d)/\p:=by
 unfold Rc at h;split at h
 .cases h;exact⟨True,rfl,aa⟩
 .rename_i a t;split at h
  .rename_i i off ha;split at h
   .rename_i cs e hm;cases hb:(aT P t&&kB (off+P.cellsOf t) cs) with
    |false=>rw[hb] at h;cases h
    |true=>
     rw[hb] at h;simp[cond_true,aY] at h;simp[aH,oq] at hb;refine⟨aT P t=true/\off+P.cellsOf t<=cs.length,?_,hb⟩;have C:(bj c).env a=.rp i off:=ha;have J:(bj c).mem i=some (.cells cs e):=hm;simp[tB,C,J, <- h,DC,rZ]
   .cases h
  .rename_i cs ha;cases hb:(aT P t&&kB (P.cellsOf t) cs) with
   |false=>rw[hb] at h;cases h
   |true=>
    rw[hb] at h;simp[cond_true,aY] at h;simp[aH,oq] at hb;refine⟨aT P t=true/\P.cellsOf t<=cs.length,?_,hb⟩;have C:(bj c).env a=.pt cs:=ha;simp[tB,C, <- h,DC]
  .cases h
def JR{K:List D->Prop}:∀ (rs:List ResultVar) (ds C:List D),HB P c rs=some ds->K (C++ds)->sF P (bj c) rs C K
 |[],ds,C,h,hk=>by
  simp[HB,aY] at h;subst h;simpa[sF] using hk
 |r::rs,ds,C,h,hk=>by
  simp[HB] at h;split at h
  .rename_i d hd;split at h
   .rename_i J h1;cases h;let⟨p,h2,O⟩:=ah5 hd;simp[sF,h2];exact⟨O,JR rs J (C++[d]) h1 (tn hk)⟩
   .cases h
  .cases h
def OP(lZ:P.follows .mixedOrders=true)(Re:K6 P x.jk)(iQ:uC P ev){f:FuncId}{args:List D}{m m':T Row}{nx aw:Nat}{y:D ⊕ List PanicEntry}(h:Al P x ev hd f args m nx=some (y,m',aw)):ZC P hd f args (bt m) nx y (bt m') aw:=by
 unfold Al at h;split at h
 .cases h
 .rename_i fn c hf;let⟨X,hb,al,he⟩:=Re _ _ _ hf;refine⟨he,λF β w vs hh hm eh hR=>?_⟩;cases hn:kB args.length (replicate fn.ntmps .u) with
  |false=>rw[hn] at h;cases h
  |true=>
   rw[hn] at h;have eZ:args.length<=fn.ntmps:=by simpa[oq] using hn
   simp[cond_true] at h;split at h
   .cases h
   .rename_i t ht;cases hx:ev hd true c ⟨t,m,nx⟩ with
    |none=>rw[hx] at h;cases h
    |some es=>
     let⟨e,s⟩:=es;rw[hx] at h;have CH:bj ⟨t,m,nx⟩=⟨mW args,bt m,nx⟩:=by rw[<- NM ht];rfl
     apply Vs X hb eZ hm eh hR (λa ha hs=>wpIn_mono (iQ hd true c ⟨t,m,nx⟩ e s hx F none 0 β w a (λ_=>rfl) hh (by rw[ha];exact al) (by rw[CH];exact hs)) λ_ _ _ h=>h.1);rintro e2 st' β' w' a' ⟨rfl,rfl⟩ hs U C J
     have O:ug P fn s=some (y,m',aw)->∃ v,(results fn a'.tmps).run P w'=.ok v w'/\Ends P F β w nx y (bt m') aw (.returned v) w':=λh=>by
      unfold ug at h;split at h
      .rename_i ds cn;simp[aY,cO] at h;obtain⟨rfl,rfl,rfl⟩:=h;obtain⟨v,d,g1,rfl,g3⟩:=I5 (fn:=fn) (K:=λd=>d=uz ds) hs (JR _ ds [] cn rfl);exact⟨v,g1,β',⟨v,rfl,g3⟩,hs.m,hs.n,U,C,J⟩
      .cases h
     cases e2 with
     |normal=>exact O h
     |ret=>exact O h
     |panic ch=>
      simp[KB,aY,cO] at h;obtain⟨rfl,rfl,rfl⟩:=h;exact⟨β',rfl,hs.m,hs.n,U,C,J⟩
     |_=>cases h
end
section
variable{P:Program}{F:Nat->Prop}{β β':aN}{w w':World}{m:Mem}
def K7{U:aN}{O:World}{i l:Nat}{L:Loop}{k:RS}(hm:aQ P F m β w)(hi:m i=some (.lp k))(h1:U i=some (.lp l))(X:O.heap[l]? =some (.loop L))(hs:Step U O β w):
 β i=some (.lp l)/\∃ st pe,w.heap[l]? =some (.loop { L with state:=st,pending:=pe })/\RS.Is { L with state:=st,pending:=pe } k:=by
 let⟨p,hp,hr⟩:=hm.row i _ hi;cases hr with
 |lp _ r L' hb hk=>
  have C:β i=some (.lp l):=by
   rcases hs.iL i _ h1 with h2|h2
   .exact h2
   .rw[h2] at hp;cases hp
  rw[C] at hp;cases hp;let⟨st,pe,J⟩:=hs.lp i l h1 C L X;rw[J] at hb;cases hb;exact⟨C,st,pe,J,hk⟩
def Oi{i l:Nat}{L:Loop}{st:LoopState}{pe:Option Code}{r:Option Row}(hm:aQ P F m β w)(J:β i=some (.lp l))(hL:w.heap[l]? =some (.loop L))
 (hr:∀ r',r=some r'->∃ k,r'=.lp k/\RS.Is { L with state:=st,pending:=pe } k):
 aQ P F (up m i r) β (w.putObj l (.loop { L with state:=st,pending:=pe }))/\Step β w β (w.putObj l (.loop { L with state:=st,pending:=pe }))/\(w.putObj l (.loop { L with state:=st,pending:=pe })).heap[l]? =some (.loop { L with state:=st,pending:=pe }):=by
 have al:=hm.lt i _ l J rfl;have U:(w.putObj l (.loop { L with state:=st,pending:=pe })).heap[l]? =some (.loop { L with state:=st,pending:=pe }):=World.putObj_heap_same al
 have hs:Step β w β (w.putObj l (.loop { L with state:=st,pending:=pe })):=⟨oS,λb _ hf=>⟨World.putObj_heap_other λe=>hf i _ J (by rw[e];rfl),hf⟩,λ_ _ h=>.inl h,⟨rfl,rfl⟩,λj q _ _=>by
  by_cases hq:q=l
  .subst hq;intro L0 C;rw[hL] at C;cases C;exact⟨st,pe,U⟩
  .exact pV (World.putObj_heap_other hq)⟩
 refine⟨⟨λj r' hj=>?_,hm.inj,λj p b hp hb=>tn (hm.lt j p b hp hb),hm.nf,hm.fb.next (λb hb=>tn (hm.fb.lt b hb)) (λ_ h=>h) λt ht X=>World.putObj_heap_other λe=>hm.nf i _ l J rfl (e▸X)⟩,hs,U⟩;by_cases O:j=i
 .subst O;rw[ap] at hj;obtain⟨k,rfl,hk⟩:=hr r' hj;exact⟨_,J,.lp k l _ U hk⟩
 .rw[aW _ _ O] at hj;let⟨p,hp,an⟩:=hm.row j r' hj;exact⟨p,hp,an.step hs λb hb=>World.putObj_heap_other λe=>O (hm.inj j i p _ l hp J (by rw[hb,e]) rfl)⟩
def TO:∀ (ps:List Tmp) (ds:List D) (t C:T D),DL t ps ds=some C->gu C=xU (gu t) ps ds
 |[],ds,t,C,h=>by simp[DL,aY] at h;subst h;rfl
 |_::_,[],t,C,h=>by simp[DL,aY] at h;subst h;rfl
 |p::ps,d::ds,t,C,h=>by
  simp[DL] at h;split at h
  .rename_i t1 h1;rw[TO ps ds t1 C h,Oh h1];rfl
  .cases h
def uk.trans{rf:Bool}{s s1 s':cg}{a a1 a':Act}{O:aN}{J:World}{e C:Exit}(h:qw s.nx β w a (bj s1) O J a1)(hd:rf=false->a1.defers=a.defers)(k:uk P F rf s1.nx O J a1 e s' C a' w'):uk P F rf s.nx β w a e s' C a' w':=by
 let⟨⟨st',β',h1,h2,U⟩,X⟩:=k;exact⟨⟨st',β',h1,h2,h.trans U⟩,λe=>(X e).trans (hd e)⟩
structure ss(P:Program)(x:Ctx):Prop where
 mix:P.follows .mixedOrders=true
 jk:K6 P x.jk
 known:∀ f args r,x.known f args=some r->aE P f args r
 GX:∀ f args m nx y m' aw,x.GX f args m nx=some (y,m',aw)->ZC P [] f args (bt m) nx y (bt m') aw
variable{x:Ctx}{ev:Ev}{hd:Hd}
def ZC.any{f:FuncId}{args:List D}{nx aw:Nat}{y:D ⊕ List PanicEntry}{m':Mem}(h:ZC P [] f args m nx y m' aw):ZC P hd f args m nx y m' aw:=
 ⟨h.1,λF β w vs _=>h.2 F β w vs vE⟩
def agr(hx:ss P x)(iQ:uC P ev){g:Operand}{ps:Array Tmp}{assign body:Code}{s s':cg}{e:Exit}{rf:Bool}(h:Pv g ps assign body P x ev hd rf s=some (e,s')){r:Option Nat}{n:Nat}{a:Act}
 (fS:rf=true->r=none) (hh:pF P F hd β w) (al:gG a.tmps.size (.rangeFunc g ps assign body)=true) (hs:cy P F (bj s) β w a):(Code.rangeFunc g ps assign body).wpIn (Fe r) n P (G9 P F s.nx β w a (QE e s')) a w:=by
 unfold Pv at h;cases rf with
 |false=>cases h
 |true=>
 have hr:=fS rfl;subst hr;simp only[cond_true] at h;split at h
 rotate_left
 .cases h
 rename_i f fs cs hv;split at h
 .cases h
 rename_i m0 me;simp only[gG,aH,cm,Nat.blt_eq] at al;let⟨oY,QN,QO⟩:=al
 obtain⟨y,m6,E2,dU⟩:∃ y m6 E2,Al P x ev ((s.nx,GY ev hd s.nx s.env ps.toList assign body)::hd) f (fs++[.yl s.nx]++cs) m0 (s.nx+1)=some (y,m6,E2):=by
  generalize Al P x ev ((s.nx,GY ev hd s.nx s.env ps.toList assign body)::hd) f (fs++[.yl s.nx]++cs) m0 (s.nx+1)=z at h;cases z with
  |none=>cases h
  |some z=>let⟨y,m6,E2⟩:=z;exact⟨_,_,_,rfl⟩
 rw[dU] at h;have hz:=OP hx.mix hx.jk iQ dU
 have hR:R F β w (.fn (.func f) fs cs) (a.eval g):=by
  rw[<- hv,DF];exact hs.e.un.opd g
 refine wpIn_rangeFunc λfn wL=>?_;obtain⟨L,U⟩:∃ L:Loop,L={ state:=.ready,pending:=none,fn,tmps:=a.tmps,params:=ps,assign,body,defers:=w.heap.size }:=⟨_,rfl⟩
 obtain⟨J,sO⟩:∃ J,(w.alloc (.deferred (some []))).alloc (.loop L)=J:=⟨_,rfl⟩
 obtain⟨l,hl⟩:∃ l,l=w.heap.size+1:=⟨_,rfl⟩
 let⟨us,vs,d,H6,tL,hu,Cn,pC,hinv⟩:=Tt (P:=P) hR hz.1 l J;have hn:∀ i,s.nx<=i->β i=none:=hs.n;have qz:Step β w β (w.alloc (.deferred (some []))):=Bh oS λb hb=>heap_alloc_old w _ hb;have ZZ:aQ P F (bt s.mem) β (w.alloc (.deferred (some []))):=hs.m.ext oS λb hb=>heap_alloc_old w _ hb;have hblk:∀ b,(Pl.lp l).blk=some b->b=(w.alloc (.deferred (some []))).heap.size:=λb hb=>by simp only[Pl.blk,aY] at hb;simp;omega
 have HE:J.heap[l]? =some (.loop L):=by
  rw[<- sO,hl];have:=World.alloc_heap_new (w.alloc (.deferred (some []))) (.loop L)
  rwa[World.size_alloc] at this
 have Cm:aQ P F (bt m0) (up β s.nx (some (.lp l))) J:=by
  rw[Bk me, <- sO];refine ZZ.alloc (hn _ (bK _)) _ _ _ hblk (.lp _ l L ?_ ⟨by rw[U],by rw[U]⟩);rw[sO];exact HE
 have dY:Step β w (up β s.nx (some (.lp l))) J:=by
  rw[<- sO];exact qz.trans (Dj ZZ _ (hn _ (bK _)) _ hblk)
 have Ft:(up β s.nx (some (.lp l))) s.nx=some (.lp l):=ap _ _ _
 have sT:∀ i,s.nx+1<=i->(up β s.nx (some (.lp l))) i=none:=λi hi=>by
  rw[aW _ _ (show i≠s.nx by omega)];exact hn i oG
 have RZ:J.heap[w.heap.size]? =some (.deferred (some [])):=by
  rw[<- sO,heap_alloc_old _ _ oS];exact World.alloc_heap_new w _
 have GU:aN.free (up β s.nx (some (.lp l))) w.heap.size:=
  rW (λi p hp e=>by have:=hs.m.lt i p _ hp e;omega) (by rintro q hq;cases hq;simp[Pl.blk];omega)
 have QP:J.heap.size=w.heap.size+2:=by rw[<- sO];simp
 have Sg:pF P F ((s.nx,GY ev hd s.nx s.env ps.toList assign body)::hd) (up β s.nx (some (.lp l))) J:=by
  intro i hf Fu;simp only[Hz] at Fu;by_cases hi:s.nx=i
  rotate_left
  .have:Nat.beq s.nx i=false:=by cases hb:Nat.beq s.nx i with|false=>rfl|true=>exact absurd (Nat.eq_of_beq_eq_true hb) hi
   rw[this] at Fu;exact(hh.step dY) i hf Fu
  .subst hi;rw[Nat.beq_refl] at Fu;simp only[cond_true,aY] at Fu;subst Fu;refine⟨l,.inl Ft,λargs m nx b m' aw X C=>?_⟩;intro β2 w2 yO ux tM AG yP;unfold GY at C;cases hlen:Nat.beq args.length ps.toList.length with
   |false=>rw[hlen] at C;cases C
   |true=>
   rw[hlen] at C;have wi:args.length=ps.size:=tn hlen
   simp only[cond_true] at C;split at C
   rotate_left
   .cases C
   rename_i t ht
   obtain⟨e3,O,hx3⟩:∃ e3 O,ev hd false assign ⟨t,m,nx⟩=some (e3,O):=by
    generalize ev hd false assign ⟨t,m,nx⟩=z at C;cases z with
    |none=>cases C
    |some z=>exact⟨z.1,z.2,rfl⟩
   rw[hx3] at C;let⟨hβ2,st2,pe2,Z0,Fv⟩:=K7 tM (show bt m s.nx=some (.lp .ready) from X) Ft HE ux
   have eL:({ L with state:=st2,pending:=pe2 }:Loop)=L:=by
    let⟨k1,k2⟩:=Fv;simp only at k1 k2;rw[U,k1,k2]
   rw[eL] at Z0;have QR:yO.size=ps.size:=by rw[yP.1];exact wi
   have hy:=run_yield (P:=P) (args:=yO) Z0 (by rw[U];exact QR);simp only[U,Uo] at hy;refine⟨fn,_,assign,body,hy,λn'=>?_⟩;have YZ:=dY.trans ux;have hh2:pF P F hd β2 w2:=hh.step YZ;have H8:gq F β2 w2 (gu s.env) { tmps:=a.tmps,defers:=[] }:=λt=>(hs.e t).step YZ;let⟨R1,Hv⟩:=Nf ps.toList args yO.toList (gu s.env) a.tmps (by simp[yP.1]) (λj d v hd hv=>yP.2 j d v hd (tn hv)) (λt ht=>oY t ht) H8
   have akb:cy P F (bj ⟨t,m,nx⟩) β2 w2 { tmps:=(ps.toList.zip yO.toList).foldl (λtmps (t,a)=>tmps.setIfInBounds t a) a.tmps,defers:=[] }:=⟨by
    show gq F β2 w2 (gu t) _
    rw[TO _ _ _ _ ht];exact R1,tM,AG⟩
   have QS:=iQ hd false assign _ e3 O hx3 F (some l) n' β2 w2 _ (λh=>by cases h) hh2 (by show gG (Array.size _) assign=true;rw[Hv];exact QN) akb;refine roundIn_of_wpIn aa (wpIn_mono QS λe a3 w3 hp=>?_);obtain⟨⟨_,β3,⟨rfl,rfl⟩,lL,iA⟩,_⟩:=hp;unfold XN at C;split at C
   rotate_left
   .cases C
   rename_i s3' ic;cases ic;split at C
   rotate_left
   .cases C
   rename_i anJ;split at C
   rotate_left
   .cases C
   rename_i m4 hm4;let⟨hβ3,lK,pe3,Rf,hk3⟩:=K7 lL.m (show bt O.mem s.nx=some (.lp .ready) from anJ) Ft HE (ux.trans iA.step)
   have eL3:({ L with state:=lK,pending:=pe3 }:Loop)=L:=by
    let⟨k1,k2⟩:=hk3;simp only at k1 k2;rw[U,k1,k2]
   rw[eL3] at Rf;let⟨hmb,Rg,atj⟩:=Oi (st:=.busy) (pe:=none) (r:=some (.lp .busy)) lL.m hβ3 Rf (λr' fR=>⟨.busy,(Option.some.inj fR).symm,rfl,rfl⟩);have eLb:({ L with state:=.busy }:Loop)={ L with state:=.busy,pending:=none }:=by rw[U]
   refine⟨_,run_beginRound Rf (by rw[U]),?_⟩;rw[eLb]
   obtain⟨e5,s5,hx5⟩:∃ e5 s5,ev hd false body ⟨O.env,m4,O.nx⟩=some (e5,s5):=by
    generalize ev hd false body ⟨O.env,m4,O.nx⟩=z at C;cases z with
    |none=>cases C
    |some z=>exact⟨z.1,z.2,rfl⟩
   rw[hx5] at C
   have akc:cy P F (bj ⟨O.env,m4,O.nx⟩) β3 (w3.putObj l (.loop { L with state:=.busy,pending:=none })) a3:=⟨lL.e.step Rg,by
    show aQ P F (bt m4) β3 _
    rw[Bk hm4];exact hmb,lL.n⟩
   have PX:=iQ hd false body _ e5 s5 hx5 F (some l) n' β3 _ a3 (λh=>by cases h) ((hh2.step iA.step).step Rg) (by rw[iA.size];show gG (Array.size _) body=true;rw[Hv];exact QO) akc;refine wpIn_mono PX λe a5 w5 hp5=>?_;obtain⟨⟨_,β5,⟨rfl,rfl⟩,Ir,Si⟩,_⟩:=hp5;have Z1:Step β2 w2 β5 w5:=(iA.step.trans Rg).trans Si.step
   have fin:∀ (jump:Option Code) (bb:Bool) (k:RS),bb=jump.isNone->RS.Is { L with state:=if jump.isNone then .ready else .done,pending:=jump } k->Hb s.nx bb k s5=some (b,m',aw)->
    ∃ v w',(Instr.endRound l jump).run P w5=.ok v w'/\∃ v' d m2 jl β',Ending.returned v=.returned v'/\(d=.s (.bool b)/\m2=bt m'/\jl=aw)/\aQ P F m2 β' w'/\(∀ i,jl<=i->β' i=none)/\R F β' w' d v'/\Step β2 w2 β' w'/\nx<=jl/\∀ i,i<nx->β2 i=none->β' i=none:=λjump bb k L1 hk uO=>by
    unfold Hb at uO;split at uO
    rotate_left
    .cases uO
    rename_i anK;split at uO
    rotate_left
    .cases uO
    rename_i m6 uP;simp only[aY,cO] at uO;obtain⟨rfl,rfl,rfl⟩:=uO;let⟨hβ5,st5,pe5,Z2,hk5⟩:=K7 Ir.m (show bt s5.mem s.nx=some (.lp .busy) from anK) Ft HE (ux.trans Z1);let⟨Sj,Rh,atk⟩:=Oi (st:=if jump.isNone then .ready else .done) (pe:=jump) (r:=some (.lp k)) Ir.m hβ5 Z2 (λr' fR=>⟨k,(Option.some.inj fR).symm,hk⟩);refine⟨_,_,run_endRound (P:=P) jump Z2,.bool jump.isNone,.s (.bool bb),bt m6,s5.nx,β5,rfl,⟨rfl,rfl,rfl⟩,?_,Ir.n,?_,Z1.trans Rh,Nat.le_trans iA.le Si.le,λi hi hb=>Si.grow i (Nat.lt_of_lt_of_le hi iA.le) (iA.grow i hi hb)⟩
    .rw[Bk uP];exact Sj
    .rw[L1];exact .s _ rfl
   unfold XM at C;cases e with
   |normal=>exact fin none true .ready rfl ⟨rfl,rfl⟩ C
   |ret=>exact fin (some .ret) false (.done .ret) rfl ⟨rfl,rfl⟩ C
   |exit id=>exact fin (some (.exit id)) false (.done (.exit id)) rfl ⟨rfl,rfl⟩ C
   |_=>cases C
 refine⟨l,[mark w.heap.size],J,d,J,f,_,J,?_,pC,λf' _=>trivial,hinv,λhd=>by simp at hd,Jw ?_⟩
 .rw[<- sO,U,hl];exact run_enterLoop_outer _ _ _ _ _
 refine(hz.2 F _ J _ Sg Cm sT ?_).mono ?_
 .refine Rs.append (Rs.append ?_ ?_) ?_
  .exact⟨by simp[H6],λk d v hd hv=>(hu k d v hd (tn hv)).step dY⟩
  .refine⟨rfl,λk d v hd hv=>?_⟩;cases k with
   |zero=>
    simp only[getElem?_cons_zero,aY] at hd;simp only[getElem?_toArray,getElem?_cons_zero,aY] at hv;subst hd;subst hv;exact .yl _ l Ft
   |succ k=>simp at hd
  .exact⟨by simp[tL],λk d v hd hv2=>(Cn k d v hd (tn hv2)).step dY⟩
 rintro e6 w6 ⟨β6,hy6,uP,hn6,pD,ZN,QT⟩;cases y with
 |inr ch=>cases h
 |inl dy=>
 obtain⟨v6,rfl,_⟩:=hy6
 have fin:∀ (k:RS) (jump:Option Code) (e1:Exit),(∀ Lx:Loop,RS.Is Lx k->Lx.state≠ .busy/\Lx.pending=jump)->m6.get s.nx=some (.lp k)->HC s.nx s.env m6 E2 e1=some (e,s')->
  ∃ w7,(Instr.endLoop l).run P w6=.ok jump w7/\G9 P F s.nx β w a (QE e s') e1 { a with defers:=[mark w.heap.size]++a.defers } w7:=λk jump e1 hk X he=>by
  unfold HC at he;split at he
  rotate_left
  .cases he
  rename_i m7 hm7;simp only[aY,cO] at he;obtain⟨rfl,rfl⟩:=he;let⟨hβ6,st6,pe6,Z3,hk6⟩:=K7 uP (show bt m6 s.nx=some (.lp k) from X) Ft HE pD;let⟨hk7,Sk⟩:=hk _ hk6;have Sk:pe6=jump:=Sk;subst Sk;have dU:=run_endLoop (P:=P) Z3 hk7;let⟨Sj,Rh,_⟩:=Oi (st:=.exhausted) (pe:=pe6) (r:=none) uP hβ6 Z3 (λr' fR=>by cases fR);have Z4:=(dY.trans pD).trans Rh;have hl6:w.heap.size<w6.heap.size:=by have:=pD.size;omega
  refine⟨_,dU,_,β6,⟨rfl,rfl⟩,⟨λt=>(hs.e t).step Z4,?_,hn6⟩,⟨Z4,Nat.le_trans (Nat.le_succ _) ZN,λi hi hb=>QT i (Nat.lt_succ_of_lt hi) ?_,rfl,[mark w.heap.size],rfl,w.heap.size,rfl,bK _,tn hl6,?_,(pD.fF _ oG GU).2,aa⟩⟩
  .show aQ P F (bt m7) β6 _;rw[Bk hm7];exact Sj
  .rw[aW _ _ (show i≠s.nx by omega)];exact hb
  .exact(World.putObj_heap_other oG).trans ((pD.fF _ oG GU).1.trans RZ)
 simp only[XO] at h;split at h
 .rename_i X;let⟨w7,h1,h2⟩:=fin .ready none .normal (λLx hk=>⟨by rw[hk.1];simp,hk.2⟩) X h;exact⟨none,w7,h1,h2⟩
 .rename_i X;let⟨w7,h1,h2⟩:=fin (.done .ret) (some .ret) .ret (λLx hk=>⟨by rw[hk.1];simp,hk.2⟩) X h;exact⟨some .ret,w7,h1,wpIn_ret h2⟩
 .rename_i id X;let⟨w7,h1,h2⟩:=fin (.done (.exit id)) (some (.exit id)) (.exit id) (λLx hk=>⟨by rw[hk.1];simp,hk.2⟩) X h;exact⟨some (.exit id),w7,h1,wpIn_exit h2⟩
 .cases h
end
section
variable{m:T Row}{bP:List Nat}{args:List D}{m':T Row}{aw:Nat}{y:D ⊕ (List D×Nat×TypeId)}
section
variable{P:Program}{F:Nat->Prop}{β:aN}{w:World}
def tf:∀ {n:Nat} {d:D},qG n d=true->Tr d
 |0,_,h=>by cases h
 |n+1,d,h=>by
  cases d with
  |rs=>cases h
  |rp=>cases h
  |mp=>cases h
  |sc=>cases h
  |yl=>cases h
  |dq c d=>exact .dq (tf h)
  |agg cs=>exact .agg λd hd=>tf (cm.1 h d hd)
  |bu cs=>exact .bu λd hd=>tf (cm.1 h d hd)
  |sl cs n=>exact .sl λd hd=>tf (cm.1 h d hd)
  |pt cs=>exact .pt λd hd=>tf (cm.1 h d hd)
  |fn f fs cs=>
   simp only[qG,aH] at h;exact .fn (λd hd=>tf (cm.1 h.1 d hd)) λd hd=>tf (cm.1 h.2 d hd)
  |im es=>exact .im λx hx=>tf (cm.1 h x hx)
  |s v=>exact .s v
  |ub=>exact .ub
  |u=>exact .u
  |z=>exact .z
def Jj{α β:Type}{f:α->Option (β×List Nat)}:∀ {xs:List α} {ys:List β} {r:List Nat},jW f xs=some (ys,r)->
 ys.length=xs.length/\(∀ (k:Nat) (y:β),ys[k]? =some y->∃ x r',xs[k]? =some x/\f x=some (y,r')/\∀ i∈r',i∈r)
 |[],ys,r,h=>by simp[jW,aY,cO] at h;obtain⟨rfl,rfl⟩:=h;simp
 |x::xs,ys,r,h=>by
  simp[jW] at h;cases hx:f x with
  |none=>rw[hx] at h;cases h
  |some y=>
   rw[hx] at h;simp only at h;cases C:jW f xs with
   |none=>rw[C] at h;cases h
   |some J=>
    rw[C] at h;simp[aY,cO] at h;obtain⟨rfl,rfl⟩:=h;let⟨h1,h2⟩:=Jj (ys:=J.1) (r:=J.2) C;refine⟨by simp[h1],λk z hz=>?_⟩;cases k with
    |zero=>
     simp[getElem?_cons_zero,aY] at hz;subst hz;exact⟨x,y.2,rfl,hx,λi hi=>by simp[hi]⟩
    |succ k=>
     let⟨x',r',O,U,X⟩:=h2 k z (tn hz);exact⟨x',r',tn O,U,λi hi=>by simp[X i hi]⟩
def tX{α β:Type}{f:α->Option (β×List Nat)}{xs:List α}{ys:List β}{r:List Nat}(h:jW f xs=some (ys,r)){p:β->Prop}(hp:∀ x y r',f x=some (y,r')->p y):∀ y∈ys,p y:=λy hy=>by
 let⟨k,hk⟩:=dW hy;let⟨x,r',_,h2,_⟩:=(Jj h).2 k y hk;exact hp x y r' h2
def JS:∀ {n:Nat} {d d':D} {r:List Nat},dE P m n d=some (d',r)->Tr d'
 |0,_,_,_,h=>by cases h
 |n+1,d,d',r,h=>by
  have ih:∀ x y r',dE P m n x=some (y,r')->Tr y:=λx y r' h=>JS h
  have C:∀ (x:Value×D) (y:Value×D) r',(dE P m n x.2).map (λy=>((x.1,y.1),y.2))=some (y,r')->Tr y.2:=λx y r' h=>by
   simp only[eg,cO] at h;obtain⟨z,hz,rfl,_⟩:=h;exact JS (r:=z.2) hz
  cases d with
  |sc=>cases h
  |yl=>cases h
  |mp i=>
   simp[dE] at h;split at h
   .simp only[eg,cO] at h;obtain⟨x,hx,rfl,_⟩:=h;exact .im (tX (ys:=x.1) (r:=x.2) hx C)
   .cases h
  |im es=>
   simp only[dE,eg,cO] at h;obtain⟨x,hx,rfl,_⟩:=h;exact .im (tX (ys:=x.1) (r:=x.2) hx C)
  |rs i off k=>
   simp[dE] at h;split at h
   .simp only[eg,cO] at h;obtain⟨x,hx,rfl,_⟩:=h;exact .sl (tX (ys:=x.1) (r:=x.2) hx ih)
   .cases h
  |rp i off=>
   simp[dE] at h;split at h
   .simp only[eg,cO] at h;obtain⟨x,hx,rfl,_⟩:=h;exact .pt (tX (ys:=x.1) (r:=x.2) hx ih)
   .cases h
  |dq c d=>
   cases c with
   |true=>
    simp only[dE,eg,cO] at h;obtain⟨x,hx,rfl,_⟩:=h;exact .dq (JS (r:=x.2) hx)
   |false=>simp[dE,aY,cO] at h;obtain⟨rfl,_⟩:=h;exact .dq .u
  |agg cs=>
   simp only[dE,eg,cO] at h;obtain⟨x,hx,rfl,_⟩:=h;exact .agg (tX (ys:=x.1) (r:=x.2) hx ih)
  |bu cs=>
   simp only[dE,eg,cO] at h;obtain⟨x,hx,rfl,_⟩:=h;exact .bu (tX (ys:=x.1) (r:=x.2) hx ih)
  |sl cs k=>
   simp only[dE,eg,cO] at h;obtain⟨x,hx,rfl,_⟩:=h;exact .sl (tX (ys:=x.1) (r:=x.2) hx ih)
  |pt cs=>
   simp only[dE,eg,cO] at h;obtain⟨x,hx,rfl,_⟩:=h;exact .pt (tX (ys:=x.1) (r:=x.2) hx ih)
  |fn f fs cs=>
   simp[dE] at h;cases hx:jW (dE P m n) fs with
   |none=>rw[hx] at h;cases h
   |some x=>
    rw[hx] at h;simp only[eg,cO] at h;obtain⟨y,hy,rfl,_⟩:=h;exact .fn (tX (ys:=x.1) (r:=x.2) hx ih) (tX (ys:=y.1) (r:=y.2) hy ih)
  |s v=>simp[dE,aY,cO] at h;obtain⟨rfl,_⟩:=h;exact .s v
  |ub=>simp[dE,aY,cO] at h;obtain⟨rfl,_⟩:=h;exact .ub
  |u=>simp[dE,aY,cO] at h;obtain⟨rfl,_⟩:=h;exact .u
  |z=>simp[dE,aY,cO] at h;obtain⟨rfl,_⟩:=h;exact .z
def Looks(P:Program)(F:Nat->Prop)(β:aN)(w:World)(m:T Row)(bP:List Nat):Prop:=∀ i∈bP,∀ r,m.get i=some r->∃ p,β i=some p/\dA P F β w r p/\∀ b,p.blk=some b->¬ F b
def Dh(b:Nat):iE.free b:=λi p hp=>by cases hp
def GZ:∀ {n:Nat} {d d':D} {r:List Nat},dE P m n d=some (d',r)->Looks P F β w m r->∀ {v:Value},R F β w d v->R F iE w d' v
 |0,_,_,_,h,_,_,_=>by cases h
 |n+1,d,d',r,h,hl,v,hv=>by
  have many:∀ {xs ys:List D} {r':List Nat},jW (dE P m n) xs=some (ys,r')->(∀ i∈r',i∈r)->ys.length=xs.length/\∀ (k:Nat) (d:D) (u:Value),ys[k]? =some d->(∀ d0,xs[k]? =some d0->R F β w d0 u)->R F iE w d u:=λh hr=>by
   let⟨h1,h2⟩:=Jj h;refine⟨h1,λk d u hd hu=>?_⟩;let⟨x,r2,C,J,U⟩:=h2 k d hd;exact GZ J (λi hi=>hl i (hr i (U i hi))) (hu x C)
  have look:∀ {i:Nat} {cs:List D} {e:TypeId},i∈r->m.get i=some (.cells cs e)->∃ p,β i=some p/\dA P F β w (.cells cs e) p/\∀ b,p.blk=some b->¬ F b:=λhi hm=>hl _ hi _ hm
  have Z5:∀ {es ys:List (Value×D)} {r':List Nat} {ms:Array MapEntry},jW (λx=>(dE P m n x.2).map λy=>((x.1,y.1),y.2)) es=some (ys,r')->(∀ i∈r',i∈r)->ms.size=es.length->(es.map (·.1)).Nodup->
   (∀ (k:Nat) (x:Value×D) (m:MapEntry),es[k]? =some x->ms[k]? =some m->m.key=x.1/\R F β w x.2 m.val)->
   ms.size=ys.length/\(ys.map (·.1)).Nodup/\(∀ (k:Nat) (x:Value×D) (m:MapEntry),ys[k]? =some x->ms[k]? =some m->m.key=x.1)/\∀ (k:Nat) (x:Value×D) (m:MapEntry),ys[k]? =some x->ms[k]? =some m->R F iE w x.2 m.val:=λ{es ys r' ms} h hr bZ eY hh=>by
   let⟨h1,h2⟩:=Jj h
   have key:∀ (k:Nat) (y:Value×D),ys[k]? =some y->∃ x r2,es[k]? =some x/\y.1=x.1/\dE P m n x.2=some (y.2,r2)/\∀ i∈r2,i∈r':=λk y hy=>by
    let⟨x,r2,C,J,U⟩:=h2 k y hy;simp only[eg,cO] at J;obtain⟨z,hz,rfl,rfl⟩:=J;exact⟨x,z.2,C,rfl,hz,U⟩
   have keys:ys.map (·.1)=es.map (·.1):=by
    refine ext_getElem? λk=>?_;simp only[getElem?_map];cases hy:ys[k]? with
    |some y=>
     let⟨x,_,C,J,_⟩:=key k y hy;simp[C,J]
    |none=>
     have:es[k]? =none:=by
      rw[List.getElem?_eq_none_iff] at hy ⊢;omega
     simp[this]
   refine⟨by rw[h1];exact bZ,by rw[keys];exact eY,λk y mm hy gQ=>?_,λk y mm hy gQ=>?_⟩
   .let⟨x,r2,C,J,_⟩:=key k y hy;rw[J];exact(hh k x mm C gQ).1
   .let⟨x,r2,C,_,U,X⟩:=key k y hy;exact GZ U (λi hi=>hl i (hr i (X i hi))) (hh k x mm C gQ).2
  cases d with
  |sc=>cases h
  |yl=>cases h
  |mp i=>
   simp only[dE] at h;split at h
   .rename_i es hm;simp only[eg,cO] at h;obtain⟨x,hx,rfl,rfl⟩:=h;let⟨p,hp,an,yZ⟩:=hl i (mem_cons_self ..) _ hm;cases hv with
    |Co _ _ h1 _=>rw[h1] at hp;cases hp;exact absurd rfl an.live
    |mp _ b h1=>
     rw[h1] at hp;cases hp;cases an with
     |map _ _ ms clock C J U X=>
      let⟨k1,k2,k3,k4⟩:=Z5 (ys:=x.1) (r':=x.2) hx (λi hi=>mem_cons_of_mem _ hi) J U X;exact .im x.1 b ms clock (yZ b rfl) (Dh b) C k1 k2 k3 k4
   .cases h
  |im es=>
   simp only[dE,eg,cO] at h;obtain⟨x,hx,rfl,rfl⟩:=h;cases hv with
   |im _ b ms clock hf hb hc J U X g5=>
    let⟨k1,k2,k3,k4⟩:=Z5 (ys:=x.1) (r':=x.2) hx (λ_ h=>h) J U (λk x m hx hm=>⟨X k x m hx hm,g5 k x m hx hm⟩);exact .im x.1 b ms clock hf (Dh b) hc k1 k2 k3 k4
  |rs i off k=>
   simp only[dE] at h;split at h
   .rename_i cs e hm;simp only[eg,cO] at h;obtain⟨x,hx,rfl,rfl⟩:=h;let⟨p,hp,an,yZ⟩:=look (mem_cons_self ..) hm;let⟨C,J⟩:=many (ys:=x.1) (r':=x.2) hx (λi hi=>mem_cons_of_mem _ hi)
    have nil:(cs.drop off).take (k*P.cellsOf e)=[]->x.1=[]:=λe=>by
     rw[e] at C;exact eq_nil_of_length_eq_zero (tn C)
    cases hv with
    |nW _ _ _ _ h1 _=>
     rw[h1] at hp;cases hp;exact absurd rfl an.live
    |lH _ a h1=>
     rw[h1] at hp;cases hp;cases an;rw[nil oS];exact .kf a 0
    |mK _ _ a b o len room sz h1=>
     rw[nil oS];exact .kf a 0
    |rs _ _ _ cap b o len room sz h1 hn eu h2 h3=>
     rw[h1] at hp;cases hp;let⟨cw,hl,bZ,_⟩:=an.rd;let⟨us,u1,u2⟩:=(cw.drop off).take (k*P.cellsOf e)
     have al:b<w.heap.size:=by
      cases an with
      |cells _ _ _ _ _ _ c hb=>exact(Array.getElem?_eq_some_iff.1 hb).1
     exact .sl x.1 k b (o+off) cap us (yZ b rfl) (Dh b) al hn eu (λj hj=>u1 j (by rw[<- C];exact hj)) λj d hd=>J j d _ hd λd0 O=>u2 j d0 O
   .cases h
  |rp i off=>
   simp only[dE] at h;split at h
   .rename_i cs e hm;simp only[eg,cO] at h;obtain⟨x,hx,rfl,rfl⟩:=h;let⟨p,hp,an,yZ⟩:=look (mem_cons_self ..) hm;let⟨C,J⟩:=many (ys:=x.1) (r':=x.2) hx (λi hi=>mem_cons_of_mem _ hi);cases hv with
    |uN _ _ _ h1 _=>
     rw[h1] at hp;cases hp;exact absurd rfl an.live
    |rp _ _ b o len room sz h1=>
     rw[h1] at hp;cases hp;let⟨cw,hl,bZ,_⟩:=an.rd;let⟨us,u1,u2⟩:=cw.drop off
     have al:b<w.heap.size:=by
      cases an with
      |cells _ _ _ _ _ _ c hb=>exact(Array.getElem?_eq_some_iff.1 hb).1
     exact .pt x.1 b (o+off) us (yZ b rfl) (Dh b) al (λj hj=>u1 j (by rw[<- C];exact hj)) λj d hd=>J j d _ hd λd0 O=>u2 j d0 O
   .cases h
  |dq c d=>
   cases hv with
   |dq _ _ _ h1 h2=>
   cases c with
   |true=>
    simp only[dE,eg,cO] at h;obtain⟨x,hx,rfl,rfl⟩:=h;exact .dq true _ v (λ_=>GZ (r:=x.2) hx hl (h1 rfl)) oS
   |false=>simp only[dE,aY,cO] at h;obtain⟨rfl,_⟩:=h;exact .dq false _ v oS h2
  |agg cs=>
   simp only[dE,eg,cO] at h;obtain⟨x,hx,rfl,rfl⟩:=h;obtain⟨vs,rfl,tL,hh⟩:=hv.ua;let⟨C,J⟩:=many (ys:=x.1) (r':=x.2) hx (λ_ h=>h);exact .agg _ vs (by rw[C];exact tL) λk d u hd hu=>J k d u hd λd0 O=>hh k d0 u O hu
  |bu cs=>
   simp only[dE,eg,cO] at h;obtain⟨x,hx,rfl,rfl⟩:=h;obtain⟨vs,rfl,tL,hh⟩:=hv.DJ;let⟨C,J⟩:=many (ys:=x.1) (r':=x.2) hx (λ_ h=>h);exact .bu _ vs (by rw[C];exact tL) λk d u hd hu=>J k d u hd λd0 O=>hh k d0 u O hu
  |sl cs k=>
   simp only[dE,eg,cO] at h;obtain⟨x,hx,rfl,rfl⟩:=h;let⟨C,J⟩:=many (ys:=x.1) (r':=x.2) hx (λ_ h=>h);cases hv with
   |kf a cap=>
    have:x.1=[]:=eq_nil_of_length_eq_zero (tn C);rw[this];exact .kf a cap
   |sl _ _ b o cap us hf hb al qg eu hc hh=>
    exact .sl _ k b o cap us hf (Dh b) al qg eu (λj hj=>hc j (by rw[<- C];exact hj)) λj d hd=>J j d _ hd λd0 O=>hh j d0 O
  |pt cs=>
   simp only[dE,eg,cO] at h;obtain⟨x,hx,rfl,rfl⟩:=h;let⟨C,J⟩:=many (ys:=x.1) (r':=x.2) hx (λ_ h=>h);cases hv with
   |pt _ b o us hf hb al hc hh=>
    exact .pt _ b o us hf (Dh b) al (λj hj=>hc j (by rw[<- C];exact hj)) λj d hd=>J j d _ hd λd0 O=>hh j d0 O
  |fn f fs cs=>
   simp only[dE] at h;cases hx:jW (dE P m n) fs with
   |none=>rw[hx] at h;cases h
   |some x=>
    rw[hx] at h;simp only[eg,cO] at h;obtain⟨y,hy,rfl,rfl⟩:=h;let⟨C,J⟩:=many (ys:=x.1) (r':=x.2) hx (λ_ h=>mem_append_left _ h);let⟨k1,k2⟩:=many (ys:=y.1) (r':=y.2) hy (λ_ h=>mem_append_right _ h);cases hv with
    |fn _ _ _ us vs H6 tL h1 h2=>
     exact .fn f _ _ us vs (by rw[C];exact H6) (by rw[k1];exact tL) (λk d u hd hu=>J k d u hd λd0 O=>h1 k d0 u O hu) λk d u hd hu=>k2 k d u hd λd0 O=>h2 k d0 u O hu
  |s v=>simp only[dE,aY,cO] at h;obtain⟨rfl,_⟩:=h;obtain⟨rfl,h⟩:=hv.cX;exact .s _ h
  |ub=>simp only[dE,aY,cO] at h;obtain⟨rfl,_⟩:=h;obtain⟨b,rfl⟩:=hv.GP;exact .ub b
  |u=>simp only[dE,aY,cO] at h;obtain⟨rfl,_⟩:=h;exact .u v
  |z=>simp only[dE,aY,cO] at h;obtain⟨rfl,_⟩:=h;rw[hv.Ah];exact .z
def M7{n:Nat}:∀ {aS bs:List D} {r:List Nat},jW (dE P m n) aS=some (bs,r)->(∀ i∈r,i∈bP)->qv P bP (bt m) aS bs
 |[],bs,r,h,_=>by
  simp[jW,aY,cO] at h;obtain⟨rfl,_⟩:=h;trivial
 |a::aS,bs,r,h,hr=>by
  simp[jW] at h;split at h
  .cases h
  .rename_i y hy;split at h
   .cases h
   .rename_i ys C;simp[aY,cO] at h;obtain⟨rfl,rfl⟩:=h;exact⟨λF β w v hl hv=>GZ (r:=y.2) hy (λi hi=>hl i (hr i (mem_append_left _ hi))) hv,M7 (r:=ys.2) C λi hi=>hr i (mem_append_right _ hi)⟩
def UA:bt .leaf=λ_=>none:=by funext j;exact Be _
def ags{f:FuncId}{d r:D}{n:Nat}(hz:ZC P [] f args (bt .leaf) 0 (.inl d) (bt m') aw)(ht:∀ a∈args,Tr a)(hd:dE P m' n d=some (r,bP)):aE P f args r:=
 ⟨hz.1,ht,λF w vs C hR=>(hz.2 F iE w vs vE (UA▸Jg C) (λ_ _=>rfl) hR).mono λe w' ⟨β',⟨v,he,hv⟩,hm,hn,bL,_⟩=>
  ⟨v,he,GZ hd (λi hi r hr=>by let⟨p,hp,an⟩:=hm.row i r hr;exact⟨p,hp,an,λb hb=>hm.nf i p b hp hb⟩) hv,MP bL⟩⟩
variable{x:Ctx}{ev:Ev}
def Pz(P:Program)(f:FuncId)(args:List D):D ⊕ (List D×Nat×TypeId)->Prop
 | .inl r=>aE P f args r
 | .inr (es,k,t)=>mV P f args es k t
def VE{f:FuncId}{O:D ⊕ List PanicEntry}(h:zZ P (some (O,m',aw))=some y)(hz:ZC P [] f args (bt .leaf) 0 O (bt m') aw)(ht:∀ a∈args,Tr a):Pz P f args y:=by
 cases O with
 |inr ch=>cases h
 |inl d=>
  have deep:∀ {d},K3 P m' d=some y->ZC P [] f args (bt .leaf) 0 (.inl d) (bt m') aw->Pz P f args y:=λ{d} hd hz=>by
   unfold K3 at hd;split at hd
   .rename_i r bP di;cases hd;exact ags hz ht di
   .cases hd
  unfold zZ at h;split at h
  .rename_i i k m2 jl J;cases J;split at h
   .rename_i es t X;cases C:es.all (qG depth) with
    |false=>rw[C] at h;exact deep h hz
    |true=>
     rw[C] at h;cases h;exact Vt hz.1 ht (λa ha=>tf (cm.1 C a ha)) λF w vs U hR=>(hz.2 F iE w vs vE (UA▸Jg U) (λ_ _=>rfl) hR).mono λe w' ⟨β',⟨v,he,hv⟩,hm,hn,bL,_⟩=>⟨v,i,_,β',he,X,hv,hm,bL⟩
   .cases h
  .rename_i J;cases J;exact deep h hz
  .cases h
def Oj(hx:ss P x)(C:uC P ev){f:FuncId}(h:yk P x ev f args=some y)(ht:∀ a∈args,Tr a):Pz P f args y:=by
 unfold yk at h;cases hr:Al P x ev [] f args .leaf 0 with
 |none=>rw[hr] at h;cases h
 |some z=>
  let⟨J,m',aw⟩:=z;rw[hr] at h;exact VE h (OP hx.mix hx.jk C hr) ht
def VF:∀ {n:Nat} {d:D},Ep n d=true->PR d
 |0,d,h=>by cases h
 |n+1,d,h=>λF F' β β' w w' v hv=>by
  have many:∀ {cs:List D},cs.all (Ep n)=true->∀ {vs:List Value},(∀ (k:Nat) (d:D) (u:Value),cs[k]? =some d->vs[k]? =some u->R F β w d u)->∀ (k:Nat) (d:D) (u:Value),cs[k]? =some d->vs[k]? =some u->R F' β' w' d u:=
   λhc _ hh k d u hd hu=>VF (cm.1 hc d (cL hd)) F F' β β' w w' u (hh k d u hd hu)
  unfold Ep at h;split at h
  .rw[hv.cX.1];exact .s _ hv.cX.2
  .obtain⟨b,rfl⟩:=hv.GP;exact .ub b
  .rw[hv.Ah];exact .z
  .obtain⟨vs,rfl,hl,hh⟩:=hv.ua;exact .agg _ vs hl (many h hh)
  .obtain⟨vs,rfl,hl,hh⟩:=hv.DJ;exact .bu _ vs hl (many h hh)
  .cases h
def Gs{hd:Hd}(hx:ss P x)(X:uC P ev):xK P hd (BS P x ev hd):=λf args m nx y m' aw h=>by
 unfold BS at h;split at h
 .rename_i r hr;cases h;have hp:=hx.known _ _ _ hr;exact⟨hp.1,λF β w vs _ hm C hR=>(Uk hm hp hR).mono λe w' ⟨v,h1,h2,J,O⟩=>⟨β,⟨v,h1,h2⟩,J,C,O,bK _,λ_ _ h=>h⟩⟩
 .split at h
  .rename_i r hr;cases h;exact(hx.GX _ _ _ _ _ _ _ hr).any
  .split at h
   .rename_i r hr;cases h;cases hi:CG f x.deep with
    |false=>rw[hi] at hr;cases hr
    |true=>
    rw[hi] at hr;simp[cond_true] at hr;unfold YV at hr;split at hr
    rotate_left
    .cases hr
    rename_i kK bP U;split at hr
    rotate_left
    .cases hr
    rename_i r' hk;cases hn:Ep depth r' with
    |false=>rw[hn] at hr;cases hr
    |true=>
     rw[hn] at hr;cases hr;have hp:=hx.known _ _ _ hk;exact⟨hp.1,λF β w vs _ hm C hR=>(Ul hm (M7 U λ_ h=>h) (λ_ _ _=>rfl) hp (VF hn) hR).mono λe w' ⟨v,h1,h2,J,O⟩=>⟨β,⟨v,h1,h2⟩,J,C,O,bK _,λ_ _ h=>h⟩⟩
   .exact OP hx.mix hx.jk X h
def Ol(hx:ss P x)(X:uC P ev):Bo P (Ha P x ev):=λf args m nx p h o st hg hm hn ha hc=>by
 have J:gY #[] o st true:=Bc hg
 have pl:∀ r,aE P f args r->p=⟨r,[],[],0⟩->p.Ok P #[] o st/\∀ i∈p.wr,st.mem i≠none\/(nx<=i/\i<nx+p.new):=λr hr hp=>by
  subst hp;exact⟨OL J ha hc hr,by simp[bI.wr]⟩
 unfold Ha at h;split at h
 .rename_i r hr;cases h;exact pl r (hx.known _ _ _ hr) rfl
 .cases C:args.all (qG depth) with
  |true=>
   rw[C] at h;simp[cond_true] at h;have ht:∀ a∈args,Tr a:=λa ha=>tf (cm.1 C a ha);cases hp:yk P x ev f args with
   |none=>rw[hp] at h;cases h
   |some y=>
    rw[hp] at h;have h1:=Oj hx X hp ht;cases y with
    |inl r=>cases h;exact pl r h1 rfl
    |inr y=>
     let⟨es,k,t⟩:=y;cases h;subst hn;exact⟨XA J ha hc h1,by simp[bI.wr]⟩
  |false=>
   rw[C] at h;simp[cond_false] at h;split at h
   .cases h
   .rename_i O bP U;have tK:qv P bP st.mem args O:=by rw[hm];exact M7 U λ_ h=>h
    have snap:∀ r,aE P f O r->K4 bP (some (.inl r))=some p->p.Ok P #[] o st/\∀ i∈p.wr,st.mem i≠none\/(nx<=i/\i<nx+p.new):=λr hr hp=>by
     simp[K4] at hp;cases hs:r.lY with
     |false=>rw[hs] at hp;cases hp
     |true=>
      rw[hs] at hp;cases hp;exact⟨Wz J ha hc tK hr hs,by simp[bI.wr]⟩
    split at h
    .rename_i r hr;exact snap r (hx.known _ _ _ hr) h
    .cases hp:yk P x ev f O with
     |none=>rw[hp] at h;cases h
     |some y=>
      rw[hp] at h;cases y with
      |inl r=>exact snap r (Oj hx X hp (tX U λx y r' h=>JS h)) h
      |inr y=>cases h
def XR(hx:ss P x):∀ n,uC P (mi P x n):=by
 intro n
 induction n using Nat.strongRecOn with
 |_ n ih=>
 cases n with
 |zero=>intro hd rf c s e s' h;cases h
 |succ n=>
  have hn:=ih n (Nat.lt_succ_self n);intro hd rf c s e s' h F r k β w a fS hh al hs;replace h:codeF c P x (mi P x n) hd rf s=some (e,s'):=h
  have self:∀ {e0},some (e0,s)=some (e,s')->uk P F rf s.nx β w a e s' e0 a w:=λ{e0} h=>by
   cases h;exact⟨⟨_,β,⟨rfl,rfl⟩,hs,(eM.refl (bj s) β w a).Az⟩,λ_=>rfl⟩
  have andThen:∀ {O c2:Code} {Q:Exit->Act->World->Prop},gG a.tmps.size O=true->K5 (mi P x n) hd rf c2 (mi P x n hd rf O s)=some (e,s')->(∀ C s1 a1 J U,mi P x n hd rf O s=some (C,s1)->cy P F (bj s1) U J a1->qw s.nx β w a (bj s1) U J a1->(rf=false->a1.defers=a.defers)->
   (C=.normal->mi P x n hd rf c2 s1=some (e,s')->Q .normal a1 J)/\(C≠ .normal->C=e->s1=s'->Q C a1 J))->O.wpIn (Fe r) k P Q a w:=λ{O c2 Q} hl ht hk=>by
   cases h1:mi P x n hd rf O s with
   |none=>rw[h1] at ht;cases ht
   |some es=>
    let⟨C,s1⟩:=es;rw[h1] at ht;refine wpIn_mono (hn hd rf O s C s1 h1 F r k β w a fS hh hl hs) λe2 a2 w2 hp=>?_;obtain⟨⟨_,β2,⟨rfl,rfl⟩,jB,kF⟩,gC⟩:=hp;have:=hk e2 s1 a2 w2 β2 h1 jB kF gC;cases e2 with
    |normal=>exact this.1 rfl ht
    |_=>cases ht;exact this.2 oS rfl rfl
  cases c with
  |skip=>exact wpIn_skip (self h)
  |ret=>exact wpIn_ret (self h)
  |exit id=>exact wpIn_exit (self h)
  |label l=>exact wpIn_label (self h)
  |region id ops dr=>
   have hl:nP a.tmps.size ops=true:=al;refine wpIn_mono (Q:=dV P F s.nx β w a (QE e s')) ?_ λC a1 J ⟨st',β',h1,h2,h3⟩=>⟨⟨st',β',h1,h2,h3.Az⟩,λ_=>h3.defers⟩
   cases dr with
   |false=>
    exact wpIn_region (agq (Gs hx hn) hh hl h hs (eM.refl (bj s) β w a))
   |true=>exact VD hx.mix (Gs hx hn) (Ol hx hn) hl h hh hs
  |seq O c2=>
   simp[gG,aH] at al;refine wpIn_seq (andThen al.1 h λC s1 a1 J U _ dY X di=>⟨λhe h2=>?_,λhe h2 h3=>?_⟩)
   .refine wpIn_mono (hn hd rf c2 s1 e s' h2 F r k U J a1 fS (hh.step X.step) (by rw[X.size];exact al.2) dY) λe2 a2 w2 hp=>uk.trans X di hp
   .subst h2;subst h3;have hq:uk P F rf s.nx β w a C s1 C a1 J:=⟨⟨_,U,⟨rfl,rfl⟩,dY,X⟩,di⟩
    cases C with
    |normal=>exact absurd rfl he
    |_=>exact hq
  |loop b=>
   apply Ts (λj a1 J=>∃ s1 U,j<=n+1/\mi P x j hd rf (.loop b) s1=some (e,s')/\cy P F (bj s1) U J a1/\qw s.nx β w a (bj s1) U J a1/\(rf=false->a1.defers=a.defers)) (j₀:=n+1) ⟨s,β,bK _,h,hs,(eM.refl (bj s) β w a).Az,λ_=>rfl⟩;rintro j a1 J ⟨s1,U,hj,h1,dY,X,di⟩;cases j with
   |zero=>cases h1
   |succ j=>
    replace h1:K5 (mi P x j) hd rf (.loop b) (mi P x j hd rf b s1)=some (e,s'):=h1;cases h2:mi P x j hd rf b s1 with
    |none=>rw[h2] at h1;cases h1
    |some es=>
     let⟨e2,s2⟩:=es;rw[h2] at h1;refine wpIn_mono (ih j oG hd rf b s1 e2 s2 h2 F r k U J a1 fS (hh.step X.step) (by rw[X.size];exact al) dY) λe3 a3 w3 hp=>?_;obtain⟨⟨_,β3,⟨rfl,rfl⟩,lL,iA⟩,AQ⟩:=hp;cases e3 with
     |normal=>exact⟨j,Nat.lt_succ_self j,s2,β3,oG,h1,lL,X.trans iA,λe=>(AQ e).trans (di e)⟩
     |_=>cases h1;exact⟨⟨_,β3,⟨rfl,rfl⟩,lL,X.trans iA⟩,λe=>(AQ e).trans (di e)⟩
  |cond c O c2=>
   simp[gG,aH] at al
   replace h:(match fx s.env c with
    | .s (.bool true)=>mi P x n hd rf O s
    | .s (.bool false)=>mi P x n hd rf c2 s
    |_=>none)=some (e,s'):=h
   have hR:R F β w (fx s.env c) (a.eval c):=by rw[DF];exact hs.e.un.opd c
   split at h
   .rename_i hv;rw[hv] at hR;exact wpIn_cond_split hR.cX.1 (λ_=>hn hd rf O s e s' h F r k β w a fS hh al.1 hs) λh=>by cases h
   .rename_i hv;rw[hv] at hR;exact wpIn_cond_split hR.cX.1 (λh=>by cases h) λ_=>hn hd rf c2 s e s' h F r k β w a fS hh al.2 hs
   .cases h
  |scope b=>
   replace h:ZY (mi P x n hd rf b s)=some (e,s'):=h;cases h1:mi P x n hd rf b s with
   |none=>rw[h1] at h;cases h
   |some es=>
    let⟨C,s1⟩:=es;rw[h1] at h;refine TY (wpIn_mono (hn hd rf b s C s1 h1 F r k β w a fS hh al hs) λe2 a2 w2 hp=>?_);obtain⟨⟨_,β2,⟨rfl,rfl⟩,jB,kF⟩,gC⟩:=hp;cases e2 with
    |goto l=>cases h
    |_=>cases h;exact⟨⟨_,β2,⟨rfl,rfl⟩,jB,kF⟩,gC⟩
  |block id b=>
   replace h:Qj id (mi P x n hd rf b s)=some (e,s'):=h;cases h1:mi P x n hd rf b s with
   |none=>rw[h1] at h;cases h
   |some es=>
    let⟨C,s1⟩:=es;rw[h1] at h;refine wpIn_block (wpIn_mono (hn hd rf b s C s1 h1 F r k β w a fS hh al hs) λe2 a2 w2 hp=>?_);obtain⟨⟨_,β2,⟨rfl,rfl⟩,jB,kF⟩,gC⟩:=hp;cases e2 with
    |exit i=>
     simp[Qj] at h;simp[Exit.inBlock];by_cases hi:i=id
     .rw[bi hi];subst hi;rw[Nat.beq_refl] at h;cases h;exact⟨⟨_,β2,⟨rfl,rfl⟩,jB,kF⟩,gC⟩
     .rw[ai hi];have:Nat.beq i id=false:=by cases hb:Nat.beq i id with|false=>rfl|true=>exact absurd (Nat.eq_of_beq_eq_true hb) hi
      rw[this] at h;cases h;exact⟨⟨_,β2,⟨rfl,rfl⟩,jB,kF⟩,gC⟩
    |_=>cases h;exact⟨⟨_,β2,⟨rfl,rfl⟩,jB,kF⟩,gC⟩
  |rangeFunc g ps assign body=>
   refine wpIn_mono (agr hx hn h fS hh al hs) λ_ _ _ hp=>⟨hp,λe=>?_⟩
   subst e;cases h
  |_=>cases h
def pS(hx:ss P x)(n:Nat){f:FuncId}{r:D}(h:yk P x (mi P x n) f args=some (.inl r))(ht:args.all (qG depth)=true):aE P f args r:=
 Oj hx (XR hx n) h λa ha=>tf (cm.1 ht a ha)
end
end
section
variable{m:Mem}{β:aN}{w:World}{a:Act}{ty:TypeId}
section
variable{P:Program}{ops:Array Oper}{Q:Exit->St->Prop}{F:Nat->Prop}{N₀:Nat}{β₀:aN}{w₀:World}{a₀:Act}
def bI.It(P:Program)(ops:Array Oper)(o:Oper)(st:St)(p:bI):Prop:=
 ∀ (F:Nat->Prop) (β:aN) (w:World) (a:Act) (env:Env),(∀ t∈o.looksAt ops,env t=st.env t)->gq F β w env a->aQ P F st.mem β w->(∀ i,st.nx<=i->β i=none)->
  ∀ (r:Option Nat) (n:Nat) (QX:Exit->Act->World->Prop) (K:Act->World->Prop),
   (∀ v w' β',R F β' w' p.val v->aQ P F (cT st.mem p.bn) β' w'->Step β w β' w'->(∀ i,β i=none->(i<st.nx\/st.nx+p.new<=i)->β' i=none)->K (a.put o.dst v) w')->
   ju r n P ops QX o K a w
def FL(F:Nat->Prop)(C:Option Nat):Nat->Prop:=λx=>F x\/some x=C
def Lt(P:Program)(F:Nat->Prop)(t:Nat)(ty:TypeId)(w₀ w:World)(a:Act)(C:Option Nat):Prop:=∀ b,C=some b->w₀.heap.size<=b/\¬ F b/\b<w.heap.size/\a.tmps.getD t undef=.pointer (some ⟨b,0,none⟩)/\
 ∃ z:Value,bm P ty=z.cells.toList.map l0/\(∀ u∈z.cells.toList,(l0 u).one=true)/\w.heap[b]? =some (.cells z.cells ty (0,0))
def ah6{env:Env}(he:gq F β w env a)(hm:aQ P F m β w):gq (FL F none) β w env a/\aQ P (FL F none) m β w:=by
 have h:∀ b,FL F none b->F b:=λb hb=>hb.elim id λe=>by cases e
 exact⟨λt=>(he t).sE h,hm.sE h λt ht=>.inl (hm.fb.jk t ht).1⟩
def agt{nx b:Nat}{z:Value}(hm:aQ P (FL F (some b)) m β w)(hF:FB F w)(hn:β nx=none)(X:¬ F b)(al:b<w.heap.size)(hz:bm P ty=z.cells.toList.map l0)(h1:∀ u∈z.cells.toList,(l0 u).one=true)(hb:w.heap[b]? =some (.cells z.cells ty (0,0))):
 ∃ p,aQ P F (up m nx (some (.cells (bm P ty) ty))) (up β nx (some p)) w/\R F (up β nx (some p)) w (.rp nx 0) (.pointer (some ⟨b,0,none⟩))/\p.blk=some b/\∀ {d:D} {v:Value},R (FL F (some b)) β w d v->R F (up β nx (some p)) w d v:=by
 obtain⟨p,hp⟩:∃ p,p=Pl.cells b 0 (bm P ty).length (bm P ty).length (P.cellsOf ty):=⟨_,rfl⟩
 have O:p.blk=some b:=by rw[hp];rfl
 have qi:∀ C,C<w.heap.size->¬ FL F (some b) C->β.free C->oB w w C/\aN.free (up β nx (some p)) C/\¬ F C:=λC _ hf jS=>⟨oB.refl w C,rW jS (λq hq e=>by cases hq;rw[O] at e;cases e;exact hf (.inr rfl)),λe=>hf (.inl e)⟩
 have ly:∀ i q,(∀ r,q≠ .raw r)->β i=some q->(up β nx (some p)) i=some q\/(up β nx (some p)) i=some .dead:=λi q _ hq=>.inl (by rw[aW _ _ (λe=>by rw[e,hn] at hq;cases hq)];exact hq);have lift:∀ {d:D} {v:Value},R (FL F (some b)) β w d v->R F (up β nx (some p)) w d v:=λh=>h.gen (bK _) qi ly;have CI:∀ i q C,β i=some q->q.blk=some C->C≠b:=λi q C hq e J=>hm.nf i q C hq e (.inr (by rw[J]))
 have look:∀ i q,(up β nx (some p)) i=some q->(i=nx/\q=p)\/(i≠nx/\β i=some q):=λi q hq=>by
  by_cases hi:i=nx
  .subst hi;rw[ap] at hq;cases hq;exact .inl ⟨rfl,rfl⟩
  .rw[aW _ _ hi] at hq;exact .inr ⟨hi,hq⟩
 let⟨c1,c2⟩:=BB (F:=F) (β:=up β nx (some p)) (w:=w) hz h1;refine⟨p,⟨λi r hi=>?_,λi j q q' C hq iP e J=>?_,λi q C hq e=>?_,λi q C hq e=>?_,hF⟩,?_,O,lift⟩
 .by_cases U:i=nx
  .subst U;rw[ap] at hi;cases hi;refine⟨p,ap _ _ _,?_⟩;rw[hp];refine .cells _ ty b 0 _ _ z.cells hb (by simp at c1 ⊢;omega) (bK _) rfl λk d hk=>?_;have kV:k<(bm P ty).length:=(bO.1 hk).1;have Fl:k<z.cells.size:=by simpa using(c1▸kV:k<z.cells.toList.length)
   let⟨g1,g2⟩:=c2 k d z.cells[k] hk (by simp[Fl]);rw[<- hp];exact⟨z.cells[k],by rw[Nat.zero_add];simp[Fl],g1,g2⟩
  .rw[aW _ _ U] at hi;let⟨q,hq,hr⟩:=hm.row i r hi;exact⟨q,by rw[aW _ _ U];exact hq,hr.gen (bK _) (λC h1 h2 h3=>qi C h1 h2 h3) ly λ_ _=>rfl⟩
 .rcases look i q hq with⟨rfl,rfl⟩|⟨hi,h1⟩<;>rcases look j q' iP with⟨rfl,rfl⟩|⟨hj,h2⟩
  .rfl
  .rw[O] at e;cases e;exact absurd rfl (CI j q' _ h2 J)
  .rw[O] at J;cases J;exact absurd rfl (CI i q _ h1 e)
  .exact hm.inj i j q q' C h1 h2 e J
 .rcases look i q hq with⟨rfl,rfl⟩|⟨hi,h1⟩
  .rw[O] at e;cases e;exact al
  .exact hm.lt i q C h1 e
 .rcases look i q hq with⟨rfl,rfl⟩|⟨hi,h1⟩
  .rw[O] at e;cases e;exact X
  .exact λhf=>hm.nf i q C h1 e (.inl hf)
 .rw[hp];exact .rp nx 0 b 0 _ _ _ s3
def ac9{o:Oper}{t:Nat}{r:Option Nat}{n:Nat}{QX:Exit->Act->World->Prop}{K:Act->World->Prop}(ho:o.op=.alloc ty)(hd:o.dst=some t)(hg:o.guard=none)(C:aT P ty=true)
 (X:∀ z:Value,bm P ty=z.cells.toList.map l0->(∀ u∈z.cells.toList,(l0 u).one=true)->K (a.put (some t) (.pointer (some ⟨w.heap.size,0,none⟩))) (w.alloc (.cells z.cells ty))):ju r n P ops QX o K a w:=by
 let⟨z,hz,_,O,U⟩:=A' (P:=P) w C;have hw:Region.wanted o (yielded ops a.tmps)=true:=by simp[Region.wanted,hg]
 have J:(execOp a.eval o).run P w=.ok (.value (.pointer (some ⟨w.heap.size,0,none⟩))) (w.alloc (.cells z.cells ty)):=by
  rw[execOp,ho];simp[Instr.alloc,hz,F9]
 rw[ju,hw,bi rfl];refine⟨λ_ _=>trivial,?_⟩;rw[BC (λc hc=>by rw[ho] at hc;cases hc),J];show K (a.put o.dst _) _;rw[hd];exact X z O U
structure PA(p q:bI)(hp hq:Bool):Prop where
 ww:∀ x∈p.wr,x∉q.wr
 wr:∀ x∈p.wr,x∉q.rd
 rw:∀ x∈q.wr,x∉p.rd
 hp:hp=true->q.bn=[]/\q.new=0
 hq:hq=true->p.bn=[]/\p.new=0
def ai'{oo:Nat->Oper}{pp:Nat->bI}{st₀:St}{hv:Nat->Bool}{p nl t:Nat}(r:Option Nat)(n:Nat)(Cq:∀ j o,ops[j]? =some o->oo j=o)(al:nP a₀.tmps.size ops=true)(bZ:ops.size=p+2)
 (uR:∀ (i:Nat) (o:Oper),ops[i]? =some o->∀ e∈o.after,Region.binds .any e=true->e.on<i)
 (AR:(oo p).op=.alloc ty) (Cz:(oo p).dst=some t) (hlg:(oo p).guard=none) (Iu:aT P ty=true) (CJ:∀ j,j<p->(oo j).dst≠some t) (h0:st₀.env t=.u)
 (BO:∀ i,i<p+1->((eO ops.toList []).getD (p+1) 0).testBit i=true) (mf:nl<=p)
 (c6:∀ j,j<nl->(pp j).Ok P ops (oo j) (b7 oo pp st₀ j)\/(hv j=true/\(pp j).It P ops (oo j) (b7 oo pp st₀ j)))
 (sU:∀ i j,i<j->j<nl->((eO ops.toList []).getD j 0).testBit i=false->(oo i).apart ops (oo j)=true/\PA (pp i) (pp j) (hv i) (hv j))
 (Ri:nl=p->∀ β w a,cy P F ⟨up (b7 oo pp st₀ p).env t (.rp (b7 oo pp st₀ p).nx 0),up (b7 oo pp st₀ p).mem (b7 oo pp st₀ p).nx (some (.cells (bm P ty) ty)),(b7 oo pp st₀ p).nx+1⟩ β w a->
  eM N₀ β₀ w₀ a₀ ⟨up (b7 oo pp st₀ p).env t (.rp (b7 oo pp st₀ p).nx 0),up (b7 oo pp st₀ p).mem (b7 oo pp st₀ p).nx (some (.cells (bm P ty) ty)),(b7 oo pp st₀ p).nx+1⟩ β w a->
  ∀ K:Act->World->Prop,(∀ a' w',dV P F N₀ β₀ w₀ a₀ Q .normal a' w'->K a' w')->ju r n P ops (dV P F N₀ β₀ w₀ a₀ Q) (oo (p+1)) K a w)
 (Rj:nl<p->nl+1=p/\(∀ i,i<nl->((eO ops.toList []).getD nl 0).testBit i=true)/\∃ ch mP sV,Q (.panic ch) ⟨(b7 oo pp st₀ nl).env,mP,sV⟩/\
  ∀ (F:Nat->Prop) (β:aN) (w:World) (a:Act),cy P F (b7 oo pp st₀ nl) β w a->∀ (QX:Exit->Act->World->Prop) (K:Act->World->Prop),
   (∀ β' w',aQ P F mP β' w'->(∀ i,sV<=i->β' i=none)->Step β w β' w'->(b7 oo pp st₀ nl).nx<=sV->(∀ i,i<(b7 oo pp st₀ nl).nx->β i=none->β' i=none)->QX (.panic ch) a w')->ju r n P ops QX (oo nl) K a w)
 (hN:N₀<=st₀.nx) (Mm:FB F w₀):
 ∀ (fu:Nat) (listed:Array Bool) (β:aN) (w:World) (a:Act),listed.size=ops.size->listed.toList.countP (λb=> !b)<=fu->listed.getD (p+1) false=false->(nl<p->listed.getD nl false=false)->
  (∀ j,listed.getD j false=true->∀ o,ops[j]? =some o->∀ e∈o.after,Region.binds .any e=true->listed.getD e.on false=true)->
  (∃ ob:Option Nat,(listed.getD p false=true->ob.isSome=true)/\(listed.getD p false=false->ob=none)/\Lt P F t ty w₀ w a ob/\DS P (FL F ob) oo pp st₀ nl N₀ β₀ w₀ a₀ (λj=>listed.getD j false) β w a)->
  wpAnyIn (Fe r) n P .any ops (dV P F N₀ β₀ w₀ a₀ Q) fu listed a w:=by
 have ng:∀ listed:Array Bool,listed.size=ops.size->Region.ready .any ops listed=[]->∀ k,k<ops.size->listed.getD k false=true:=by
  intro listed bZ hr k
  induction k using Nat.strongRecOn with
  |_ k ih=>
   intro hk;cases hl:listed.getD k false with
   |true=>rfl
   |false=>
    exfalso
    have:k∈Region.ready .any ops listed:=by
     rw[mem_ready];refine⟨?_,ops[k],by simp[hk],λe he hb=>?_⟩
     .have kV:k<listed.size:=by omega
      simpa[kV] using hl
     .have h1:=uR k ops[k] (by simp[hk]) e he hb;exact ih e.on h1 oG
    rw[hr] at this;cases this
 have akd:∀ (S:Nat->Bool),(eA oo pp st₀ S nl).env t=.u:=λS=>by
  rw[<- h0,OD oo pp st₀ (T:=λ_=>false) nl (λj hj _=>CJ j oG)]
  have:∀ m,eA oo pp st₀ (λ_=>false) m=st₀:=λm=>by
   induction m with
   |zero=>rfl
   |succ m ih=>simp[eA,Bool.false_eq_true,if_false];exact ih
  rw[this]
 intro fu
 induction fu with
 |zero=>
  intro listed β w a Lv hc kX _ _ _;exfalso;have hx:p+1<listed.size:=by omega
  have h1:listed[p+1]=false:=by simpa[hx] using kX
  have h2:0<listed.toList.countP (λb=> !b):=countP_pos_iff.2 ⟨listed[p+1],oS,by simp[h1]⟩;omega
 |succ fu ih=>
  rintro listed β w a Lv hc kX qH dh ⟨ob,Z6,Z7,hLt,C⟩;refine⟨λhr=>?_,λk hk=>?_⟩
  .rw[ng listed Lv hr (p+1) oG] at kX;cases kX
  rw[mem_ready] at hk;let⟨yU,o,ho,wy⟩:=hk;have nX:k<ops.size:=(Array.getElem?_eq_some_iff.1 ho).1;have lM:k<listed.size:=by omega
  have Cs:listed[k]=false:=by simpa[lM] using yU
  have sP:listed.getD k false=false:=by simp[lM,Cs]
  have eo:oo k=o:=Cq k o ho
  have Y0:(∀ i,i<k->((eO ops.toList []).getD k 0).testBit i=true)->∀ j,j<k->listed.getD j false=true:=by
   intro q2 j hj;have hb:=q2 j hj;have h1:=Dx ops.toList [] k o (tn ho);simp only[length_nil,Nat.zero_add] at h1;rw[h1] at hb;rcases Dp _ j _ 0 hb with h2|⟨e,he,kD,h2⟩
   .simp at h2
   .have np:=wy e (tn he) kD;rcases h2 with rfl|h2
    .exact np
    .have al:=uR k o ho e (tn he) kD;have J:((eO ops.toList []).getD e.on 0).testBit j=true:=by simpa[getElem?_take,al] using h2
     exact Dl (S:=λj=>listed.getD j false) dh j e.on np J
  have as7:listed.toList.countP (λb=> !b)<=fu+1:=hc
  have WJ:(listed.setIfInBounds k true).toList.countP (λb=> !b)<=fu:=by
   have:(listed.setIfInBounds k true).toList=listed.toList.set k true:=by simp
   rw[this,countP_set (tn lM)];have h2:0<listed.toList.countP (λb=> !b):=countP_pos_iff.2 ⟨listed[k],oS,by simp[Cs]⟩;have J:listed.toList[k]'(tn lM)=false:=tn Cs
   rw[J];simp only[Bool.not_false,if_true,Bool.not_true,Bool.false_eq_true,if_false];omega
  have Hy:∀ j,(listed.setIfInBounds k true).getD j false=true->∀ o,ops[j]? =some o->∀ e∈o.after,Region.binds .any e=true->(listed.setIfInBounds k true).getD e.on false=true:=by
   intro j hj o' uU e he hb;by_cases uV:j=k
   .subst uV;rw[ho] at uU;cases uU;exact getD_set_true (wy e he hb)
   .rw[getD_set_ne false (Ne.symm uV)] at hj;exact getD_set_true (dh j hj o' uU e he hb)
  apply Dg ho;rw[<- eo];by_cases Z8:k=p+1
  ·
    subst Z8;have cb:=Y0 BO
    have AN:nl=p:=by
     rcases Nat.lt_or_ge nl p with h|h
     .have h1:=qH h;rw[cb nl oG] at h1;cases h1
     .omega
    have U:eA oo pp st₀ (λj=>listed.getD j false) nl=b7 oo pp st₀ p:=by rw[<- AN];exact Dz oo pp st₀ _ λj hj=>cb j oG
    have h1:=C.e;have h2:=C.m;rw[U] at h1 h2;obtain⟨b,rfl⟩:=Option.isSome_iff_exists.1 (Z6 (cb p oG));let⟨g1,g2,g3,g4,z,g5,g6,g7⟩:=hLt b rfl
    have iI:∀ i,(b7 oo pp st₀ p).nx<=i->β i=none:=λi hi=>C.free i (Nat.le_trans (iU oo pp st₀ (Nat.zero_le _)) hi) λj hj _ J=>by
     have:=iU oo pp st₀ (show j+1<=p by omega);rw[nt,qW] at this;omega
    have hFw:FB F w:=⟨λb hb=>h2.fb.lt b (.inl hb),λt ht=>⟨(Mm.jk t ht).1,(h2.fb.jk t ht).2⟩⟩
    let⟨pl,k1,k2,k3,k4⟩:=agt h2 hFw (iI _ (bK _)) g2 g3 g5 g6 g7;refine Ri AN (up β (b7 oo pp st₀ p).nx (some pl)) w a ⟨λu=>?_,k1,λi hi=>?_⟩ ⟨?_,?_,λi hi hb=>?_,C.size,C.defers⟩ _ ?_
    rotate_left 5
    .intro a' w' hp
     have hr:Region.ready .any ops (listed.setIfInBounds (p+1) true)=[]:=by
      cases kY:Region.ready .any ops (listed.setIfInBounds (p+1) true) with
      |nil=>rfl
      |cons x xs=>
       exfalso;have hx:x∈Region.ready .any ops (listed.setIfInBounds (p+1) true):=by rw[kY];simp
       rw[mem_ready] at hx;let⟨g1,o',uU,_⟩:=hx;have tN:x<ops.size:=(Array.getElem?_eq_some_iff.1 uU).1;by_cases H':x=p+1
       .subst H';simp[lM] at g1
       .have J:=cb x oG;rw[getD_set_ne true (Ne.symm H')] at g1;have Fa:x<listed.size:=by omega
        simp[Fa] at g1 J;rw[g1] at J;cases J
     cases fu with
     |zero=>exact⟨hr,hp⟩
     |succ fu=>exact⟨λ_=>hp,λi hi=>by rw[hr] at hi;cases hi⟩
    .show R F _ w ((up (b7 oo pp st₀ p).env t (.rp (b7 oo pp st₀ p).nx 0)) u) _;by_cases hu:u=t
     .subst hu;rw[ap,g4];exact k2
     .rw[aW _ _ hu];exact k4 (h1 u)
    .have cQ:(b7 oo pp st₀ p).nx+1<=i:=hi;rw[aW _ _ oG];exact iI i oG
    .refine⟨C.step.size,λO mg vf=>?_,λi q hq=>?_,C.step.out,λi q hq iP=>?_⟩
     .let⟨X,q2⟩:=C.step.fF O mg vf;exact⟨X,rW q2 λq hq e=>by cases hq;rw[k3] at e;cases e;omega⟩
     .rcases C.step.iL i q hq with X|X
      .exact .inl (by rw[aW _ _ (λe=>by rw[e,iI _ (bK _)] at X;cases X)];exact X)
      .exact .inr (by rw[aW _ _ (λe=>by rw[e,iI _ (bK _)] at X;cases X)];exact X)
     .have bC:i≠(b7 oo pp st₀ p).nx:=λe=>by
       rcases C.step.iL i _ hq with X|X<;>(rw[e,iI _ (bK _)] at X;cases X)
      rw[aW _ _ bC] at iP;exact C.step.lp i q hq iP
    .have h5:=iU oo pp st₀ (Nat.zero_le p);show N₀<=(b7 oo pp st₀ p).nx+1;have h6:(b7 oo pp st₀ 0).nx=st₀.nx:=rfl;omega
    .have h5:=iU oo pp st₀ (Nat.zero_le p);have h6:(b7 oo pp st₀ 0).nx=st₀.nx:=rfl;rw[aW _ _ oG];exact C.grow i hi hb
  have Y1:(listed.setIfInBounds k true).getD (p+1) false=false:=by rw[getD_set_ne false (λe=>Z8 e)];exact kX
  by_cases Sm:k=p
  ·
    subst Sm;have anL:=Z7 sP;subst anL;refine ac9 AR Cz hlg Iu λz hz h1=>ih _ β _ _ (tn Lv) WJ Y1 (λh=>by rw[getD_set_ne false oG];exact qH h) Hy ?_;have Fb:eA oo pp st₀ (λj=>(listed.setIfInBounds k true).getD j false) nl=eA oo pp st₀ (λj=>listed.getD j false) nl:=Dz oo pp st₀ _ λj hj=>getD_set_ne false oG;have dw:Step β w β (w.alloc (.cells z.cells ty)):=Bh oS λb hb=>heap_alloc_old w _ hb;have ZT:∀ O,O<w.heap.size->O≠w.heap.size:=λO h=>by omega
    have o6:∀ O,O<w.heap.size->¬ FL F none O->¬ FL F (some w.heap.size) O:=λO h h2 J=>by
     rcases J with J|J
     .exact h2 (.inl J)
     .cases J;omega
    have hRs:∀ {d:D} {v:Value},R (FL F none) β w d v->R (FL F (some w.heap.size)) β (w.alloc (.cells z.cells ty)) d v:=λh=>h.gen oS (λO hb hf jS=>⟨xG (heap_alloc_old w _ hb),jS,o6 O hb hf⟩) λ_ _ _ h=>.inl h;refine⟨some w.heap.size,λ_=>rfl,λh=>?_,λb hb=>?_,⟨λu=>?_,?_,λi hi wV=>C.free i hi λj hj U=>wV j hj (getD_set_true U),C.step.trans dw,C.grow,by rw[xD];exact C.size,by rw[put_defers];exact C.defers⟩⟩
    .have:(listed.setIfInBounds k true).getD k false=true:=by simp[lM]
     rw[this] at h;cases h
    .cases hb;refine⟨C.step.size,λe=>by have:=C.m.fb.lt _ (.inl e);omega,oS,?_,z,hz,h1,heap_alloc_new w _⟩;have mF:=vC al ho t (by rw[<- eo];exact Cz);simp[Act.put,Array.getD_eq_getD_getElem?,C.size,mF]
    .rw[Fb];by_cases hu:u=t
     .subst hu;rw[akd];exact .u _
     .have h2:=hRs (C.e u)
      have:(a.put (some t) (.pointer (some ⟨w.heap.size,0,none⟩))).tmps.getD u undef=a.tmps.getD u undef:=by
       simp[Act.put,Array.getD_eq_getD_getElem?];rw[Array.getElem?_setIfInBounds_ne (Ne.symm hu)]
      rw[this];exact h2
    .rw[Fb];refine⟨λi rr hi=>?_,C.m.inj,λi q b hq e=>?_,λi q b hq e hf=>?_,C.m.fb.next (λb hb=>?_) (λb hb=>?_) λtt Mb hF=>heap_alloc_old w _ (C.m.fb.lt _ hF)⟩
     .let⟨q,hq,hr⟩:=C.m.row i rr hi;exact⟨q,hq,hr.gen oS (λO hb hf jS=>⟨xG (heap_alloc_old w _ hb),jS,o6 O hb hf⟩) (λ_ _ _ h=>.inl h) λb hb=>heap_alloc_old w _ (C.m.lt i q b hq hb)⟩
     .have:=C.m.lt i q b hq e;simp;omega
     .have h2:=C.m.lt i q b hq e;exact o6 b h2 (C.m.nf i q b hq e) hf
     .rcases hb with hb|hb
      .have:=C.m.fb.lt b (.inl hb);simp;omega
      .cases hb;simp
     .rcases hb with hb|hb
      .exact .inl hb
      .cases hb
  by_cases Rk:k=nl
  ·
    have mF:nl<p:=by omega
    let⟨X,q2,ch,mP,sV,q3,q5⟩:=Rj mF;rw[<- Rk] at q2;have cb:=Y0 q2;have U:eA oo pp st₀ (λj=>listed.getD j false) nl=b7 oo pp st₀ nl:=Dz oo pp st₀ _ λj hj=>cb j oG;have h1:=C.e;have h2:=C.m;rw[U] at h1 h2
    have iI:∀ i,(b7 oo pp st₀ nl).nx<=i->β i=none:=λi hi=>C.free i (Nat.le_trans (iU oo pp st₀ (Nat.zero_le _)) hi) λj hj _ J=>by
     have:=iU oo pp st₀ (show j+1<=nl by omega);rw[nt,qW] at this;omega
    have h5:=iU oo pp st₀ (Nat.zero_le nl);have h6:(b7 oo pp st₀ 0).nx=st₀.nx:=rfl;rw[Rk];refine q5 (FL F ob) β w a ⟨h1,h2,iI⟩ _ _ λβ' w' g1 g2 g3 q4 g4=>⟨_,β',q3,⟨λu=>((h1 u).step g3).sE λb hb=>.inl hb,g1.sE (λb hb=>.inl hb) λtt Mb=>(Mm.jk tt Mb).1,g2⟩,⟨C.step.trans g3,?_,λi hi hb=>g4 i oG (C.grow i hi hb),C.size,C.defers⟩⟩
    show N₀<=sV;omega
  have AJ:k<nl:=by omega
  have EF:∀ j,j<k->listed.getD j false=false->((eO ops.toList []).getD k 0).testBit j=false:=by
   intro j uV hj;cases hb:((eO ops.toList []).getD k 0).testBit j with
   |false=>rfl
   |true=>
    exfalso;have h1:=Dx ops.toList [] k o (tn ho);simp only[length_nil,Nat.zero_add] at h1;rw[h1] at hb;rcases Dp _ j _ 0 hb with h2|⟨e,he,kD,h2⟩
    .simp at h2
    .have np:=wy e (tn he) kD;rcases h2 with rfl|h2
     .rw[hj] at np;cases np
     .have al:=uR k o ho e (tn he) kD;have J:((eO ops.toList []).getD e.on 0).testBit j=true:=by simpa[getElem?_take,al] using h2
      have:=Dl (S:=λj=>listed.getD j false) dh j e.on np J;rw[hj] at this;cases this
  have uA:∀ j,k<j->listed.getD j false=true->((eO ops.toList []).getD j 0).testBit k=false:=by
   intro j gB hj;cases hb:((eO ops.toList []).getD j 0).testBit k with
   |false=>rfl
   |true=>
    exfalso;have:=Dl (S:=λj=>listed.getD j false) dh k j hj hb;rw[sP] at this;cases this
  have Ej:∀ j,j<nl->listed.getD j false≠decide (j<k)->(j<k/\listed.getD j false=false)\/(k<j/\listed.getD j false=true):=by
   intro j hj bC;rcases Nat.lt_trichotomy j k with h|h|h
   .left;refine⟨h,?_⟩;simpa[h] using bC
   .subst h;simp[sP] at bC
   .right;refine⟨h,?_⟩;have:¬ j<k:=by omega
    simpa[this] using bC
  have yV:=Pa oo pp st₀ k nl oG
  have p9:∀ u∈(oo k).looksAt ops,(eA oo pp st₀ (λj=>listed.getD j false) nl).env u=(b7 oo pp st₀ k).env u:=λu hu=>by
   rw[<- yV];refine OD oo pp st₀ _ λj hj bC=>?_;rcases Ej j hj bC with⟨h1,h2⟩|⟨h1,h2⟩
   .have:=(Oper.apart_spec (sU j k h1 AJ (EF j h1 h2)).1).1;exact λhd=>this u hd hu
   .have:=(Oper.apart_spec (sU k j h1 hj (uA j h1 h2)).1).2.2;exact λhd=>this u hd hu
  have fin:∀ v w' β',R (FL F ob) β' w' (pp k).val v->aQ P (FL F ob) (cT (eA oo pp st₀ (λj=>listed.getD j false) nl).mem (pp k).bn) β' w'->Step β w β' w'->
   (∀ i,β i=none->(i<(b7 oo pp st₀ k).nx\/(b7 oo pp st₀ k).nx+(pp k).new<=i)->β' i=none)->wpAnyIn (Fe r) n P .any ops (dV P F N₀ β₀ w₀ a₀ Q) fu (listed.setIfInBounds k true) (a.put (oo k).dst v) w':=by
   intro v w' β' g1 g2 g3 g4
   have Fb:(λj=>(listed.setIfInBounds k true).getD j false)=(λj=>if j=k then true else listed.getD j false):=by
    funext j;by_cases hj:j=k
    .subst hj;simp[lM]
    .rw[ai hj,getD_set_ne false (Ne.symm hj)]
   let⟨ae,am⟩:=Wi oo pp st₀ (S:=λj=>listed.getD j false) (k:=k) sP nl AJ λj gB hj Ct=>
    ⟨(Oper.apart_spec (sU k j gB hj (uA j gB Ct)).1).2.1,(sU k j gB hj (uA j gB Ct)).2.ww⟩
   refine ih _ β' w' _ (tn Lv) WJ Y1 (λh=>by rw[getD_set_ne false Rk];exact qH h) Hy ⟨ob,λh=>Z6 (by rw[getD_set_ne false Sm] at h;exact h),λh=>Z7 (by rw[getD_set_ne false Sm] at h;exact h),λb hb=>?_,?_⟩
   .let⟨l1,l2,l3,l4,z,l5,l6,l7⟩:=hLt b hb;have AS:β.free b:=λi q hq e=>C.m.nf i q b hq e (.inr hb.symm);refine⟨l1,l2,Nat.lt_of_lt_of_le l3 g3.size,?_,z,l5,l6,(g3.fF b l3 AS).1.trans l7⟩;have bC:=CJ k oG;cases gO:(oo k).dst with
    |none=>exact l4
    |some u=>
     have hu:u≠t:=λe=>bC (by rw[gO,e]);simp[Act.put,Array.getD_eq_getD_getElem?] at l4 ⊢;rw[Array.getElem?_setIfInBounds_ne hu];exact l4
   .rw[Fb];refine⟨?_,by rw[am];exact g2,λi hi hn=>?_,C.step.trans g3,λi hi hn=>?_,by rw[xD];exact C.size,by rw[put_defers];exact C.defers⟩
    .rw[ae];have hd:∀ t,(oo k).dst=some t->t<a.tmps.size:=λt ht=>by rw[C.size];rw[eo] at ht;exact vC al ho t ht
     have he:=C.e.step g3;cases gO:(oo k).dst with
     |none=>exact he
     |some u=>exact he.put (some u) _ v g1 λt ht=>hd t (by rw[gO];exact ht)
    .have Fv:=hn k AJ oS;refine g4 i (C.free i hi λj hj U J=>hn j hj ?_ J) ?_
     .show(if j=k then true else listed.getD j false)=true;split
      .rfl
      .exact U
     .omega
    .refine g4 i (C.grow i hi hn) (.inl ?_);have h5:=iU oo pp st₀ (Nat.zero_le k);have h6:(b7 oo pp st₀ 0).nx=st₀.nx:=rfl;omega
  rcases c6 k AJ with Ia|⟨hH,Ia⟩
  .refine Ia (FL F ob) β w a (eA oo pp st₀ (λj=>listed.getD j false) nl).mem (eA oo pp st₀ (λj=>listed.getD j false) nl).env (b7 oo pp st₀ nl).nx p9 C.e C.m ?_ ?_ ?_ r n _ _ fin
   .intro i hi bC;rw[<- yV];refine OE oo pp st₀ _ λj hj B8 hw=>?_;rcases Ej j hj B8 with⟨h1,h2⟩|⟨h1,h2⟩
    .exact(sU j k h1 AJ (EF j h1 h2)).2.wr i hw hi
    .exact(sU k j h1 hj (uA j h1 h2)).2.rw i hw hi
   .intro i h1 h2;refine C.free i (Nat.le_trans (iU oo pp st₀ (Nat.zero_le _)) h1) λj hj U J=>?_;rcases Nat.lt_trichotomy j k with h|h|h
    .have:=iU oo pp st₀ (show j+1<=k by omega);rw[nt,qW] at this;omega
    .subst h;simp only[sP] at U;cases U
    .have:=iU oo pp st₀ (show k+1<=j by omega);rw[nt,qW] at this;omega
   .intro i hi;refine C.free i (Nat.le_trans (iU oo pp st₀ (Nat.zero_le _)) hi) λj hj _ J=>?_;have:=iU oo pp st₀ (show j+1<=nl by omega);rw[nt,qW] at this;omega
  .have nS:(eA oo pp st₀ (λj=>listed.getD j false) nl).mem=(b7 oo pp st₀ k).mem:=by
    funext i;rw[<- yV];refine OE oo pp st₀ _ λj hj B8 hw=>?_;rcases Ej j hj B8 with⟨h1,h2⟩|⟨h1,h2⟩
    .have:=((sU j k h1 AJ (EF j h1 h2)).2.hq hH).1;simp[bI.wr,this] at hw
    .have:=((sU k j h1 hj (uA j h1 h2)).2.hp hH).1;simp[bI.wr,this] at hw
   have hm:=C.m;rw[nS] at hm fin;refine Ia (FL F ob) β w a (eA oo pp st₀ (λj=>listed.getD j false) nl).env p9 C.e hm (λi hi=>?_) r n _ _ fin;refine C.free i (Nat.le_trans (iU oo pp st₀ (Nat.zero_le _)) hi) λj hj U J=>?_;rcases Nat.lt_trichotomy j k with h|h|h
   .have:=iU oo pp st₀ (show j+1<=k by omega);rw[nt,qW] at this;omega
   .subst h;simp only[sP] at U;cases U
   .have:=((sU k j h hj (uA j h U)).2.hp hH).2;omega
end
end
section
def Qk:D->D->Bool
 | .rp i o,.rp j q=>Nat.beq i j&&Nat.beq o q
 | .rs i o k,.rs j q l=>(Nat.beq i j&&Nat.beq o q)&&Nat.beq k l
 | .mp i,.mp j=>Nat.beq i j
 | .z,.z=>true
 | .s x,.s y=>tA x y
 |_,_=>false
def KE:List D->List D->Bool
 |[],[]=>true
 |a::aS,b::bs=>Qk a b&&KE aS bs
 |_,_=>false
def K9:Option Row->Option Row->Bool
 |none,none=>true
 |some (.cells cs e),some (.cells ds e')=>Nat.beq e e'&&KE cs ds
 |_,_=>false
def Am(m m':T Row):List Nat->List (Nat×Option Row)
 |[]=>[]
 |i::l=>bif K9 (m.get i) (m'.get i) then Am m m' l else(i,m'.get i)::Am m m' l
def PB(d:D)(m m':T Row)(nx aw:Nat):bI:=⟨d,Am m m' (range aw),[],aw - nx⟩
def PC(call:mX)(o:Oper)(c:cg):Option qF:=match o.guard,o.op with
 |none,.call cl=>match cl.callee with
  | .value f=>match fx c.env f with
   | .fn (.func g) fs cs=>call g (fs++cl.args.toList.map (fx c.env)++cs) c.mem c.nx
   |_=>none
  |_=>none
 |_,_=>none
abbrev HR:=Option (List (bI×Bool)×(cg ⊕ (List PanicEntry×cg)))
def La(p:bI×Bool):HR->HR
 |some (ps,r)=>some (p::ps,r)
 |none=>none
def xZ(P:Program)(kL:qb)(jv:mX)(ops:Array Oper):List Oper->cg->HR
 |[],c=>some ([],.inl c)
 |o::os,c=>match PC jv o c with
  |some (.inl d,m',aw)=>match Ak c o.dst (PB d c.mem m' c.nx aw) with
   |some c'=>La (PB d c.mem m' c.nx aw,true) (xZ P kL jv ops os c')
   |none=>none
  |some (.inr ch,m',aw)=>match os with
   |[]=>some ([],.inr (ch,⟨c.env,m',aw⟩))
   |_=>none
  |none=>match K0 P kL ops o c with
   |some p=>match Ak c o.dst p with
    |some c'=>La (p,false) (xZ P kL jv ops os c')
    |none=>none
   |none=>none
def Lb(p:bI):Bool:=p.bn.isEmpty&&Nat.beq p.new 0
def Y2(ps:List (bI×Bool))(q:Nat×Nat):Bool:=match ps[q.1]?,ps[q.2]? with
 |some a,some b=>((!meets b.1.wr a.1.wr&& !meets b.1.rd a.1.wr)&& !meets a.1.rd b.1.wr)&&((!a.2||Lb b.1)&&(!b.2||Lb a.1))
 |_,_=>false
def yc(ps:List (bI×Bool)):List (Nat×Nat)->Bool
 |[]=>true
 |q::l=>Y2 ps q&&yc ps l
def Rm(P:Program)(jv:mX)(ops:Array Oper)(p t:Nat)(ty:TypeId):HR->Option (Exit×cg)
 |some (ps,.inl c1)=>bif yc ps (unordered (eO ops.toList []) ps.length) then match c1.mem.put c1.nx (some (.cells (bm P ty) ty)) with
  |some m=>match Aj c1 (some t) (.rp c1.nx 0) m (c1.nx+1) with
   |some C=>uB P [] jv ops (ops.toList.drop (p+1)) C
   |none=>none
  |none=>none
  else none
 |some (ps,.inr (ch,c1))=>bif yc ps (unordered (eO ops.toList []) ps.length)&&(range ps.length).all (λi=>((eO ops.toList []).getD ps.length 0).testBit i) then some (.panic ch,c1) else none
 |none=>none
def XS(P:Program)(kL:qb)(jv:mX)(ops:Array Oper)(p:Nat)(c:cg):Op->Option Nat->Option (Nat×Bool)->Option (Exit×cg)
 | .alloc ty,some t,none=>bif aT P ty&&(ops.toList.take p).all (λo=>match o.dst with
   |some u=> !Nat.beq u t
   |none=>true) then match Aj c (some t) .u c.mem c.nx with
   |some C=>Rm P jv ops p t ty (xZ P kL jv ops (ops.toList.take p) C)
   |none=>none
  else none
 |_,_,_=>none
def Ql(P:Program)(kL:qb)(jv:mX)(ops:Array Oper)(c:cg):Option (Exit×cg):=
 bif Nat.ble 2 ops.size&&(BM ops&&(bV ops).isSome) then match ops[ops.size - 2]? with
  |some o=>XS P kL jv ops (ops.size - 2) c o.op o.dst o.guard
  |none=>none
 else none
variable{o:Oper}{f:FuncId}{args:List D}{y:D ⊕ List PanicEntry}{m':T Row}{aw:Nat}
section
variable{P:Program}{F:Nat->Prop}{ops:Array Oper}{β:aN}{w:World}{a:Act}{c c':cg}
def agu{x y:D}(h:Qk x y=true):x=y:=by
 unfold Qk at h;split at h
 .simp[aH,Nat.beq_eq] at h;rw[h.1,h.2]
 .simp[aH,Nat.beq_eq] at h;rw[h.1.1,h.1.2,h.2]
 .rw[Nat.eq_of_beq_eq_true h]
 .rfl
 .rw[OJ h]
 .cases h
def UB:∀ {xs ys:List D},KE xs ys=true->xs=ys
 |[],[],_=>rfl
 |x::xs,y::ys,h=>by
  simp[KE,aH] at h;rw[agu h.1,UB h.2]
 |[],_::_,h=>by cases h
 |_::_,[],h=>by cases h
def agv{x y:Option Row}(h:K9 x y=true):x=y:=by
 unfold K9 at h;split at h
 .rfl
 .simp[aH,Nat.beq_eq] at h;rw[h.1,UB h.2]
 .cases h
def NN{m m':T Row}:∀ (l:List Nat) (g:Mem),(∀ i,g i=m.get i\/g i=m'.get i)->∀ i,cT g (Am m m' l) i=if i∈l then m'.get i else g i
 |[],g,h,i=>by simp[Am,cT]
 |j::l,g,h,i=>by
  cases hs:K9 (m.get j) (m'.get j) with
  |true=>
   simp only[Am,hs,cond_true];rw[NN l g h i];have e:=agv hs;by_cases hl:i∈l
   .rw[bi hl,bi (mem_cons_of_mem _ hl)]
   .rw[ai hl];by_cases hj:i=j
    .subst hj;rw[bi (mem_cons_self ..)];rcases h i with h1|h1
     .rw[h1,e]
     .exact h1
    .rw[ai (λhm=>by rcases mem_cons.1 hm with e|e;exact hj e;exact hl e)]
  |false=>
   simp only[Am,hs,cond_false,cT]
   rw[NN l (up g j (m'.get j)) (λk=>by
    rw[Dw];by_cases hk:k=j
    .subst hk;rw[bi rfl];exact .inr rfl
    .rw[ai hk];exact h k) i]
   by_cases hl:i∈l
   .rw[bi hl,bi (mem_cons_of_mem _ hl)]
   .rw[ai hl,Dw];by_cases hj:i=j
    .subst hj;rw[bi rfl,bi (mem_cons_self ..)]
    .rw[ai hj,ai (λhm=>by rcases mem_cons.1 hm with e|e;exact hj e;exact hl e)]
def XT{env:Env}(hg:o.guard=none)(hc:eB (fx c.env) o.op=some (f,args))(hz:ZC P [] f args (bt c.mem) c.nx y (bt m') aw)
 (he:∀ t∈o.looksAt ops,env t=(bj c).env t) (C:gq F β w env a) (hm:aQ P F (bt c.mem) β w) (hn:∀ i,c.nx<=i->β i=none) {r:Option Nat} {n:Nat} {QX:Exit->Act->World->Prop} {K:Act->World->Prop}
 (J:∀ e w',Ends P F β w c.nx y (bt m') aw e w'->(∃ v,e=.returned v/\K (a.put o.dst v) w')\/∃ ch,e=.panicked ch/\QX (.panic ch) a w'):ju r n P ops QX o K a w:=by
 have U:∀ t,Operand.tmp t∈o.op.operands->o7 env t=o7 (gu c.env) t:=λt ht=>by
  show wT (env t)=wT (gu c.env t);rw[zu (st:=bj c) he t ht];rfl
 have O:Region.wanted o (yielded ops a.tmps)=true:=by simp[Region.wanted,hg]
 refine NJ O C.un (zI env _) (by rw[Dr (zG U),Bn];exact hc) hz.1 λvs hR=>(hz.2 F β w vs vE hm hn hR).mono λe w' hp=>J e w' hp
def aja{d:D}(hg:o.guard=none)(hc:eB (fx c.env) o.op=some (f,args))(hz:ZC P [] f args (bt c.mem) c.nx (.inl d) (bt m') aw):bI.It P ops o (bj c) (PB d c.mem m' c.nx aw):=by
 intro F β w a env he U hm hn r n QX K X;refine XT hg hc hz he U hm hn λe w' ⟨β',⟨v,h1,h2⟩,h3,h4,h5,h6,h7⟩=>.inl ⟨v,h1,X v w' β' h2 ⟨λi rr hi=>?_,h3.inj,h3.lt,h3.nf,h3.fb⟩ h5 λi hi J=>?_⟩
 .have hu:=NN (m:=c.mem) (m':=m') (range aw) (bt c.mem) (λi=>.inl rfl) i;have C:cT (bt c.mem) (Am c.mem m' (range aw)) i=some rr:=hi;rw[hu] at C;by_cases hl:i∈range aw
  .rw[bi hl] at C;exact h3.row i rr C
  .rw[ai hl] at C;let⟨p,hp,_⟩:=hm.row i rr C;have O:aw<=i:=tn hl
   rw[hn i (Nat.le_trans h6 O)] at hp;cases hp
 .rcases J with J|J
  .exact h7 i J hi
  .apply h4 i;have:c.nx+(aw - c.nx)<=i:=J;omega
variable{kL:qb}{jv:mX}
def UC(ht:xK P [] jv)(h:PC jv o c=some (y,m',aw)):o.guard=none/\∃ f args,eB (fx c.env) o.op=some (f,args)/\ZC P [] f args (bt c.mem) c.nx y (bt m') aw:=by
 unfold PC at h;split at h
 .rename_i cl hg ho;split at h
  .rename_i f hf;split at h
   .rename_i g fs cs hv;exact⟨hg,g,_,by rw[ho];exact Og hf hv,ht _ _ _ _ _ _ _ h⟩
   .cases h
  .cases h
 .cases h
def HTo(P:Program)(oo:Nat->Oper)(pp:Nat->bI)(st₀:St)(N k l:Nat):cg ⊕ (List PanicEntry×cg)->Prop
 | .inl C=>l=N/\bj C=b7 oo pp st₀ (k+l)
 | .inr (ch,C)=>l+1=N/\∃ J f args,bj J=b7 oo pp st₀ (k+l)/\C.env=J.env/\(oo (k+l)).guard=none/\eB (fx J.env) (oo (k+l)).op=some (f,args)/\ZC P [] f args (bt J.mem) J.nx (.inr ch) (bt C.mem) C.nx
def UD(hp:Bo P kL)(ht:xK P [] jv)(oo:Nat->Oper)(pp:Nat->bI)(hv:Nat->Bool)(st₀:St):∀ (os:List Oper) (k:Nat) (ps:List (bI×Bool)) (c:cg) (r:cg ⊕ (List PanicEntry×cg)),(∀ j o,os[j]? =some o->oo (k+j)=o)->(∀ j p,ps[j]? =some p->pp (k+j)=p.1/\hv (k+j)=p.2)->
 bj c=b7 oo pp st₀ k->xZ P kL jv ops os c=some (ps,r)->
 (∀ j,k<=j->j<k+ps.length->(pp j).Ok P ops (oo j) (b7 oo pp st₀ j)\/(hv j=true/\(pp j).It P ops (oo j) (b7 oo pp st₀ j)))/\
 HTo P oo pp st₀ os.length k ps.length r
 |[],k,ps,c,r,ho,hq,bL,h=>by
  simp[xZ,aY,cO] at h;obtain⟨rfl,rfl⟩:=h;exact⟨λj h1 h2=>absurd h2 oP,rfl,bL⟩
 |o::os,k,ps,c,r,ho,hq,bL,h=>by
  have U:oo k=o:=ho 0 o rfl
  have step:∀ {p:bI} {b:Bool} {C:cg},(p.Ok P ops o (bj c)\/(b=true/\p.It P ops o (bj c)))->Ak c o.dst p=some C->La (p,b) (xZ P kL jv ops os C)=some (ps,r)->(∀ j,k<=j->j<k+ps.length->(pp j).Ok P ops (oo j) (b7 oo pp st₀ j)\/(hv j=true/\(pp j).It P ops (oo j) (b7 oo pp st₀ j)))/\
   HTo P oo pp st₀ (o::os).length k ps.length r:=λ{p b C} c6 O J=>by
   cases hx:xZ P kL jv ops os C with
   |none=>rw[hx] at J;cases J
   |some z=>
    let⟨qs,r'⟩:=z;rw[hx] at J;simp[La,aY,cO] at J;obtain⟨rfl,rfl⟩:=J;let⟨e2,e3⟩:=hq 0 (p,b) rfl;simp[Nat.add_zero] at e2 e3
    have X:bj C=b7 oo pp st₀ (k+1):=by
     rw[nt,U,e2, <- bL];exact JQ O
    let⟨a1,a2⟩:=UD hp ht oo pp hv st₀ os (k+1) qs C r' (λj x hj=>by have:=ho (j+1) x (tn hj);rw[<- this];congr 1;omega)
     (λj x hj=>by have:=hq (j+1) x (tn hj);rw[show k+1+j=k+(j+1) by omega];exact this) X hx
    have e4:k+((p,b)::qs).length=k+1+qs.length:=by simp;omega
    refine⟨λj hj wM=>?_,?_⟩;rw[e4] at wM
    .rcases Nat.lt_or_ge k j with al|bJ
     .exact a1 j al wM
     .have:j=k:=by omega
      subst this;rw[U,e2,e3, <- bL];exact c6
    .cases r' with
     |inl c3=>exact⟨by simp[a2.1],by rw[e4];exact a2.2⟩
     |inr z=>exact⟨by simp[length_cons];have:=a2.1;omega,by rw[e4];exact a2.2⟩
  simp[xZ] at h;split at h
  .rename_i d m' aw hh;split at h
   .rename_i C O;let⟨g1,f,args,g2,g3⟩:=UC ht hh;exact step (.inr ⟨rfl,aja g1 g2 g3⟩) O h
   .cases h
  .rename_i ch m' aw hh;split at h
   .simp[aY,cO] at h;obtain⟨rfl,rfl⟩:=h;let⟨g1,f,args,g2,g3⟩:=UC ht hh;refine⟨λj h1 h2=>absurd h2 oP,rfl,c,f,args,bL,rfl,?_,?_,g3⟩
    .simp[length_nil,Nat.add_zero];rw[U];exact g1
    .simp[length_nil,Nat.add_zero];rw[U];exact g2
   .cases h
  .split at h
   .rename_i p jn;split at h
    .rename_i C O;exact step (.inl (VC hp jn).1) O h
    .cases h
   .cases h
def TP{ps:List (bI×Bool)}:∀ {l:List (Nat×Nat)},yc ps l=true->∀ q∈l,PA (ps.getD q.1 default).1 (ps.getD q.2 default).1 (ps.getD q.1 default).2 (ps.getD q.2 default).2
 |[],_,q,hq=>by cases hq
 |p::l,h,q,hq=>by
  simp[yc,aH] at h;rcases mem_cons.1 hq with rfl|hq
  .have h:=h.1;unfold Y2 at h;split at h
   .rename_i x y hx hy;simp[aH,Bool.not_eq_true',Bool.or_eq_true] at h;let⟨⟨⟨h1,h2⟩,J⟩,O,U⟩:=h
    have C:∀ {p:bI},Lb p=true->p.bn=[]/\p.new=0:=λh=>by
     simpa[Lb] using h
    simp[List.getD,hx,hy,Option.getD_some];exact⟨Bd h1,Bd h2,Bd J,λe=>C (O.resolve_left (by rw[e];simp)),λe=>C (U.resolve_left (by rw[e];simp))⟩
   .cases h
  .exact TP h.2 q hq
def agw{r:Option Nat}{n id:Nat}{e:Exit}(lZ:P.follows .mixedOrders=true)(hp:Bo P kL)(ht:xK P [] jv)(al:nP a.tmps.size ops=true)(h:Ql P kL jv ops c=some (e,c'))
 (hs:cy P F (bj c) β w a):(Code.region id ops true).wpIn (Fe r) n P (dV P F c.nx β w a (QE e c')) a w:=by
 unfold Ql at h;cases hb:(Nat.ble 2 ops.size&&(BM ops&&(bV ops).isSome)) with
 |false=>rw[hb] at h;cases h
 |true=>
 rw[hb] at h;simp only[aH,Nat.ble_eq] at hb;let⟨anN,mY,ake⟩:=hb;let⟨cf,Cl⟩:=Option.isSome_iff_exists.1 ake;let⟨uR,R3,_⟩:=Tu Cl;let⟨_,BO⟩:=Nj mY;obtain⟨p,hpz⟩:∃ p,ops.size=p+2:=⟨ops.size - 2,oG⟩
 have ep:ops.size - 2=p:=by omega
 have eq1:ops.size - 1=p+1:=by omega
 rw[ep] at h;rw[eq1] at BO;simp only[cond_true] at h;split at h
 rotate_left
 .cases h
 rename_i ol lJ;unfold XS at h;split at h
 rotate_left
 .cases h
 rename_i ty t fO gO AT
 cases AU:(aT P ty&&(ops.toList.take p).all (λo=>match o.dst with
  |some u=> !Nat.beq u t
  |none=>true)) with
 |false=>rw[AU] at h;cases h
 |true=>
 rw[AU] at h;simp only[aH,cm] at AU;let⟨Iu,CJ⟩:=AU;simp only[cond_true] at h;split at h
 rotate_left
 .cases h
 rename_i C CB;cases jn:xZ P kL jv ops (ops.toList.take p) C with
 |none=>rw[jn] at h;cases h
 |some z=>
 let⟨ps,rr⟩:=z;rw[jn] at h;have e0:=DN CB;have Sp:bj C=⟨up (gu c.env) t .u,bt c.mem,c.nx⟩:=e0
 have qz:cy P F (bj C) β w a:=by
  rw[Sp];refine⟨λu=>?_,hs.m,hs.n⟩;by_cases hu:u=t
  .subst hu;show R F β w (up (gu c.env) u .u u) _;rw[ap];exact .u _
  .show R F β w (up (gu c.env) t .u u) _;rw[aW _ _ hu];exact hs.e u
 have hlen:(ops.toList.take p).length=p:=by simp;omega
 have Z9:∀ j o,ops[j]? =some o->ops.toList.getD j default=o:=λj o hj=>by simp[hj]
 let⟨k1,k2⟩:=UD hp ht (λj=>ops.toList.getD j default) (λj=>(ps.getD j default).1) (λj=>(ps.getD j default).2) (bj C) (ops.toList.take p) 0 ps C rr (λj o hj=>by
  have jm:j<p:=by rw[<- hlen];exact(bO.1 hj).1
  rw[getElem?_take,bi jm] at hj
  simp at hj;simp[hj]) (λj p hj=>by simp[hj]) rfl jn
 simp only[Nat.zero_add] at k1 k2
 have ajb:∀ {nl:Nat},nl=ps.length->nl<=p->yc ps (unordered (eO ops.toList []) ps.length)=true->∀ i j,i<j->j<nl->((eO ops.toList []).getD j 0).testBit i=false->(ops.toList.getD i default).apart ops (ops.toList.getD j default)=true/\PA (ps.getD i default).1 (ps.getD j default).1 (ps.getD i default).2 (ps.getD j default).2:=λ{nl} mf hle hb i j kp hj Z'=>by
  refine⟨?_,TP hb (i,j) (I1 kp (mf▸hj) Z')⟩;have h1:=R3 _ (I1 kp (show j<ops.size by omega) Z');have cQ:i<ops.size:=by omega
  have jm:j<ops.size:=by omega
  simpa[Je,cQ,jm] using h1
 have anO:∀ j,j<p->(ops.toList.getD j default).dst≠some t:=λj hj e=>by
  have jm:j<ops.size:=by omega
  have hx:ops.toList.getD j default∈ops.toList.take p:=by
   have:(ops.toList.take p)[j]? =some (ops.toList.getD j default):=by
    rw[getElem?_take,bi hj];simp[jm]
   exact cL this
  have:=CJ _ hx;rw[e] at this;simp at this
 have dw:Step β w β { w with drawn:=w.drawn+1 }:=⟨bK _,λ_ _ h=>⟨rfl,h⟩,λ_ _ h=>.inl h,⟨rfl,rfl⟩,λ_ _ _ _=>pV rfl⟩
 have Cm:aQ P F (bj C).mem β { w with drawn:=w.drawn+1 }:=qz.m.ext (bK _) λ_ _=>rfl;have hE1:gq F β { w with drawn:=w.drawn+1 } (bj C).env a:=qz.e.step dw;let⟨H8,tM⟩:=ah6 hE1 Cm
 have aaa:∀ nl,eA (λj=>ops.toList.getD j default) (λj=>(ps.getD j default).1) (bj C) (λj=>(Array.replicate ops.size false).getD j false) nl=bj C:=λnl=>by
  induction nl with
  |zero=>rfl
  |succ n ih=>
   have:(Array.replicate ops.size false).getD n false=false:=by simp[Array.getD_eq_getD_getElem?,Array.getElem?_replicate];split<;>rfl
   simp only[eA,this,Bool.false_eq_true,if_false];exact ih
 have Lw:∀ j,(Array.replicate ops.size false).getD j false=false:=λj=>by simp[Array.getD_eq_getD_getElem?,Array.getElem?_replicate];split<;>rfl
 have AR:(ops.toList.getD p default).op=.alloc ty/\(ops.toList.getD p default).dst=some t/\(ops.toList.getD p default).guard=none:=by
  rw[Z9 p ol lJ];exact⟨fO,gO,AT⟩
 have akf:(bj C).env t=.u:=by rw[Sp];exact ap _ _ _
 have aab:(bj C).nx=c.nx:=by rw[Sp]
 have go:∀ {nl:Nat} (_:nl=ps.length) (_:nl<=p) (_:yc ps (unordered (eO ops.toList []) ps.length)=true)
  (_:nl=p->∀ β1 w1 a1,cy P F ⟨up (b7 (λj=>ops.toList.getD j default) (λj=>(ps.getD j default).1) (bj C) p).env t (.rp (b7 (λj=>ops.toList.getD j default) (λj=>(ps.getD j default).1) (bj C) p).nx 0),up (b7 (λj=>ops.toList.getD j default) (λj=>(ps.getD j default).1) (bj C) p).mem (b7 (λj=>ops.toList.getD j default) (λj=>(ps.getD j default).1) (bj C) p).nx (some (.cells (bm P ty) ty)),(b7 (λj=>ops.toList.getD j default) (λj=>(ps.getD j default).1) (bj C) p).nx+1⟩ β1 w1 a1->
   eM c.nx β w a ⟨up (b7 (λj=>ops.toList.getD j default) (λj=>(ps.getD j default).1) (bj C) p).env t (.rp (b7 (λj=>ops.toList.getD j default) (λj=>(ps.getD j default).1) (bj C) p).nx 0),up (b7 (λj=>ops.toList.getD j default) (λj=>(ps.getD j default).1) (bj C) p).mem (b7 (λj=>ops.toList.getD j default) (λj=>(ps.getD j default).1) (bj C) p).nx (some (.cells (bm P ty) ty)),(b7 (λj=>ops.toList.getD j default) (λj=>(ps.getD j default).1) (bj C) p).nx+1⟩ β1 w1 a1->
   ∀ K:Act->World->Prop,(∀ a' w',dV P F c.nx β w a (QE e c') .normal a' w'->K a' w')->ju r n P ops (dV P F c.nx β w a (QE e c')) (ops.toList.getD (p+1) default) K a1 w1)
  (_:nl<p->nl+1=p/\(∀ i,i<nl->((eO ops.toList []).getD nl 0).testBit i=true)/\∃ ch mP sV,(QE e c') (.panic ch) ⟨(b7 (λj=>ops.toList.getD j default) (λj=>(ps.getD j default).1) (bj C) nl).env,mP,sV⟩/\
   ∀ (F:Nat->Prop) (β:aN) (w:World) (a:Act),cy P F (b7 (λj=>ops.toList.getD j default) (λj=>(ps.getD j default).1) (bj C) nl) β w a->∀ (QX:Exit->Act->World->Prop) (K:Act->World->Prop),
    (∀ β' w',aQ P F mP β' w'->(∀ i,sV<=i->β' i=none)->Step β w β' w'->(b7 (λj=>ops.toList.getD j default) (λj=>(ps.getD j default).1) (bj C) nl).nx<=sV->(∀ i,i<(b7 (λj=>ops.toList.getD j default) (λj=>(ps.getD j default).1) (bj C) nl).nx->β i=none->β' i=none)->QX (.panic ch) a w')->ju r n P ops QX (ops.toList.getD nl default) K a w),
  (Code.region id ops true).wpIn (Fe r) n P (dV P F c.nx β w a (QE e c')) a w:=λ{nl} mf hle J Ri Rj=>by
  apply wpIn_region_any lZ
  refine ai' (st₀:=bj C) (oo:=λj=>ops.toList.getD j default) (pp:=λj=>(ps.getD j default).1) (hv:=λj=>(ps.getD j default).2) (p:=p) (nl:=nl) (t:=t) (ty:=ty) r n Z9 al hpz uR AR.1 AR.2.1 AR.2.2 Iu anO akf BO hle
   (λj hj=>k1 j (Nat.zero_le _) (mf▸hj)) (ajb mf hle J) Ri Rj (by rw[aab];exact bK _) hs.m.fb ops.size (Array.replicate ops.size false) β _ a oS ?_ (Lw _) (λ_=>Lw _) (λj hj=>by rw[Lw] at hj;cases hj)
   ⟨none,λh=>(by rw[Lw] at h;cases h),λ_=>rfl,λb hb=>(by cases hb),⟨?_,?_,λi hi _=>hs.n i (show c.nx<=i from aab▸hi),dw,λ_ _ h=>h,rfl,rfl⟩⟩
  .simpa using countP_le_length (p:=λb=> !b) (l:=(Array.replicate ops.size false).toList)
  .rw[aaa];exact H8
  .rw[aaa];exact tM
 cases rr with
 |inl O=>
  let⟨k3,X⟩:=k2;rw[hlen] at k3;rw[k3,Nat.zero_add] at X;simp only[Rm] at h;cases J:yc ps (unordered (eO ops.toList []) ps.length) with
  |false=>rw[J] at h;cases h
  |true=>
  rw[J] at h;simp only[cond_true] at h;split at h
  rotate_left
  .cases h
  rename_i m hm;split at h
  rotate_left
  .cases h
  rename_i c2 sR;refine go (nl:=p) k3.symm (bK _) J (λ_ β1 w1 a1 U jX K hK=>?_) λh=>absurd h (Nat.lt_irrefl _)
  have e2:bj c2=⟨up (bj O).env t (.rp (bj O).nx 0),up (bj O).mem (bj O).nx (some (.cells (bm P ty) ty)),(bj O).nx+1⟩:=by
   rw[DN sR,Bk hm];rfl
  rw[<- X, <- e2] at U jX;have mF:p+1<ops.size:=by omega
  have hx:ops[p+1]? =some (ops.toList.getD (p+1) default):=by simp[mF]
  have kU:ops.toList.drop (p+1)=[ops.toList.getD (p+1) default]:=by
   have vd:p+1<ops.toList.length:=tn mF
   rw[drop_eq_getElem_cons vd,drop_eq_nil_of_le oP];simp[List.getD,mF]
  rw[kU] at h;have Y3:∀ u,(ops.toList.getD (p+1) default).dst=some u->u<a1.tmps.size:=λu hu=>by rw[jX.size];exact vC al hx u hu
  simp only[uB] at h;split at h
  .rename_i c3 h2;simp only[aY,cO] at h;obtain⟨rfl,rfl⟩:=h;exact DO ht h2 vE U Y3 _ _ (λ_ β' a' w' g1 g2=>hK _ _ ⟨_,β',⟨rfl,rfl⟩,g1,jX.trans g2⟩) λch kZ=>by cases kZ
  .rename_i ch c3 h2;simp only[aY,cO] at h;obtain⟨rfl,rfl⟩:=h
   exact DO ht h2 vE U Y3 _ _ (λkZ=>by cases kZ) λch' kZ β' w' g1 g2=>by
    cases kZ;exact⟨_,β',⟨rfl,rfl⟩,g1,jX.trans g2⟩
  .cases h
 |inr z=>
  let⟨ch,O⟩:=z;let⟨k3,c2,f,args,X,k5,k6,k7,k8⟩:=k2;rw[hlen] at k3;rw[Nat.zero_add] at X k6 k7;simp only[Rm] at h;cases J:yc ps (unordered (eO ops.toList []) ps.length)&&(range ps.length).all (λi=>((eO ops.toList []).getD ps.length 0).testBit i) with
  |false=>rw[J] at h;cases h
  |true=>
  rw[J] at h;simp only[cond_true,aY,cO] at h;obtain⟨rfl,rfl⟩:=h;simp only[aH,cm,mem_range] at J;have CH:∀ mP sV,(⟨(b7 (λj=>ops.toList.getD j default) (λj=>(ps.getD j default).1) (bj C) ps.length).env,mP,sV⟩:St)=⟨gu O.env,mP,sV⟩:=λmP sV=>by rw[<- X,k5];rfl
  refine go (nl:=ps.length) rfl oG J.1 (λh=>absurd h oG) λ_=>⟨k3,J.2,ch,bt O.mem,O.nx,⟨rfl,CH _ _⟩,λF β w a U QX K hq=>?_⟩
  .rw[<- X] at U;refine XT (ops:=ops) k6 k7 k8 (λ_ _=>rfl) U.e U.m U.n λe w' ⟨β',g1,g2,g3,g4,g5,g6⟩=>.inr ⟨ch,g1,hq β' w' g2 g3 g4 (by rw[<- X];exact g5) (by rw[<- X];exact g6)⟩
end
end
end Go.Abs
end
