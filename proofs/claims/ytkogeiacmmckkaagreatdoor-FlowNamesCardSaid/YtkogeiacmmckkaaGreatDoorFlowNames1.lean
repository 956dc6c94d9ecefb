/- Part 1. -/
import Derived.DeepKeys3
import Derived.KernelRfl
import Derived.RangeFuncLeaves
import Derived.WalkKit
import Derived.WideKeyMaps
set_option linter.all false
set_option maxHeartbeats 0
set_option maxRecDepth 10000
theorem aa:True:=trivial
theorem ai{c:Prop}{h:Decidable c}(n:¬c){α:Sort _}{t e:α}:ite c t e=e:=if_neg n
theorem bi{c:Prop}{h:Decidable c}(n:c){α:Sort _}{t e:α}:ite c t e=t:=if_pos n
theorem tn{p q:Prop}(h:p)(e:p->q:=by intro h;simpa using h):q:=e h
theorem tS{α:Type _}(l:List α)(k:Nat)(h:k<l.length):∃ y,l[k]? =some y:=⟨_,List.getElem?_eq_getElem h⟩
def kr {α:Sort _} {a b:α} (h:a=b:=by kernel_rfl):a=b:=h
def aV{α : Type _}{l : List α}{i : Nat}(h : i < l.length) : l[i]? = some l[i] := List.getElem?_eq_getElem h
def dF{α : Type _}{l : List α}{i : Nat}{a : α} : l.getD i a = l[i]?.getD a := List.getD_eq_getElem?_getD
def aY{α : Type _}(a b : α) : (some a = some b) = (a = b) := Option.some.injEq a b
def bO{α : Type _}{l : List α}{i : Nat}{a : α} : l[i]? = some a ↔ ∃ h : i < l.length, l[i] = a := List.getElem?_eq_some_iff
def aH(a b : Bool) : ((a && b) = true) = (a = true ∧ b = true) := Bool.and_eq_true a b
def aP{n m : Nat}(h : Nat.ble n m = true) : n ≤ m := Nat.le_of_ble_eq_true h
def eC(n : Nat) : ((n : Int)).toNat = n := Int.toNat_natCast n
def dG{α : Type _}{l : List α}{n : Nat}(h : n < l.length) : l[n] ∈ l := List.getElem_mem h
def fc{a : Int}(h : 0 ≤ a) : ∃ n : Nat, a = n := Int.eq_ofNat_of_zero_le h
def cL{α : Type _}{l : List α}{i : Nat}{a : α}(e : l[i]? = some a) : a ∈ l := List.mem_of_getElem? e
def cW{α : Type _}{l : List α}{i : Nat}(h : l.length ≤ i) : List.take i l = l := List.take_of_length_le h
def eg{α β : Type _}{f : α → β}{x : Option α}{b : β} : x.map f = some b ↔ ∃ a, x = some a ∧ f a = b := Option.map_eq_some_iff
def dW{α : Type _}{a : α}{l : List α}(h : a ∈ l) : ∃ i : Nat, l[i]? = some a := List.getElem?_of_mem h
def cm{α : Type _}{p : α → Bool}{l : List α} : l.all p = true ↔ ∀ x ∈ l, p x = true := List.all_eq_true
def cO{α β : Type _}(a : α)(b : β)(c : α)(d : β) : ((a, b) = (c, d)) = (a = c ∧ b = d) := Prod.mk.injEq a b c d
def bK(n : Nat) : n ≤ n := Nat.le_refl n
def oS{p : Prop}(h : p:=by simp) : p:=h
def oM{p : Prop}(h : p:=by dsimp only;omega) : p:=h
def oC{p : Prop}(h : p:=by decide) : p:=h
def oN{p : Prop}(h : p:=by assumption) : p:=h
def oP{p : Prop}(h : p:=by simp;omega) : p:=h
def oH{p : Prop}(h : p:=by cases h) : p:=h
def aB{p : Prop}(h : p:=by repeat' (first|exact trivial|exact rfl|refine And.intro ?_ ?_)) : p:=h
def bX{p : Prop}(h : p:=by simp[mT]) : p:=h
def ct{p : Prop}(h : p:=by simp[Op.operands]) : p:=h
def ate{p : Prop}(h : p:=by first|(simp;done)|exact⟨rfl,aP rfl⟩|(simp;omega)) : p:=h
def atf{p : Prop}(h : p:=by first|(simp;done)|omega|exact aP rfl) : p:=h
def atg{p : Prop}(h : p:=by first|rfl|exact aP rfl|(simp;done)|(simp;omega)|omega) : p:=h
theorem bk{p:Prop}(h:p:=by first|(simp;done)|exact⟨rfl,aP rfl⟩|(simp;omega)):p:=h
theorem cd{p:Prop}(h:p:=by first|rfl|exact aP rfl|(simp;done)|(simp;omega)|omega):p:=h
theorem c0{p:Prop}(h:p:=by first|omega|exact aP rfl|(simp;done)|(simp;omega)):p:=h
theorem da{p:Prop}(h:p:=by first|(simp;done)|omega|exact aP rfl):p:=h
theorem db{p:Prop}(h:p:=by unfold maxLen;first|omega|(simp;omega)):p:=h
theorem eb{p:Prop}(h:p:=by first|rfl|(simp;done)|(simp;omega)):p:=h
theorem ey{p:Prop}(h:p:=by first|(simp;done)|(simp;omega)):p:=h
theorem fl{p:Prop}(h:p:=by exact .cons (.s _) .nil):p:=h
theorem gw{p:Prop}(h:p:=by exact .cons (.s _) (.cons (.s _) .nil)):p:=h
theorem gx{p:Prop}(h:p:=by exact congrArg some (Bool.and_false _)):p:=h
def oG{p:Prop}(h:p:=by omega):p:=h
def eG{p:Prop}(h:p:=by repeat' (first|exact trivial|exact rfl|refine And.intro ?_ ?_)):p:=h
namespace Go.Abs
open List
section
inductive D where
 |u
 |s (v:Value)
 |ub
 |dq (c:Bool) (d:D)
 |agg (cs:List D)
 |bu (cs:List D)
 |z
 |sl (es:List D) (n:Nat)
 |sc (es:List D) (n:Nat)
 |pt (cs:List D)
 |rs (i off n:Nat)
 |rp (i off:Nat)
 |mp (i:Nat)
 |im (es:List (Value×D))
 |fn (f:Fn) (fs cs:List D)
 |yl (i:Nat)
 deriving Inhabited
inductive Pl where
 |dead
 |nil
 |cells (b o len room sz:Nat)
 |map (r:Nat)
 |raw (r:Nat)
 |lp (r:Nat)
def Pl.blk:Pl->Option Nat
 | .cells b _ _ _ _=>some b
 | .map r=>some r
 | .raw r=>some r
 | .lp r=>some r
 |_=>none
@[simp] def GV : Value -> Bool
 | .bool _ | .int _ _ | .string _ | .pointer none | .nilFunc | .nilIface | .map none=>true
 |_=>false
def plain:Value->Bool
 | .iface _ (.agg cs)=>cs.toList.all GV
 | .iface _ v=>GV v
 |v=>GV v
abbrev aN:=Nat->Option Pl
def aN.free(β:aN)(b:Nat):Prop:=∀ i p,β i=some p->p.blk≠some b
inductive R(F:Nat->Prop)(β:aN)(w:World):D->Value->Prop
 |u (v:Value):R F β w .u v
 |s (v:Value) (h:plain v=true):R F β w (.s v) v
 |ub (b:Bool):R F β w .ub (.bool b)
 |dq (c:Bool) (d:D) (v:Value) (h:c=true->R F β w d v) (h':c=false->v=undef):R F β w (.dq c d) v
 |agg (cs:List D) (vs:List Value) (hl:vs.length=cs.length) (h:∀ (k:Nat) (d:D) (v:Value),cs[k]? =some d->vs[k]? =some v->R F β w d v):R F β w (.agg cs) (.agg vs.toArray)
 |bu (cs:List D) (vs:List Value) (hl:vs.length=cs.length) (h:∀ (k:Nat) (d:D) (v:Value),cs[k]? =some d->vs[k]? =some v->R F β w d v):R F β w (.bu cs) (.tuple vs.toArray)
 |z:R F β w .z (.slice none 0 0)
 |yl (i l:Nat) (h:β i=some (.lp l)):R F β w (.yl i) (.func (.yield l) #[] #[])
 |E3 (i:Nat) (v:Value) (h:β i=some .dead) (hv:v.oneCell'=true):R F β w (.yl i) v
 |kf (a:Option Addr) (cap:Nat):R F β w (.sl [] 0) (.slice a 0 cap)
 |sl (es:List D) (n b o cap:Nat) (us:Nat->Value) (hf:¬ F b) (hb:β.free b) (al:b<w.heap.size) (qg:n<=cap) (eu:cap<=maxLen)
  (hc:∀ k:Nat,k<es.length->w.cell? ⟨b,o+k,none⟩=some (us k)/\(us k).oneCell'=true) (h:∀ (k:Nat) (d:D),es[k]? =some d->R F β w d (us k)):R F β w (.sl es n) (.slice (some ⟨b,o,none⟩) n cap)
 |sc (es:List D) (n:Nat) (a:Option Addr) (h:R F β w (.sl es n) (.slice a n n)):R F β w (.sc es n) (.slice a n n)
 |pt (cs:List D) (b o:Nat) (us:Nat->Value) (hf:¬ F b) (hb:β.free b) (al:b<w.heap.size)
  (hc:∀ k:Nat,k<cs.length->w.cell? ⟨b,o+k,none⟩=some (us k)/\(us k).oneCell'=true) (h:∀ (k:Nat) (d:D),cs[k]? =some d->R F β w d (us k)):R F β w (.pt cs) (.pointer (some ⟨b,o,none⟩))
 |nW (i off n:Nat) (v:Value) (h:β i=some .dead) (hv:v.oneCell'=true):R F β w (.rs i off n) v
 |lH (i:Nat) (a:Option Addr) (h:β i=some .nil):R F β w (.rs i 0 0) (.slice a 0 0)
 |mK (i off:Nat) (a:Option Addr) (b o len room sz:Nat) (h:β i=some (.cells b o len room sz)):R F β w (.rs i off 0) (.slice a 0 0)
 |rs (i off n cap b o len room sz:Nat) (h:β i=some (.cells b o len room sz)) (hn:n<=cap) (eu:cap<=maxLen)
  (h1:len<=off+cap*sz) (h2:off+cap*sz<=room):R F β w (.rs i off n) (.slice (some ⟨b,o+off,none⟩) n cap)
 |uN (i off:Nat) (v:Value) (h:β i=some .dead) (hv:v.oneCell'=true):R F β w (.rp i off) v
 |rp (i off b o len room sz:Nat) (h:β i=some (.cells b o len room sz)):R F β w (.rp i off) (.pointer (some ⟨b,o+off,none⟩))
 |Co (i:Nat) (v:Value) (h:β i=some .dead) (hv:v.oneCell'=true):R F β w (.mp i) v
 |mp (i r:Nat) (h:β i=some (.map r)):R F β w (.mp i) (.map (some r))
 |im (es:List (Value×D)) (r:Nat) (ms:Array MapEntry) (clock:Nat) (hf:¬ F r) (hb:β.free r) (hc:w.heap[r]? =some (.map ms clock)) (hl:ms.size=es.length) (eY:(es.map (·.1)).Nodup)
  (hk:∀ (k:Nat) (x:Value×D) (m:MapEntry),es[k]? =some x->ms[k]? =some m->m.key=x.1) (h:∀ (k:Nat) (x:Value×D) (m:MapEntry),es[k]? =some x->ms[k]? =some m->R F β w x.2 m.val):R F β w (.im es) (.map (some r))
 |fn (f:Fn) (fs cs:List D) (us vs:List Value) (hl:us.length=fs.length) (mb:vs.length=cs.length)
  (h:∀ (k:Nat) (d:D) (v:Value),fs[k]? =some d->us[k]? =some v->R F β w d v) (h':∀ (k:Nat) (d:D) (v:Value),cs[k]? =some d->vs[k]? =some v->R F β w d v):R F β w (.fn f fs cs) (.func f us.toArray vs.toArray)
abbrev Out(w w':World):Prop:=w'.os=w.os/\w'.output=w.output
def Out.trans{C J O:World}(h:Out C J)(k:Out J O):Out C O:=⟨k.1.trans h.1,k.2.trans h.2⟩
def Skel(w w':World)(r:Nat):Prop:=∀ L,w.heap[r]? =some (.loop L)->∃ st pe,w'.heap[r]? =some (.loop { L with state:=st,pending:=pe })
def pV{w w':World}{r:Nat}(h:w'.heap[r]? =w.heap[r]?):Skel w w' r:=λL C=>⟨L.state,L.pending,h.trans C⟩
def OB{w w':World}{r:Nat}(h:r<w.heap.size->w'.heap[r]? =w.heap[r]?):Skel w w' r:=λL C=>⟨L.state,L.pending,(h (Array.getElem?_eq_some_iff.1 C).1).trans C⟩
def Skel.trans{w C J:World}{r:Nat}(h:Skel w C r)(k:Skel C J r):Skel w J r:=λL O=>by
 let⟨a,b,h1⟩:=h L O;let⟨c,d,h2⟩:=k _ h1;exact⟨c,d,h2⟩
structure Step(β:aN)(w:World)(β':aN)(w':World):Prop where
 size:w.heap.size<=w'.heap.size
 fF:∀ b,b<w.heap.size->β.free b->w'.heap[b]? =w.heap[b]? /\β'.free b
 iL:∀ i p,β i=some p->β' i=some p\/β' i=some .dead
 out:Out w w'
 lp:∀ i r,β i=some (.lp r)->β' i=some (.lp r)->Skel w w' r
def Step.refl(β:aN)(w:World):Step β w β w:=⟨bK _,λ_ _ h=>⟨rfl,h⟩,λ_ _ h=>.inl h,⟨rfl,rfl⟩,λ_ _ _ _=>pV rfl⟩
def Step.trans{X β₂ β₃:aN}{J O U:World}(h:Step X J β₂ O)(k:Step β₂ O β₃ U):Step X J β₃ U:=by
 refine⟨Nat.le_trans h.size k.size,λb hb hf=>?_,λi p hp=>?_,h.out.trans k.out,λi r hp C=>?_⟩
 .let⟨h1,h2⟩:=h.fF b hb hf;let⟨k1,k2⟩:=k.fF b (Nat.lt_of_lt_of_le hb h.size) h2;exact⟨k1.trans h1,k2⟩
 .rcases h.iL i p hp with h1|h1
  .exact k.iL i p h1
  .right;rcases k.iL i _ h1 with h2|h2<;>exact h2
 .rcases h.iL i _ hp with h1|h1
  .exact(h.lp i r hp h1).trans (k.lp i r h1 C)
  .rcases k.iL i _ h1 with h2|h2<;>(rw[h2] at C;cases C)
variable{b:Nat}
def cell_of_heap{w w':World}{o:Nat}(h:w'.heap[b]? =w.heap[b]?):w'.cell? ⟨b,o,none⟩=w.cell? ⟨b,o,none⟩:=by
 simp[World.cell?,h]
def oB(w w':World)(b:Nat):Prop:=(∀ o u,w.cell? ⟨b,o,none⟩=some u->w'.cell? ⟨b,o,none⟩=some u)/\∀ ms c,w.heap[b]? =some (.map ms c)->w'.heap[b]? =some (.map ms c)
def xG{w w':World}(h:w'.heap[b]? =w.heap[b]?):oB w w' b:=⟨λ_ _ hu=>(cell_of_heap h).trans hu,λ_ _ hm=>h.trans hm⟩
def oB.refl(w:World)(b:Nat):oB w w b:=⟨λ_ _ h=>h,λ_ _ h=>h⟩
variable{F':Nat->Prop}
def R.gen{F:Nat->Prop}{β β':aN}{w w':World}(bZ:w.heap.size<=w'.heap.size)
 (U:∀ b,b<w.heap.size->¬ F b->β.free b->oB w w' b/\β'.free b/\¬ F' b)
 (C:∀ i p,(∀ r,p≠ .raw r)->β i=some p->β' i=some p\/β' i=some .dead) {d:D} {v:Value} (h:R F β w d v):R F' β' w' d v:=by
 induction h with
 |u v=>exact .u v
 |s v h=>exact .s v h
 |ub b=>exact .ub b
 |dq c d v _ h' ih=>exact .dq c d v ih h'
 |agg cs vs hl _ ih=>exact .agg cs vs hl ih
 |bu cs vs hl _ ih=>exact .bu cs vs hl ih
 |z=>exact .z
 |yl i l h=>
  rcases C i _ oS h with h1|h1
  .exact .yl i l h1
  .exact .E3 i _ h1 rfl
 |E3 i v h hv=>exact .E3 i v (by rcases C i _ oS h with h1|h1<;>exact h1) hv
 |kf a cap=>exact .kf a cap
 |sl es n b o cap us hf hb al qg eu hc _ ih=>
  let⟨h1,h2,J⟩:=U b al hf hb;exact .sl es n b o cap us J h2 (Nat.lt_of_lt_of_le al bZ) qg eu (λk hk=>⟨h1.1 _ _ (hc k hk).1,(hc k hk).2⟩) ih
 |sc es n a _ ih=>exact .sc es n a ih
 |pt cs b o us hf hb al hc _ ih=>
  let⟨h1,h2,J⟩:=U b al hf hb;exact .pt cs b o us J h2 (Nat.lt_of_lt_of_le al bZ) (λk hk=>⟨h1.1 _ _ (hc k hk).1,(hc k hk).2⟩) ih
 |nW i off n v h hv=>exact .nW i off n v (by rcases C i _ oS h with h1|h1<;>exact h1) hv
 |lH i a h=>
  rcases C i _ oS h with h1|h1
  .exact .lH i a h1
  .exact .nW i 0 0 _ h1 rfl
 |mK i off a b o len room sz h=>
  rcases C i _ oS h with h1|h1
  .exact .mK i off a b o len room sz h1
  .exact .nW i off 0 _ h1 rfl
 |rs i off n cap b o len room sz h hn eu h1 h2=>
  rcases C i _ oS h with J|J
  .exact .rs i off n cap b o len room sz J hn eu h1 h2
  .exact .nW i off n _ J rfl
 |uN i off v h hv=>exact .uN i off v (by rcases C i _ oS h with h1|h1<;>exact h1) hv
 |rp i off b o len room sz h=>
  rcases C i _ oS h with h1|h1
  .exact .rp i off b o len room sz h1
  .exact .uN i off _ h1 rfl
 |Co i v h hv=>exact .Co i v (by rcases C i _ oS h with h1|h1<;>exact h1) hv
 |mp i r h=>
  rcases C i _ oS h with h1|h1
  .exact .mp i r h1
  .exact .Co i _ h1 rfl
 |im es r ms clock hf hb hc hl eY hk _ ih=>
  let⟨h1,h2,J⟩:=U r (Array.getElem?_eq_some_iff.1 hc).1 hf hb;exact .im es r ms clock J h2 (h1.2 _ _ hc) hl eY hk ih
 |fn f fs cs us vs hl mb _ _ ih O=>exact .fn f fs cs us vs hl mb ih O
def R.step{F:Nat->Prop}{β β':aN}{w w':World}(hs:Step β w β' w'){d:D}{v:Value}(h:R F β w d v):R F β' w' d v:=
 h.gen hs.size (λb hb hf C=>⟨xG (hs.fF b hb C).1,(hs.fF b hb C).2,hf⟩) λi p _=>hs.iL i p
inductive RS where
 |ready
 |busy
 |done (e:Exit)
def ajO:Exit->Option Code
 | .ret=>some .ret
 | .exit id=>some (.exit id)
 |_=>none
def RS.Is(L:Loop):RS->Prop
 | .ready=>L.state=.ready/\L.pending=none
 | .busy=>L.state=.busy/\L.pending=none
 | .done e=>L.state=.done/\L.pending=ajO e
inductive Row where
 |cells (cs:List D) (e:TypeId)
 |map (es:List (Value×D))
 |raw (r:Nat) (o:Obj)
 |bs (u:Bool) (x:D) (T:TypeId)
 |ia (f:Nat->Option Nat) (r:Row)
 |lp (k:RS)
abbrev Mem:=Nat->Option Row
inductive na(P:Program)(F:Nat->Prop)(β:aN)(w:World):Row->Pl->Prop
 |nil (e:TypeId):na P F β w (.cells [] e) .nil
 |cells (cs:List D) (e:TypeId) (b o room sz:Nat) (c:Array Value) (hb:w.heap[b]? =some (.cells c e (0,0))) (hr:o+room<=c.size) (hlen:cs.length<=room) (bZ:sz=P.cellsOf e)
  (h:∀ (k:Nat) (d:D),cs[k]? =some d->∃ v,c[o+k]? =some v/\R F β w d v/\v.oneCell'=true):na P F β w (.cells cs e) (.cells b o cs.length room sz)
 |map (es:List (Value×D)) (r:Nat) (ms:Array MapEntry) (clock:Nat) (hb:w.heap[r]? =some (.map ms clock)) (hl:ms.size=es.length) (eY:(es.map (·.1)).Nodup)
  (h:∀ (k:Nat) (x:Value×D) (m:MapEntry),es[k]? =some x->ms[k]? =some m->m.key=x.1/\R F β w x.2 m.val):na P F β w (.map es) (.map r)
 |raw (r:Nat) (o:Obj) (hb:w.heap[r]? =some o):na P F β w (.raw r o) (.raw r)
 |lp (k:RS) (r:Nat) (L:Loop) (hb:w.heap[r]? =some (.loop L)) (hk:RS.Is L k):na P F β w (.lp k) (.lp r)
 |bs (u:Bool) (x:D) (T:TypeId) (b:Nat) (v:Value) (hb:w.heap[b]? =some (.cells #[.pointer (if u then some ⟨b,0,none⟩ else none),v] T (0,0))) (bZ:P.cellsOf T=2) (h:R F β w x v) (h1:v.oneCell'=true):na P F β w (.bs u x T) (.cells b 0 2 2 2)
def aN.via(β:aN)(f:Nat->Option Nat):aN:=λi=>(f i).bind β
inductive dA(P:Program)(F:Nat->Prop)(β:aN)(w:World):Row->Pl->Prop
 |nil (e:TypeId):dA P F β w (.cells [] e) .nil
 |cells (cs:List D) (e:TypeId) (b o room sz:Nat) (c:Array Value) (hb:w.heap[b]? =some (.cells c e (0,0))) (hr:o+room<=c.size) (hlen:cs.length<=room) (bZ:sz=P.cellsOf e)
  (h:∀ (k:Nat) (d:D),cs[k]? =some d->∃ v,c[o+k]? =some v/\R F β w d v/\v.oneCell'=true):dA P F β w (.cells cs e) (.cells b o cs.length room sz)
 |map (es:List (Value×D)) (r:Nat) (ms:Array MapEntry) (clock:Nat) (hb:w.heap[r]? =some (.map ms clock)) (hl:ms.size=es.length) (eY:(es.map (·.1)).Nodup)
  (h:∀ (k:Nat) (x:Value×D) (m:MapEntry),es[k]? =some x->ms[k]? =some m->m.key=x.1/\R F β w x.2 m.val):dA P F β w (.map es) (.map r)
 |raw (r:Nat) (o:Obj) (hb:w.heap[r]? =some o):dA P F β w (.raw r o) (.raw r)
 |lp (k:RS) (r:Nat) (L:Loop) (hb:w.heap[r]? =some (.loop L)) (hk:RS.Is L k):dA P F β w (.lp k) (.lp r)
 |bs (u:Bool) (x:D) (T:TypeId) (b:Nat) (v:Value) (hb:w.heap[b]? =some (.cells #[.pointer (if u then some ⟨b,0,none⟩ else none),v] T (0,0))) (bZ:P.cellsOf T=2) (h:R F β w x v) (h1:v.oneCell'=true):dA P F β w (.bs u x T) (.cells b 0 2 2 2)
 |ia (f:Nat->Option Nat) (r:Row) (p:Pl) (F₂:Nat->Prop) (h1:∀ b,F b->F₂ b) (h2:∀ b,¬ β.free b->(β.via f).free b->F₂ b) (h:na P F₂ (β.via f) w r p):dA P F β w (.ia f r) p
def Ad:List (Nat×Array Value):=[(0, #[.int .u64 1,.int .u64 10,.int .u64 100,.int .u64 1000,.int .u64 10000,.int .u64 100000,.int .u64 1000000,.int .u64 10000000,.int .u64 100000000,.int .u64 1000000000,.int .u64 10000000000,.int .u64 100000000000,.int .u64 1000000000000,.int .u64 10000000000000,.int .u64 100000000000000,.int .u64 1000000000000000,.int .u64 10000000000000000,.int .u64 100000000000000000,.int .u64 1000000000000000000,.int .u64 10000000000000000000])]
def Eb(w:World)(t:Nat×Array Value):Prop:=∃ e k,w.heap[t.1]? =some (.cells t.2 e k)
variable{t:Nat×Array Value}
def Eb.of{w w':World}(h:Eb w t)(hk:w'.heap[t.1]? =w.heap[t.1]?):Eb w' t:=by
 let⟨e,k,h⟩:=h;exact⟨e,k,hk.trans h⟩
structure FB(F:Nat->Prop)(w:World):Prop where
 lt:∀ b,F b->b<w.heap.size
 jk:∀ t∈Ad,F t.1/\Eb w t
def FB.next{F:Nat->Prop}{w w':World}(h:FB F w)(al:∀ b,F' b->b<w'.heap.size)(C:∀ b,F b->F' b)(hk:∀ t∈Ad,F t.1->w'.heap[t.1]? =w.heap[t.1]?):FB F' w':=
 ⟨al,λt ht=>⟨C _ (h.jk t ht).1,(h.jk t ht).2.of (hk t ht (h.jk t ht).1)⟩⟩
def ahF{w:World}(h:Eb w t)(x:Option (List Deferred)):w.heap[t.1]? ≠some (.deferred x):=by
 let⟨e,k,h⟩:=h;rw[h];simp
structure aQ(P:Program)(F:Nat->Prop)(m:Mem)(β:aN)(w:World):Prop where
 row:∀ i r,m i=some r->∃ p,β i=some p/\dA P F β w r p
 inj:∀ i j p q b,β i=some p->β j=some q->p.blk=some b->q.blk=some b->i=j
 lt:∀ i p b,β i=some p->p.blk=some b->b<w.heap.size
 nf:∀ i p b,β i=some p->p.blk=some b->¬ F b
 fb:FB F w
def up{α:Type}(f:Nat->α)(k:Nat)(v:α):Nat->α:=λj=>if j=k then v else f j
variable{α:Type}
def Dw(f:Nat->α)(k:Nat)(v:α)(j:Nat):up f k v j=if j=k then v else f j:=rfl
def ap(f:Nat->α)(k:Nat)(v:α):up f k v k=v:=by simp[up]
theorem s3{α:Type}{f:Nat->α}{k:Nat}{v:α}:up f k v k=v:=ap f k v
variable{j:Nat}
def aW(f:Nat->α){k:Nat}(v:α)(h:j≠k):up f k v j=f j:=by simp[up,h]
variable{r:Row}{p:Pl}{f:Nat->Option Nat}{i nx:Nat}
section
variable{P:Program}{F:Nat->Prop}{β β':aN}{w w':World}{m:Mem}
def na.gen(bZ:w.heap.size<=w'.heap.size)
 (J:∀ b,b<w.heap.size->¬ F b->β.free b->oB w w' b/\β'.free b/\¬ F' b)
 (C:∀ i p,(∀ r,p≠ .raw r)->β i=some p->β' i=some p\/β' i=some .dead) {r:Row} {p:Pl} (hb:∀ b,p.blk=some b->w'.heap[b]? =w.heap[b]?) (h:na P F β w r p):na P F' β' w' r p:=by
 cases h with
 |nil e=>exact .nil e
 |cells cs e b o room sz c hc hr hlen hs hh=>
  refine .cells cs e b o room sz c ((hb b rfl).trans hc) hr hlen hs λk d hk=>?_;let⟨v,h1,h2,O⟩:=hh k d hk;exact⟨v,h1,h2.gen bZ J C,O⟩
 |map es r ms clock hc hl eY hh=>
  refine .map es r ms clock ((hb r rfl).trans hc) hl eY λk x U hk hm=>?_;let⟨h1,h2⟩:=hh k x U hk hm;exact⟨h1,h2.gen bZ J C⟩
 |raw r o hc=>exact .raw r o ((hb r rfl).trans hc)
 |lp k r L hc hk=>exact .lp k r L ((hb r rfl).trans hc) hk
 |bs u x T b v hc hs hx h1=>exact .bs u x T b v ((hb b rfl).trans hc) hs (hx.gen bZ J C) h1
def aN.zw(h:β.free b)(f:Nat->Option Nat):(β.via f).free b:=λi p hp=>by
 unfold aN.via at hp;let⟨j,_,hj⟩:=Option.bind_eq_some_iff.1 hp;exact h j p hj
def dA.gen(bZ:w.heap.size<=w'.heap.size)
 (O:∀ b,b<w.heap.size->¬ F b->β.free b->oB w w' b/\β'.free b/\¬ F' b)
 (J:∀ i p,(∀ r,p≠ .raw r)->β i=some p->β' i=some p\/β' i=some .dead) {r:Row} {p:Pl} (hb:∀ b,p.blk=some b->w'.heap[b]? =w.heap[b]?) (h:dA P F β w r p):dA P F' β' w' r p:=by
 cases h with
 |nil e=>exact .nil e
 |cells cs e b o room sz c hc hr hlen hs hh=>
  refine .cells cs e b o room sz c ((hb b rfl).trans hc) hr hlen hs λk d hk=>?_;let⟨v,h1,h2,h3⟩:=hh k d hk;exact⟨v,h1,h2.gen bZ O J,h3⟩
 |map es r ms clock hc hl eY hh=>
  refine .map es r ms clock ((hb r rfl).trans hc) hl eY λk x mm hk hm=>?_;let⟨h1,h2⟩:=hh k x mm hk hm;exact⟨h1,h2.gen bZ O J⟩
 |raw r o hc=>exact .raw r o ((hb r rfl).trans hc)
 |lp k r L hc hk=>exact .lp k r L ((hb r rfl).trans hc) hk
 |bs u x T b v hc hs hx h1=>exact .bs u x T b v ((hb b rfl).trans hc) hs (hx.gen bZ O J) h1
 |ia f r _ F₂ h1 h2 h=>
  refine .ia f r p (λb=>F' b\/(¬ β'.free b/\(β'.via f).free b)) (λb hb=>.inl hb) (λb C U=>.inr ⟨C,U⟩) (h.gen bZ (λb al C U=>?_) (λi q hq hi=>?_) hb)
  .have g3:β.free b:=Classical.byContradiction λhn=>C (h2 b hn U);let⟨k1,X,k3⟩:=O b al (λe=>C (h1 b e)) g3;exact⟨k1,aN.zw X f,λe=>e.elim k3 λe=>e.1 X⟩
  .unfold aN.via at hi ⊢;let⟨j,hj,hβ⟩:=Option.bind_eq_some_iff.1 hi;rw[hj];exact J j q hq hβ
def dA.step(hs:Step β w β' w')(hb:∀ b,p.blk=some b->w'.heap[b]? =w.heap[b]?)(h:dA P F β w r p):dA P F β' w' r p:=
 h.gen hs.size (λb hb hf C=>⟨xG (hs.fF b hb C).1,(hs.fF b hb C).2,hf⟩) (λi p _=>hs.iL i p) hb
def na.live(h:na P F β w r p):p≠ .dead:=by cases h<;>simp
def dA.live(h:dA P F β w r p):p≠ .dead:=by
 cases h with
 |ia _ _ _ _ _ _ h=>exact h.live
 |_=>simp
def Row.wu(f:Nat->Option Nat):Row->Row
 | .ia g r=>.ia (λi=>(g i).bind f) r
 |r=>.ia f r
def dA.base(hq:∀ f r',r≠ .ia f r')(h:dA P F β w r p):na P F β w r p:=by
 cases h with
 |nil e=>exact .nil e
 |cells cs e b o room sz c hc hr hlen hs hh=>exact .cells cs e b o room sz c hc hr hlen hs hh
 |map es r ms clock hc hl eY hh=>exact .map es r ms clock hc hl eY hh
 |raw r o hc=>exact .raw r o hc
 |lp k r L hc hk=>exact .lp k r L hc hk
 |bs u x T b v hc hs hx h1=>exact .bs u x T b v hc hs hx h1
 |ia f r _ _ _ _ _=>exact absurd rfl (hq f r)
def na.row(h:na P F β w r p):dA P F β w r p:=by
 cases h with
 |nil e=>exact .nil e
 |cells cs e b o room sz c hc hr hlen hs hh=>exact .cells cs e b o room sz c hc hr hlen hs hh
 |map es r ms clock hc hl eY hh=>exact .map es r ms clock hc hl eY hh
 |raw r o hc=>exact .raw r o hc
 |lp k r L hc hk=>exact .lp k r L hc hk
 |bs u x T b v hc hs hx h1=>exact .bs u x T b v hc hs hx h1
def na.sE(C:∀ b,b<w.heap.size->β.free b->F' b->F b)(h:na P F β w r p):na P F' β w r p:=
 h.gen (bK _) (λb hb h1 h2=>⟨oB.refl w b,h2,λe=>h1 (C b hb h2 e)⟩) (λ_ _ _ h=>.inl h) λ_ _=>rfl
def hidden(F:Nat->Prop)(β:aN)(f:Nat->Option Nat):Nat->Prop:=λb=>F b\/(¬ β.free b/\(β.via f).free b)
def GA(β:aN)(f g:Nat->Option Nat):(β.via f).via g=β.via λi=>(g i).bind f:=by
 funext i;simp[aN.via];cases g i<;>rfl
def dA.seen(h:dA P F β w (r.wu f) p):dA P (hidden F β f) (β.via f) w r p:=by
 have key:∀ r',dA P F β w (.ia f r') p->na P (hidden F β f) (β.via f) w r' p:=λr' h=>by
  cases h with
  |ia _ _ _ F₂ h1 h2 h=>exact h.sE λb _ _ hb=>hb.elim (h1 b) λe=>h2 b e.1 e.2
 cases r with
 |ia g r=>
  simp[Row.wu] at h;cases h with
  |ia _ _ _ F₂ h1 h2 h=>
  refine .ia g r p F₂ (λb hb=>?_) (λb C J=>?_) (by rw[GA];exact h)
  .rcases hb with hb|⟨C,J⟩
   .exact h1 b hb
   .exact h2 b C (by rw[<- GA];exact aN.zw J g)
  .exact h2 b (λe=>C (aN.zw e f)) (by rw[<- GA];exact J)
 |_=>exact(key _ h).row
def dA.ZK{F':Nat->Prop}(h:dA P F' (β.via f) w r p)(h1:∀ b,F b->F' b)(h2:∀ b,¬ β.free b->(β.via f).free b->F' b):dA P F β w (r.wu f) p:=by
 cases r with
 |ia g r=>
  simp[Row.wu];cases h with
  |ia _ _ _ F₂ C J h=>
  refine .ia _ r p F₂ (λb hb=>C b (h1 b hb)) (λb k1 O=>?_) (by rw[<- GA];exact h);by_cases hb:(β.via f).free b
  .exact C b (h2 b k1 hb)
  .exact J b hb (by rw[GA];exact O)
 |_=>exact .ia f _ p F' h1 h2 (h.base oS)
def aQ.rW(h:aQ P F m β w)(hp:β i=some p)(hb:p.blk=some b){q:Pl}(hq:β j=some q)(C:j≠i):q.blk≠some b:=
 λe=>C (h.inj j i q p b hq hp e hb)
def Dj(h:aQ P F m β w)(o:Obj)(hn:β nx=none)(p:Pl)(hp:∀ b,p.blk=some b->b=w.heap.size):Step β w (up β nx (some p)) (w.alloc o):=by
 refine⟨oS,λb hb hf=>⟨heap_alloc_old w o hb,λi q hq=>?_⟩,λi q hq=>?_,⟨rfl,rfl⟩,λi r _ _=>OB λhr=>heap_alloc_old w o hr⟩
 .by_cases hi:i=nx
  .subst hi;rw[ap] at hq;cases hq;intro e;have:=hp b e;omega
  .rw[aW _ _ hi] at hq;exact hf i q hq
 .left;rw[aW _ _ (λe=>by rw[e,hn] at hq;cases hq)];exact hq
def aQ.alloc(h:aQ P F m β w)(hn:β nx=none)(o:Obj)(r:Row)(p:Pl)(hp:∀ b,p.blk=some b->b=w.heap.size)
 (hr:dA P F (up β nx (some p)) (w.alloc o) r p):aQ P F (up m nx (some r)) (up β nx (some p)) (w.alloc o):=by
 have hs:=Dj h o hn p hp;refine⟨λi r' hi=>?_,λi j q X b hq C e O=>?_,λi q b hq e=>?_,λi q b hq e=>?_,?_⟩
 .by_cases J:i=nx
  .subst J;rw[ap] at hi;cases hi;exact⟨p,ap _ _ _,hr⟩
  .rw[aW _ _ J] at hi;let⟨q,hq,an⟩:=h.row i r' hi;exact⟨q,by rw[aW _ _ J];exact hq,an.step hs λb hb=>heap_alloc_old w o (h.lt i q b hq hb)⟩
 .by_cases hi:i=nx<;>by_cases hj:j=nx
  .rw[hi,hj]
  .subst hi;rw[ap] at hq;rw[aW _ _ hj] at C;cases hq;have h1:=hp b e;have h2:=h.lt j X b C O;omega
  .subst hj;rw[ap] at C;rw[aW _ _ hi] at hq;cases C;have h1:=hp b O;have h2:=h.lt i q b hq e;omega
  .rw[aW _ _ hi] at hq;rw[aW _ _ hj] at C;exact h.inj i j q X b hq C e O
 .by_cases hi:i=nx
  .subst hi;rw[ap] at hq;cases hq;have:=hp b e;simp;omega
  .rw[aW _ _ hi] at hq;have:=h.lt i q b hq e;simp;omega
 .by_cases hi:i=nx
  .subst hi;rw[ap] at hq;cases hq;intro U;have h1:=hp b e;have h2:=h.fb.lt b U;omega
  .rw[aW _ _ hi] at hq;exact h.nf i q b hq e
 .exact h.fb.next (λb hb=>by have:=h.fb.lt b hb;simp;omega) (λ_ h=>h) λt _ U=>heap_alloc_old w o (h.fb.lt _ U)
def Dn(β:aN)(w:World)(i:Nat):Step β w (up β i (some .dead)) w:=by
 refine⟨bK _,λb _ hf=>⟨rfl,λj q hq=>?_⟩,λj q hq=>?_,⟨rfl,rfl⟩,λ_ _ _ _=>pV rfl⟩
 .by_cases hj:j=i
  .subst hj;rw[ap] at hq;cases hq;simp[Pl.blk]
  .rw[aW _ _ hj] at hq;exact hf j q hq
 .by_cases hj:j=i
  .subst hj;exact .inr s3
  .exact .inl (by rw[aW _ _ hj];exact hq)
def aQ.dead(h:aQ P F m β w)(i:Nat):aQ P F (up m i none) (up β i (some .dead)) w:=by
 have hs:=Dn β w i
 have C:∀ j q b,up β i (some .dead) j=some q->q.blk=some b->j≠i/\β j=some q:=λj q b hq e=>by
  by_cases hj:j=i
  .subst hj;rw[ap] at hq;cases hq;simp[Pl.blk] at e
  .rw[aW _ _ hj] at hq;exact⟨hj,hq⟩
 refine⟨λj r' hj=>?_,λj k q U b hq X e O=>?_,λj q b hq e=>h.lt j q b (C j q b hq e).2 e,λj q b hq e=>h.nf j q b (C j q b hq e).2 e,h.fb⟩
 .by_cases J:j=i
  .subst J;rw[ap] at hj;cases hj
  .rw[aW _ _ J] at hj;let⟨q,hq,an⟩:=h.row j r' hj;exact⟨q,by rw[aW _ _ J];exact hq,an.step hs λb _=>rfl⟩
 .exact h.inj j k q U b (C j q b hq e).2 (C k U b X O).2 e O
def Dk(h:aQ P F m β w)(hp:β i=some p)(hb:p.blk=some b)(J:w.heap.size<=w'.heap.size)
 (ho:∀ k,k≠b->w'.heap[k]? =w.heap[k]?) (C:Out w w':=by first|exact⟨rfl,rfl⟩|assumption) (O:∀ r,p≠ .lp r:=by intro _ h;cases h):Step β w β w':=
 ⟨J,λk _ hf=>⟨ho k λe=>hf i p hp (e▸hb),hf⟩,λ_ _ hq=>.inl hq,C,λj r hj _=>pV (ho r λe=>by
  have:=h.inj j i _ p b hj hp (by simp[Pl.blk,e]) hb;subst this;rw[hp] at hj
  exact O r (Option.some.inj hj))⟩
def aQ.write(h:aQ P F m β w)(hp:β i=some p)(hb:p.blk=some b)(J:w'.heap.size=w.heap.size)
 (ho:∀ k,k≠b->w'.heap[k]? =w.heap[k]?) (r:Row) (hr:dA P F β w' r p) (O:Out w w':=by first|exact⟨rfl,rfl⟩|assumption) (X:∀ r,p≠ .lp r:=by intro _ h;cases h):aQ P F (up m i (some r)) β w':=by
 have hs:=Dk h hp hb oG ho O X;refine⟨λj r' hj=>?_,h.inj,λj q c hq e=>by rw[J];exact h.lt j q c hq e,h.nf,h.fb.next (λc hc=>by rw[J];exact h.fb.lt c hc) (λ_ h=>h) λt _ U=>ho _ λe=>h.nf _ _ _ hp hb (e▸U)⟩;by_cases C:j=i
 .subst C;rw[ap] at hj;cases hj;exact⟨p,hp,hr⟩
 .rw[aW _ _ C] at hj;let⟨q,hq,an⟩:=h.row j r' hj;exact⟨q,hq,an.step hs λc hc=>ho c λe=>h.rW hp hb hq C (e▸hc)⟩
def aQ.move(h:aQ P F m β w){nx:Nat}{p':Pl}(hp:β i=some p)(hb:p.blk=some b)(X:p'.blk=some b)(hn:β nx=none)(hw:w'.heap.size=w.heap.size)
 (ho:∀ k,k≠b->w'.heap[k]? =w.heap[k]?) (r:Row) (hr:Step β w (up (up β i (some .dead)) nx (some p')) w'->dA P F (up (up β i (some .dead)) nx (some p')) w' r p') (Ag:Out w w':=by first|exact⟨rfl,rfl⟩|assumption):
 aQ P F (up (up m i none) nx (some r)) (up (up β i (some .dead)) nx (some p')) w'/\Step β w (up (up β i (some .dead)) nx (some p')) w':=by
 have cv:i≠nx:=λe=>by rw[e,hn] at hp;cases hp
 have U:∀ j q,up (up β i (some .dead)) nx (some p') j=some q->(j=nx/\q=p')\/(j=i/\q=.dead)\/(j≠nx/\j≠i/\β j=some q):=λj q hq=>by
  by_cases hj:j=nx
  .subst hj;rw[ap] at hq;cases hq;exact .inl ⟨rfl,rfl⟩
  .rw[aW _ _ hj] at hq;by_cases C:j=i
   .subst C;rw[ap] at hq;cases hq;exact .inr (.inl ⟨rfl,rfl⟩)
   .rw[aW _ _ C] at hq;exact .inr (.inr ⟨hj,C,hq⟩)
 have hs:Step β w (up (up β i (some .dead)) nx (some p')) w':=by
  refine⟨oG,λc hc hf=>⟨ho c λe=>hf i p hp (e▸hb),λj q hq e=>?_⟩,λj q hq=>?_,Ag,λj r hj jm=>pV (ho r λe=>?_)⟩
  rotate_left 2
  .rcases U j _ jm with⟨rfl,h1⟩|⟨rfl,h1⟩|⟨h1,h2,J⟩
   .rw[hn] at hj;cases hj
   .cases h1
   .exact h2 (h.inj j i _ p b J hp (by simp[Pl.blk,e]) hb)
  .rcases U j q hq with⟨rfl,rfl⟩|⟨rfl,rfl⟩|⟨_,_,iP⟩
   .rw[X] at e;cases e;exact hf i p hp hb
   .simp[Pl.blk] at e
   .exact hf j q iP e
  .by_cases C:j=i
   .subst C;exact .inr (by rw[aW _ _ cv,ap])
   .have hj:j≠nx:=λe=>by rw[e,hn] at hq;cases hq
    exact .inl (by rw[aW _ _ hj,aW _ _ C];exact hq)
 refine⟨⟨λj r' hj=>?_,λj k q q' c hq iP e O=>?_,λj q c hq e=>?_,λj q c hq e=>?_,h.fb.next (λc hc=>by rw[hw];exact h.fb.lt c hc) (λ_ h=>h) λt _ hF=>ho _ λe=>h.nf _ _ _ hp hb (e▸hF)⟩,hs⟩
 .by_cases rG:j=nx
  .subst rG;rw[ap] at hj;cases hj;exact⟨p',ap _ _ _,hr hs⟩
  .rw[aW _ _ rG] at hj;by_cases C:j=i
   .subst C;rw[ap] at hj;cases hj
   .rw[aW _ _ C] at hj;let⟨q,hq,an⟩:=h.row j r' hj;exact⟨q,by rw[aW _ _ rG,aW _ _ C];exact hq,an.step hs λc hc=>ho c λe=>h.rW hp hb hq C (e▸hc)⟩
 .rcases U j q hq with⟨rfl,rfl⟩|⟨rfl,rfl⟩|⟨h1,h2,J⟩<;>rcases U k q' iP with⟨rfl,rfl⟩|⟨rfl,rfl⟩|⟨k1,k2,k3⟩
  .rfl
  .simp[Pl.blk] at O
  .rw[X] at e;cases e;exact absurd O (h.rW hp hb k3 k2)
  .simp[Pl.blk] at e
  .rfl
  .simp[Pl.blk] at e
  .rw[X] at O;cases O;exact absurd e (h.rW hp hb J h2)
  .simp[Pl.blk] at O
  .exact h.inj j k q q' c J k3 e O
 .rw[hw];rcases U j q hq with⟨rfl,rfl⟩|⟨rfl,rfl⟩|⟨_,_,J⟩
  .rw[X] at e;cases e;exact h.lt i p b hp hb
  .simp[Pl.blk] at e
  .exact h.lt j q c J e
 .rcases U j q hq with⟨rfl,rfl⟩|⟨rfl,rfl⟩|⟨_,_,J⟩
  .rw[X] at e;cases e;exact h.nf i p b hp hb
  .simp[Pl.blk] at e
  .exact h.nf j q c J e
end
end
def l0:Value->D
 | .bool b=>.s (.bool b)
 | .int k n=>.s (.int k n)
 | .string b=>.s (.string b)
 | .pointer none=>.s (.pointer none)
 | .nilFunc=>.s .nilFunc
 | .nilIface=>.s .nilIface
 | .map none=>.s (.map none)
 | .slice none 0 0=>.z
 |_=>.u
def AH:Value->D
 | .agg cs=>.agg (cs.toList.map l0)
 | .bool b=>.s (.bool b)
 | .int k n=>.s (.int k n)
 | .string b=>.s (.string b)
 | .pointer none=>.s (.pointer none)
 | .nilFunc=>.s .nilFunc
 | .nilIface=>.s .nilIface
 | .map none=>.s (.map none)
 | .slice none 0 0=>.z
 |_=>.u
abbrev Env:=Nat->D
structure St where
 env:Env
 mem:Mem
 nx:Nat
def St.put(st:St)(d:Option Nat)(v:D):St:=
 match d with
 |some t=>{ st with env:=up st.env t v }
 |none=>st
def opd(env:Env):Operand->D
 | .tmp t=>env t
 | .const v=>AH v
 | .global _=>.u
 | .func f=>.fn (.func f) [] []
def D.core:D->D
 | .dq _ d=>d
 |d=>d
def D.ask:D->Prop
 | .dq c _=>c=true
 |_=>True
section types
variable(P:Program)
def bM(t:TypeId):Bool:=match P.underlying t with
 |some (.struct _)=>true
 |some (.array _ _)=>true
 |_=>false
def aK(t:TypeId):TypeId:=match P.underlying t with
 |some (.slice e)=>e
 |some (.pointer e)=>e
 |some (.array _ e)=>e
 |_=>0
def du(t:TypeId)(k:Nat):Option (Nat×TypeId):=match P.underlying t with
 |some (.struct fs)=>(fs[k]?).map λf=>(f.offset,f.type)
 |_=>none
def bm(t:TypeId):List D:=((P.info? t).bind (·.zero)).elim [] λv=>v.cells.toList.map l0
def rB(t:TypeId):Nat:=match P.underlying t with
 |some (.array n _)=>n
 |_=>0
end types
def D.one:D->Bool
 | .u | .dq _ _ | .agg _ | .bu _=>false
 |_=>true
def aT(P:Program)(t:TypeId):Bool:=
 (P.underlying t).isSome&&(bM P t||P.cellsOf t==1)&&match (P.info? t).bind (·.zero) with
  |some v=>v.cells.toList.all (λc=>(l0 c).one)&&v.cells.size==P.cellsOf t
  |none=>false
def bE(P:Program)(t:TypeId):Bool:=match P.underlying t with
 |some (.slice e)=>aT P e
 |_=>false
def qA(P:Program)(t:TypeId):Bool:=match P.underlying t with
 |some (.array _ e)=>aT P e
 |_=>false
def gR(P:Program)(t:TypeId):Bool:=match P.underlying t with
 |some .string=>true
 |_=>false
def D.cells:D->List D
 | .agg cs=>cs
 |d=>[d]
def lz(P:Program)(t:TypeId)(cs:List D):D:=if bM P t then .agg (cs.take (P.cellsOf t)) else cs.headD .u
def fJ(cs:List D)(off:Nat):List D->List D
 |[x]=>cs.set off x
 |xs=>cs.take off++xs++cs.drop (off+xs.length)
structure ez where
 pre:Prop
 val:D
 bn:List (Nat×Option Row):=[]
 rd:List Nat:=[]
 new:Nat:=0
def cT(m:Mem):List (Nat×Option Row)->Mem
 |[]=>m
 |(i,r)::us=>cT (up m i r) us
def ns(op:BinOp)(k:IntKind)(x y:Int):Int:=
 let a:=BitVec.ofInt k.bits x
 let b:=BitVec.ofInt k.bits y
 k.wrap (match op with
  | .and=>a&&& b
  | .or=>a||| b
  | .xor=>a ^^^ b
  |_=>a&&& ~~~b).toNat
def qj(op:BinOp)(x y:Value):Option (Prop×Value):=
 match op,x,y with
 | .shl,.int k a,.int _ b=>some (0<=b,.int k (k.wrap (a*2 ^ (min b.toNat k.bits))))
 | .shr,.int k a,.int _ b=>some (0<=b,.int k (a.fdiv (2 ^ (min b.toNat k.bits))))
 | .add,.int k a,.int k' b=>some (k=k',.int k (k.wrap (a+b)))
 | .sub,.int k a,.int k' b=>some (k=k',.int k (k.wrap (a - b)))
 | .mul,.int k a,.int k' b=>some (k=k',.int k (k.wrap (a*b)))
 | .quo,.int k a,.int k' b=>some (k=k'/\b≠0,.int k (k.wrap (a.tdiv b)))
 | .rem,.int k a,.int k' b=>some (k=k'/\b≠0,.int k (a.tmod b))
 | .and,.int k a,.int k' b=>some (k=k',.int k (ns .and k a b))
 | .or,.int k a,.int k' b=>some (k=k',.int k (ns .or k a b))
 | .xor,.int k a,.int k' b=>some (k=k',.int k (ns .xor k a b))
 | .andNot,.int k a,.int k' b=>some (k=k',.int k (ns .andNot k a b))
 | .eql,.int k a,.int k' b=>some (k=k',.bool (a==b))
 | .neq,.int k a,.int k' b=>some (k=k',.bool (a !=b))
 | .lss,.int k a,.int k' b=>some (k=k',.bool (decide (a<b)))
 | .leq,.int k a,.int k' b=>some (k=k',.bool (decide (a<=b)))
 | .gtr,.int k a,.int k' b=>some (k=k',.bool (decide (b<a)))
 | .geq,.int k a,.int k' b=>some (k=k',.bool (decide (b<=a)))
 | .eql,.string a,.string b=>some (True,.bool (a.toList==b.toList))
 | .neq,.string a,.string b=>some (True,.bool !(a.toList==b.toList))
 | .lss,.string a,.string b=>some (True,.bool (Op.bytesLess a.toList b.toList))
 | .geq,.string a,.string b=>some (True,.bool !(Op.bytesLess a.toList b.toList))
 |_,_,_=>none
def lW:Value->Nat
 | .int _ _=>0
 | .bool _=>1
 | .string _=>2
 |_=>3
def zU(P:Program)(t:TypeId):Nat:=match P.underlying t with
 |some (.int _)=>0
 |some .bool=>1
 |some .string=>2
 |_=>9
def wv(P:Program)(t:TypeId):Bool:=zU P t !=9&&P.cellsOf t==1&&aT P t&& !bM P t
def BI(P:Program)(t:TypeId):Option (List Nat):=match P.underlying t with
 |some (.array n e)=>if wv P e&&P.cellsOf t==n then some (replicate n (zU P e)) else none
 |some (.struct fs)=>if(fs.toList.all λf=>f.name !="_"&&wv P f.type)&&P.runs 0 fs.toList==some fs.toList.length&& !P.stoodInHeld t then some (fs.toList.map λf=>zU P f.type) else none
 |_=>none
def BJ:Value->Value->Bool
 | .int k _,.int k' _=>k==k'
 | .bool _,.bool _=>true
 | .string _,.string _=>true
 |_,_=>false
def rC:List D->List D->Option (List Value×List Value)
 |[],[]=>some ([],[])
 | .s x::xs,.s y::ys=>if BJ x y then(rC xs ys).map λq=>(x::q.1,y::q.2) else none
 |_,_=>none
def tA:Value->Value->Bool
 | .int k a,.int k' b=>k==k'&&a==b
 | .bool a,.bool b=>a==b
 | .string a,.string b=>a.data.toList==b.data.toList
 |_,_=>false
def jV:List Value->List Value->Bool
 |[],[]=>true
 |a::aS,b::bs=>tA a b&&jV aS bs
 |_,_=>false
def Bx(P:Program)(op:BinOp)(t:TypeId)(xs ys:List D):Option (Prop×D):=
 match op,BI P t,rC xs ys with
 | .eql,some ks,some q=>some (q.1.map lW=ks/\P.eqGuardType P.depth t=false,.s (.bool (jV q.1 q.2)))
 | .neq,some ks,some q=>some (q.1.map lW=ks/\P.eqGuardType P.depth t=false,.s (.bool !(jV q.1 q.2)))
 |_,_,_=>none
def uQ(P:Program)(t:TypeId):Bool:=match P.underlying t with
 |some .bool=>true
 |_=>false
def Cp(P:Program)(t:TypeId):Bool:=match P.underlying t with
 |some (.pointer _)=>true
 |_=>false
def rD(P:Program)(op:BinOp)(t:TypeId)(x y:D):Option (Prop×D):=
 match x,y with
 | .s (.bool a),.s (.bool b)=>match op with
  | .eql=>some (uQ P t=true,.s (.bool (a==b)))
  | .neq=>some (uQ P t=true,.s (.bool !(a==b)))
  |_=>none
 | .s a,.s b=>(qj op a b).map λr=>(r.1,.s r.2)
 | .agg xs,.agg ys=>Bx P op t xs ys
 |_,_=>none
def nd(P:Program)(m:Mem)(op:BinOp)(t:TypeId)(x:D)(y:Operand):Option ez:=
 match y,op,x with
 | .const (.slice none 0 0),.eql,.sl _ n=>some { pre:=bE P t=true,val:=if n=0 then .ub else .s (.bool false) }
 | .const (.pointer none),.eql,.rp i _=>match m i with
  |some _=>some { pre:=Cp P t=true,val:=.s (.bool false),rd:=[i] }
  |none=>none
 | .const (.pointer none),.neq,.rp i _=>match m i with
  |some _=>some { pre:=Cp P t=true,val:=.s (.bool true),rd:=[i] }
  |none=>none
 |_,_,_=>none
def E8(op:UnOp)(x:Value):Option Value:=
 match op,x with
 | .neg,.int k n=>some (.int k (k.wrap (0 - n)))
 | .xor,.int k n=>some (.int k (ns .xor k (if k.signed then -1 else k.max) n))
 | .not,.bool b=>some (.bool !b)
 |_,_=>none
def D.gL :D->Option Bool
 | .s (.bool b)=>some b
 |_=>none
def D.int? :D->Option Int
 | .s (.int _ n)=>some n
 |_=>none
def lA(place:Nat->Option (Nat×Nat))(cells:List D):List (Nat×D)->Option (List D)
 |[]=>some cells
 |(i,d)::rest=>
  match place i with
  |none=>none
  |some (off,size)=>if d.cells.length=size/\off+size<=cells.length/\d.cells.all D.one=true then lA place (fJ cells off d.cells) rest else none
def dp(n:Nat)(z:List D):List D:=(replicate n z).flatten
def nR(P:Program)(m:Mem)(t:TypeId):D->Option ez
 | .sl _ n=>some { pre:=bE P t=true,val:=.s (.int .i64 n) }
 | .rs i _ n=>match m i with
  |some _=>some { pre:=bE P t=true,val:=.s (.int .i64 n),rd:=[i] }
  |none=>none
 | .z=>some { pre:=bE P t=true,val:=.s (.int .i64 0) }
 | .s (.string b)=>some { pre:=gR P t=true,val:=.s (.int .i64 b.size) }
 | .agg _=>some { pre:=qA P t=true,val:=.s (.int .i64 (rB P t)) }
 |_=>none
def kq(m:Mem)(sz:Nat):D->Option (Prop×List Nat×Nat×List D)
 | .sl es n=>some (n*sz<=es.length,[],n,es.take (n*sz))
 | .z=>some (True,[],0,[])
 | .rs i off n=>match m i with
  |some (.cells cs _)=>some (off+n*sz<=cs.length,[i],n,(cs.drop off).take (n*sz))
  |_=>none
 |_=>none
def tc(P:Program)(m:Mem)(nx:Nat)(t:TypeId)(s x:D):Option ez:=
 let e:=aK P t
 let sz:=P.cellsOf e
 match kq m sz x with
 |none=>none
 |some (p,rd,k,news)=>
  match s with
  | .z=>some { pre:=bE P t=true/\p/\0<sz/\k<=maxLen/\k*P.bytesOf e<=140737488355328,val:=.rs nx 0 k,bn:=[(nx,some (.cells news e))],rd:=rd,new:=1 }
  | .rs i off n=>match m i with
   |some (.cells cs e')=>some { pre:=bE P t=true/\e'=e/\p/\0<sz/\off+n*sz=cs.length/\n+k<=maxLen/\(n+k)*P.bytesOf e<=140737488355328/\i∉rd,val:=.rs nx 0 (n+k),bn:=[(i,none),(nx,some (.cells (cs.drop off++news) e))],rd:=i::rd,new:=1 }
   |_=>none
  |_=>none
def wN:Value->Value->Bool
 | .agg a,.agg b=>jV a.toList b.toList
 |a,b=>tA a b
def Ec:List D->Option (List Value)
 |[]=>some []
 | .s v::ds=>(Ec ds).map (v::·)
 |_=>none
def qk:D->Option Value
 | .s v=>some v
 | .agg cs=>(Ec cs).map λvs=>.agg vs.toArray
 |_=>none
def gM(k:Value):List (Value×D)->Option (Nat×D)
 |[]=>none
 |(k',d)::es=>if wN k' k then some (0,d) else(gM k es).map λx=>(x.1+1,x.2)
def oU(k:Value)(d:D)(es:List (Value×D)):List (Value×D):=match gM k es with
 |some (i,_)=>es.set i (k,d)
 |none=>es++[(k,d)]
def wx(k:Value)(es:List (Value×D)):List (Value×D):=match gM k es with
 |some (i,_)=>es.eraseIdx i
 |none=>es
def jb(P:Program)(t:TypeId):TypeId:=match P.underlying t with
 |some (.map k _)=>k
 |_=>0
def uy(P:Program)(t:TypeId):TypeId:=match P.underlying t with
 |some (.map _ e)=>e
 |_=>0
def eN(P:Program)(kt:TypeId)(v:Value):Bool:=match P.underlying kt with
 |some (.int k)=>(match v with | .int k' _=>k'==k|_=>false)
 |some .bool=>(match v with | .bool _=>true|_=>false)
 |some .string=>(match v with | .string _=>true|_=>false)
 |some (.array _ _)=>(keyOf P kt v).isSome
 |some (.struct _)=>(keyOf P kt v).isSome
 |_=>false
def yR(P:Program)(t:TypeId):Bool:=match (P.info? t).bind (·.zero) with
 |some (.agg _)=>bM P t
 |some _=> !bM P t
 |none=>false
def lD(P:Program)(t:TypeId):Bool:=match P.underlying t with
 |some (.map kt et)=>(aT P et&&yR P et)&&match P.underlying kt with
  |some (.int _)=>true
  |some .bool=>true
  |some .string=>true
  |some (.array _ _)=>P.keyTypeAt 9 kt&&P.tiled 9 kt
  |some (.struct _)=>P.keyTypeAt 9 kt&&P.tiled 9 kt
  |_=>false
 |_=>false
def rh(P:Program)(t:TypeId):D:=if bM P t then .agg (bm P t) else(bm P t).headD .u
def jM(P:Program)(t:TypeId)(ok:Bool):Option (Nat×D)->D
 |some (_,d)=>if ok then .bu [d,.s (.bool true)] else d
 |none=>if ok then .bu [rh P (uy P t),.s (.bool false)] else rh P (uy P t)
def pW(P:Program)(m:Mem)(t:TypeId)(x k:D)(ok:Bool):Option ez:=match qk k,x with
 |some key,.mp i=>match m i with
  |some (.map es)=>some { pre:=lD P t=true/\eN P (jb P t) key=true/\es.all (λe=>eN P (jb P t) e.1)=true,val:=jM P t ok (gM key es),rd:=[i] }
  |_=>none
 |some key,.im es=>some { pre:=lD P t=true/\eN P (jb P t) key=true/\es.all (λe=>eN P (jb P t) e.1)=true,val:=jM P t ok (gM key es) }
 |some key,.s (.map none)=>some { pre:=lD P t=true/\eN P (jb P t) key=true,val:=jM P t ok none }
 |_,_=>none
def pX(P:Program)(m:Mem)(t:TypeId)(x k v:D):Option ez:=match qk k,x with
 |some key,.mp i=>match m i with
  |some (.map es)=>some { pre:=lD P t=true/\eN P (jb P t) key=true/\es.all (λe=>eN P (jb P t) e.1)=true,val:=.bu [],bn:=[(i,some (.map (oU key v es)))],rd:=[i] }
  |_=>none
 |_,_=>none
def xH(P:Program)(m:Mem)(t:TypeId)(x k:D):Option ez:=match qk k,x with
 |some key,.mp i=>match m i with
  |some (.map es)=>some { pre:=lD P t=true/\eN P (jb P t) key=true/\es.all (λe=>eN P (jb P t) e.1)=true,val:=.bu [],bn:=[(i,some (.map (wx key es)))],rd:=[i] }
  |_=>none
 |_,_=>none
def fP(P:Program)(m:Mem)(nx:Nat)(b:Builtin)(ts:Array TypeId)(args:List D):Option ez:=
 match b,args with
 | .len,[x]=>nR P m (ts.getD 0 0) x
 | .append,[s,x]=>if ts.getD 0 0=ts.getD 1 0 then tc P m nx (ts.getD 0 0) s x else none
 | .min,[.s (.int k a),.s (.int k' b)]=>some { pre:=k=k',val:=.s (.int k (if b<a then b else a)) }
 | .clear,[.rs i off n]=>match m i with
  |some (.cells cs e)=>some { pre:=bE P (ts.getD 0 0)=true/\off+n*P.cellsOf e<=cs.length/\e=aK P (ts.getD 0 0),val:=.bu [],bn:=[(i,some (.cells (fJ cs off (dp n (bm P e))) e))],rd:=[i] }
  |_=>none
 | .delete,[x,k]=>xH P m (ts.getD 0 0) x k
 |_,_=>none
def gd(d:Option D)(C:Int):Option Int:=match d with
 |none=>some C
 |some d=>d.int?
def nJ(P:Program)(m:Mem)(t:TypeId)(x:D)(lo hi C:Option D):Option ez:=
 match x with
 | .sl es n=>match gd lo 0,gd hi n,C with
  |some l,some h,none=>some { pre:=bE P t=true/\0<=l/\l<=h/\h<=n,val:=.sl ((es.drop (l.toNat*P.cellsOf (aK P t))).take ((h - l).toNat*P.cellsOf (aK P t))) (h - l).toNat }
  |some l,some h,some d=>match d.int? with
   |some k=>some { pre:=bE P t=true/\hi.isSome=true/\0<=l/\l<=h/\h<=k/\k<=n,val:=.sl ((es.drop (l.toNat*P.cellsOf (aK P t))).take ((h - l).toNat*P.cellsOf (aK P t))) (h - l).toNat }
   |none=>none
  |_,_,_=>none
 | .rs i off n=>match m i with
  |some (.cells _ e)=>match gd lo 0,gd hi n,C with
   |some l,some h,none=>some { pre:=(bE P t=true/\P.cellsOf e=P.cellsOf (aK P t))/\0<=l/\l<=h/\h<=n,val:=.rs i (off+l.toNat*P.cellsOf (aK P t)) (h - l).toNat,rd:=[i] }
   |_,_,_=>none
  |_=>none
 | .s (.string b)=>match gd lo 0,gd hi b.size,C with
  |some l,some h,none=>some { pre:=gR P t=true/\0<=l/\l<=h/\h<=b.size,val:=.s (.string (b.extract l.toNat h.toNat)) }
  |_,_,_=>none
 |_=>none
def bh(P:Program)(o:Op)(ρ:Operand->D)(m:Mem)(nx:Nat):Option ez:=
 match o with
 | .move x=>some { pre:=True,val:=ρ x }
 | .assign x=>some { pre:=True,val:=ρ x }
 | .pick c a b=>match (ρ c).core.gL with
  |some t=>some { pre:=(t=true->(ρ a).ask/\(ρ a).core.gL.isSome=true)/\(t=false->(ρ b).ask/\(ρ b).core.gL.isSome=true),val:=.s (.bool (if t then(ρ a).core.gL.getD false else(ρ b).core.gL.getD false)) }
  |none=>none
 | .alloc t=>some { pre:=aT P t=true,val:=.rp nx 0,bn:=[(nx,some (.cells (bm P t) t))],new:=1 }
 | .box t x=>some { pre:=(ρ x).cells.all D.one=true,val:=.rp nx 0,bn:=[(nx,some (.cells (ρ x).cells t))],new:=1 }
 | .build t ps=>match P.underlying t with
  |some (.struct fs)=>(lA (λi=>(fs[i]?).map λf=>(f.offset,P.cellsOf f.type)) (bm P t) (ps.toList.map λq=>(q.1,ρ q.2))).map λcs=>{ pre:=aT P t=true/\fs.toList.all (λf=>(P.info? f.type).isSome)=true,val:=.agg cs }
  |some (.array _ e)=>(lA (λi=>some (i*P.cellsOf e,P.cellsOf e)) (bm P t) (ps.toList.map λq=>(q.1,ρ q.2))).map λcs=>{ pre:=aT P t=true/\aT P e=true,val:=.agg cs }
  |_=>none
 | .buildSlice t n ps=>(lA (λi=>some (i*P.cellsOf (aK P t),P.cellsOf (aK P t))) (dp n (bm P (aK P t))) (ps.toList.map λq=>(q.1,ρ q.2))).map λcs=>
   { pre:=cs.all D.one=true/\n*P.cellsOf (aK P t)<=2 ^ 24/\bE P t=true/\n<=maxLen,val:=.rs nx 0 n,bn:=[(nx,some (.cells cs (aK P t)))],new:=1 }
 | .load t a=>match ρ a with
  | .pt cs=>some { pre:=aT P t=true/\P.cellsOf t<=cs.length,val:=lz P t cs }
  | .rp i off=>match m i with
   |some (.cells cs _)=>some { pre:=aT P t=true/\off+P.cellsOf t<=cs.length,val:=lz P t (cs.drop off),rd:=[i] }
   |_=>none
  |_=>none
 | .store t a x=>match ρ a with
  | .rp i off=>match m i with
   |some (.cells cs e)=>some { pre:=aT P t=true/\(ρ x).cells.length=P.cellsOf t/\off+P.cellsOf t<=cs.length/\(ρ x).cells.all D.one=true,val:=.bu [],bn:=[(i,some (.cells (fJ cs off (ρ x).cells) e))],rd:=[i] }
   |_=>none
  |_=>none
 | .nilCheck x=>match ρ x with
  | .pt cs=>some { pre:=True,val:=.pt cs }
  | .rp i off=>match m i with
   |some _=>some { pre:=True,val:=.rp i off,rd:=[i] }
   |none=>none
  |_=>none
 | .binOp op t x y _=>match nd P m op t (ρ x) y with
  |some e=>some e
  |none=>(rD P op t (ρ x) (ρ y)).map λr=>{ pre:=r.1,val:=r.2 }
 | .unOp op _ x=>match ρ x with
  | .s v=>(E8 op v).map λr=>{ pre:=True,val:=.s r }
  |_=>none
 | .convert src dst x=>match P.underlying dst,ρ x with
  |some (.int k),.s (.int _ n)=>some { pre:=aT P src=true,val:=.s (.int k (k.wrap n)) }
  |some (.slice e),.s (.string b)=>match P.underlying e with
   |some (.int .u8)=>some { pre:=gR P src=true/\b.size<=maxLen,val:=.sl (b.data.toList.map λc=>.s (.int .u8 c.toNat)) b.size }
   |_=>none
  |_,_=>none
 | .makeFunc f fs cs=>some { pre:=True,val:=.fn f (fs.toList.map ρ) (cs.toList.map ρ) }
 | .makeMap _ r=>match r with
  |none=>some { pre:=True,val:=.mp nx,bn:=[(nx,some (.map []))],new:=1 }
  |some _=>none
 | .makeSlice t l c=>match ρ l,ρ c with
  | .s (.int .i64 n),.s (.int .i64 k)=>some { pre:=0<=n/\n=k/\n<=9223372036854775807/\P.bytesOf (aK P t)*n<=281474976710656/\bE P t=true,val:=.rs nx 0 n.toNat,bn:=[(nx,some (.cells (dp n.toNat (bm P (aK P t))) (aK P t)))],new:=1 }
  |_,_=>none
 | .lookup t x k ok=>pW P m t (ρ x) (ρ k) ok
 | .mapUpdate t x k v=>pX P m t (ρ x) (ρ k) (ρ v)
 | .insert t x k v=>pX P m t (ρ x) (ρ k) (ρ v)
 | .slice t x lo hi C=>nJ P m t (ρ x) (lo.map ρ) (hi.map ρ) (C.map ρ)
 | .fieldAddr t x k=>match du P t k,ρ x with
  |some (off,ft),.pt cs=>some { pre:=0<P.cellsOf ft,val:=.pt (cs.drop off) }
  |some (off,ft),.rp i o=>match m i with
   |some _=>some { pre:=0<P.cellsOf ft,val:=.rp i (o+off),rd:=[i] }
   |none=>none
  |_,_=>none
 | .field t x k=>match du P t k,ρ x with
  |some (off,ft),.agg cs=>some { pre:=aT P ft=true/\off+P.cellsOf ft<=cs.length,val:=lz P ft (cs.drop off) }
  |_,_=>none
 | .indexAddr t x i=>match ρ x,ρ i with
  | .sl es n,.s (.int _ k)=>some { pre:=bE P t=true/\0<=k/\k<n/\(k.toNat+1)*P.cellsOf (aK P t)<=es.length,val:=.pt (es.drop (k.toNat*P.cellsOf (aK P t))) }
  | .rs j off n,.s (.int _ k)=>match m j with
   |some _=>some { pre:=bE P t=true/\0<=k/\k<n,val:=.rp j (off+k.toNat*P.cellsOf (aK P t)),rd:=[j] }
   |none=>none
  | .rp j off,.s (.int _ k)=>match m j with
   |some _=>some { pre:=qA P t=true/\0<=k/\k<rB P t,val:=.rp j (off+k.toNat*P.cellsOf (aK P t)),rd:=[j] }
   |none=>none
  |_,_=>none
 | .index t x i=>match ρ x,ρ i with
  | .s (.string b),.s (.int _ k)=>some { pre:=gR P t=true/\0<=k/\k<b.size,val:=.s (.int .u8 (b.data.toList.getD k.toNat 0).toNat) }
  | .agg cs,.s (.int _ k)=>some { pre:=qA P t=true/\0<=k/\k<rB P t/\(k.toNat+1)*P.cellsOf (aK P t)<=cs.length,val:=lz P (aK P t) (cs.drop (k.toNat*P.cellsOf (aK P t))) }
  |_,_=>none
 | .extract x k=>match ρ x with
  | .bu cs=>some { pre:=k<cs.length,val:=cs.getD k .u }
  |_=>none
 | .call c=>match c.callee with
  | .builtin b=>if c.argTypes.size=c.args.size then fP P m nx b c.argTypes (c.args.toList.map ρ) else none
  |_=>none
 |_=>none
def EA(t:TypeId):Bool:=([158,160]:List Nat).contains t
def mkStr(l:List Int):ByteArray:=⟨(l.map λn=>UInt8.ofNat n.toNat).toArray⟩
def qU(l:List Int):List D:=l.map λn=>.s (.int .u8 n)
def B2(b:ByteArray):List D:=b.data.toList.map λc=>.s (.int .u8 c.toNat)
def wO(P:Program)(t:TypeId):Prop:=bE P t=true/\P.underlying (aK P t)=some (.int .u8)/\P.cellsOf (aK P t)=1
def AI(P:Program)(t:TypeId):Bool:=match P.underlying t with
 |some (.interface _)=>false
 |some _=>true
 |none=>false
def R2:Value->Bool
 | .iface _ _ | .nilIface=>true
 |_=>false
def inD:Value->D
 | .agg cs=>.agg (cs.toList.map .s)
 |v=>.s v
def Ed(P:Program)(t:TypeId):Value->D
 | .iface u v=>if u=t then .bu [inD v,.s (.bool true)] else .bu [rh P t,.s (.bool false)]
 |_=>.bu [rh P t,.s (.bool false)]
inductive fN(P:Program)(ρ:Operand->D)(m:Mem)(nx:Nat):Op->ez->Prop
 |add (t p:TypeId) (x y:Operand) (a b:ByteArray) (hx:ρ x=.s (.string a)) (hy:ρ y=.s (.string b)) (h:a.size+b.size<=maxLen):fN P ρ m nx (.binOp .add t x y p) { pre:=True,val:=.s (.string (a++b)) }
 |Ee (src dst:TypeId) (x:Operand) (l:List Int) (hx:ρ x=.sl (qU l) l.length) (hs:wO P src) (hd:gR P dst=true):fN P ρ m nx (.convert src dst x) { pre:=True,val:=.s (.string (mkStr l)) }
 |Eg (src dst:TypeId) (x:Operand) (l:List Int) (i off:Nat) (cs:List D) (e:TypeId) (hx:ρ x=.rs i off l.length) (hi:m i=some (.cells cs e)) (hl:(cs.drop off).take l.length=qU l) (hs:wO P src) (hd:gR P dst=true):
  fN P ρ m nx (.convert src dst x) { pre:=True,val:=.s (.string (mkStr l)),rd:=[i] }
 |rune (src dst:TypeId) (x:Operand) (k k':IntKind) (n:Int) (hx:ρ x=.s (.int k n)) (hs:P.underlying src=some (.int k')) (hd:gR P dst=true) (h0:0<=n) (h1:n<128):fN P ρ m nx (.convert src dst x) { pre:=True,val:=.s (.string (mkStr [n])) }
 |cut (t:TypeId) (x h c:Operand) (es:List D) (n:Nat) (k:IntKind) (k':IntKind) (hx:ρ x=.sl es n) (hh:ρ h=.s (.int k n)) (hc:ρ c=.s (.int k' n)) (ht:bE P t=true) (hn:n*P.cellsOf (aK P t)=es.length):
  fN P ρ m nx (.slice t x none (some h) (some c)) { pre:=True,val:=.sc es n }
 |BK (c:Call) (s x:Operand) (t:TypeId) (es news:List D) (n k:Nat) (p:Prop) (rd:List Nat) (hc:c={ callee:=.builtin .append,args:= #[s,x],argTypes:= #[t,t] }) (hs:ρ s=.sc es n) (hx:kq m (P.cellsOf (aK P t)) (ρ x)=some (p,rd,k,news)) (hp:p)
  (ht:bE P t=true) (hn:n*P.cellsOf (aK P t)=es.length) (hk:0<k) (hz:0<P.cellsOf (aK P t)) (hm:n+k<=maxLen) (hb:(n+k)*P.bytesOf (aK P t)<=140737488355328):
  fN P ρ m nx (.call c) { pre:=True,val:=.rs nx 0 (n+k),bn:=[(nx,some (.cells (es++news) (aK P t)))],rd:=rd,new:=1 }
 |Bm (c:Call) (s x:Operand) (t u:TypeId) (b:ByteArray) (hc:c={ callee:=.builtin .append,args:= #[s,x],argTypes:= #[t,u] }) (hs:ρ s=.z) (hx:ρ x=.s (.string b)) (ht:wO P t) (hu:gR P u=true) (hm:b.size<=maxLen) (hb:b.size*P.bytesOf (aK P t)<=140737488355328):
  fN P ρ m nx (.call c) { pre:=True,val:=.rs nx 0 b.size,bn:=[(nx,some (.cells (B2 b) (aK P t)))],new:=1 }
 |By (c:Call) (s x:Operand) (t u:TypeId) (b:ByteArray) (i off n:Nat) (cs:List D) (hc:c={ callee:=.builtin .append,args:= #[s,x],argTypes:= #[t,u] }) (hs:ρ s=.rs i off n) (hx:ρ x=.s (.string b)) (hi:m i=some (.cells cs (aK P t))) (ht:wO P t) (hu:gR P u=true)
  (hf:off+n=cs.length) (hm:n+b.size<=maxLen) (hb:(n+b.size)*P.bytesOf (aK P t)<=140737488355328):
  fN P ρ m nx (.call c) { pre:=True,val:=.rs nx 0 (n+b.size),bn:=[(i,none),(nx,some (.cells (cs.drop off++B2 b) (aK P t)))],rd:=[i],new:=1 }
 |B3 (c:Call) (x:Operand) (t:TypeId) (i:Nat) (es:List (Value×D)) (hc:c={ callee:=.builtin .len,args:= #[x],argTypes:= #[t] }) (hx:ρ x=.mp i) (hi:m i=some (.map es)) (ht:lD P t=true):fN P ρ m nx (.call c) { pre:=True,val:=.s (.int .i64 es.length),rd:=[i] }
 |BL (c:Call) (s:Operand) (t:TypeId) (i off n:Nat) (r:Row) (hc:c={ callee:=.builtin .unsafeSliceData,args:= #[s],argTypes:= #[t] }) (hs:ρ s=.rs i off n) (hi:m i=some r) (hn:0<n):fN P ρ m nx (.call c) { pre:=True,val:=.rp i off,rd:=[i] }
 |B4 (c:Call) (p n:Operand) (t u e:TypeId) (l:List Int) (i off:Nat) (cs:List D) (k:IntKind) (hc:c={ callee:=.builtin .unsafeString,args:= #[p,n],argTypes:= #[t,u] }) (hp:ρ p=.rp i off) (hn:ρ n=.s (.int k l.length)) (hi:m i=some (.cells cs e)) (hl:(cs.drop off).take l.length=qU l) (h0:l≠[])
  (ht:P.underlying t=some (.pointer e)) (he:P.cellsOf e=1) (hm:l.length<=maxLen) (hr:∀ x∈l,0<=x/\x<256):fN P ρ m nx (.call c) { pre:=True,val:=.s (.string (mkStr l)),bn:=[(i,none)],rd:=[i] }
 |D2 (t:TypeId) (hb:EA t=true) (ht:aT P t=true) (hz:bm P t=[.s (.pointer none),.z]):fN P ρ m nx (.alloc t) { pre:=True,val:=.rp nx 0,bn:=[(nx,some (.bs false .z t))],new:=1 }
 |EB (t:TypeId) (x:Operand) (d:D) (hb:EA t=true) (hx:(ρ x).cells=[.s (.pointer none),d]) (hd:d.one=true) (hs:P.cellsOf t=2):fN P ρ m nx (.box t x) { pre:=True,val:=.rp nx 0,bn:=[(nx,some (.bs false d t))],new:=1 }
 |E' (t:TypeId) (x:Operand) (lo hi:Option Operand) (hx:ρ x=.z) (ko:gd (lo.map ρ) 0=some 0) (oZ:gd (hi.map ρ) 0=some 0) (ht:bE P t=true):fN P ρ m nx (.slice t x lo hi none) { pre:=True,val:=.z }
 |EC (t:TypeId) (x h c:Operand) (k k':IntKind) (hx:ρ x=.z) (hh:ρ h=.s (.int k 0)) (hc:ρ c=.s (.int k' 0)) (ht:bE P t=true):fN P ρ m nx (.slice t x none (some h) (some c)) { pre:=True,val:=.z }
 |ED (t:TypeId) (x h c:Operand) (i off n:Nat) (cs:List D) (e:TypeId) (k k':IntKind) (hx:ρ x=.rs i off n) (hi:m i=some (.cells cs e)) (hh:ρ h=.s (.int k n)) (hc:ρ c=.s (.int k' n)) (ht:bE P t=true) (hl:off+n*P.cellsOf e=cs.length):
  fN P ρ m nx (.slice t x none (some h) (some c)) { pre:=True,val:=.rs i off n,rd:=[i] }
 |B5 (b:Bool) (op:BinOp) (t p:TypeId) (x:Operand) (fO:op=if b then .eql else .neq) (hx:ρ x=.z) (ht:bE P t=true):fN P ρ m nx (.binOp op t x (.const (.slice none 0 0)) p) { pre:=True,val:=.s (.bool (true==b)) }
 |B6 (b:Bool) (op:BinOp) (t p:TypeId) (x:Operand) (i off n:Nat) (cs:List D) (e:TypeId) (fO:op=if b then .eql else .neq) (hx:ρ x=.rs i off n) (hi:m i=some (.cells cs e)) (hn:0<n) (ht:bE P t=true):
  fN P ρ m nx (.binOp op t x (.const (.slice none 0 0)) p) { pre:=True,val:=.s (.bool (false==b)),rd:=[i] }
 |mkIf (t:TypeId) (x:Operand) (v:Value) (hx:qk (ρ x)=some v) (hv:plain (.iface t v)=true) (ht:AI P t=true):fN P ρ m nx (.makeInterface t x) { pre:=True,val:=.s (.iface t v) }
 |EE (x:Operand) (u t:TypeId) (v:Value) (hx:ρ x=.s v) (hv:R2 v=true) (ht:AI P t=true) (ho:aT P t=true) (hz:yR P t=true):fN P ρ m nx (.typeAssert x u t true) { pre:=True,val:=Ed P t v }
 |copy (c:Call) (x y:Operand) (t:TypeId) (i off n k:Nat) (cs news:List D) (p:Prop) (rd:List Nat) (hc:c={ callee:=.builtin .copy,args:= #[x,y],argTypes:= #[t,t] }) (hx:ρ x=.rs i off n) (hi:m i=some (.cells cs (aK P t)))
  (hy:kq m (P.cellsOf (aK P t)) (ρ y)=some (p,rd,k,news)) (hp:p) (ht:bE P t=true) (hk:k<=n) (hl:off+n*P.cellsOf (aK P t)<=cs.length):
  fN P ρ m nx (.call c) { pre:=True,val:=.s (.int .i64 k),bn:=[(i,some (.cells (fJ cs off news) (aK P t)))],rd:=i::rd }
 |Eh (t:TypeId) (a:Operand) (i:Nat) (u:Bool) (x:D) (T:TypeId) (ha:ρ a=.rp i 1) (hi:m i=some (.bs u x T)) (ht:aT P t=true) (hg:bM P t=false):fN P ρ m nx (.load t a) { pre:=True,val:=x,rd:=[i] }
 |Bz (t:TypeId) (a y:Operand) (i:Nat) (u:Bool) (x:D) (T:TypeId) (ha:ρ a=.rp i 1) (hi:m i=some (.bs u x T)) (ht:aT P t=true) (hg:bM P t=false) (hy:(ρ y).one=true):fN P ρ m nx (.store t a y) { pre:=True,val:=.bu [],bn:=[(i,some (.bs u (ρ y) T))],rd:=[i] }
def eB(ρ:Operand->D):Op->Option (FuncId×List D)
 | .call c=>match c.callee with
  | .value f=>match ρ f with
   | .fn (.func k) fs cs=>some (k,fs++c.args.toList.map ρ++cs)
   |_=>none
  |_=>none
 |_=>none
def Rs(F:Nat->Prop)(β:aN)(w:World)(ds:List D)(vs:Array Value):Prop:=
 vs.size=ds.length/\∀ (k:Nat) (d:D) (v:Value),ds[k]? =some d->vs[k]? =some v->R F β w d v
def iE:aN:=λ_=>none
def owned(F:Nat->Prop)(β:aN):Nat->Prop:=λb=>F b\/¬ β.free b
def Tr(d:D):Prop:=∀ F β w v,R F β w d v->R (owned F β) iE w d v
def D.lY:D->Bool
 | .s _=>true
 | .ub=>true
 | .bu [.s _,.s _]=>true
 | .bu [.s _]=>true
 | .bu []=>true
 |_=>false
def Kept(w w':World):Prop:=w.heap.size<=w'.heap.size/\(∀ b,b<w.heap.size->w'.heap[b]? =w.heap[b]?)/\Out w w'
def nB(P:Program)(f:FuncId):Bool:=match P.funcs[f]? with
 |some fn=> !(fn.name=="runtime.NumGoroutine")&&fn.body.isSome
 |none=>false
def aE(P:Program)(f:FuncId)(args:List D)(r:D):Prop:=
 nB P f=true/\(∀ a∈args,Tr a)/\∀ F w vs,FB F w->Rs F iE w args vs->
  Calls P f vs w λe w'=>∃ v,e=.returned v/\R F iE w' r v/\Kept w w'
def mV(P:Program)(f:FuncId)(args:List D)(es:List D)(n:Nat)(t:TypeId):Prop:=
 nB P f=true/\(∀ a∈args,Tr a)/\∀ F w vs,FB F w->Rs F iE w args vs->
  Calls P f vs w λe w'=>∃ v p,e=.returned v/\p≠ .dead/\(∀ b,p.blk=some b->w.heap.size<=b/\b<w'.heap.size)/\
   dA P (λx=>F x\/p.blk=some x) iE w' (.cells es t) p/\R F (up iE 0 (some p)) w' (.rs 0 0 n) v/\Kept w w'
def iZ(P:Program)(f:FuncId)(args:List D)(m:Mem)(nx:Nat)(dV:D->Mem->Nat->Prop):Prop:=
 nB P f=true/\∀ F β w vs,aQ P F m β w->(∀ i,nx<=i->β i=none)->Rs F β w args vs->
  Calls P f vs w λe w'=>∃ v d m' aw β',e=.returned v/\dV d m' aw/\aQ P F m' β' w'/\(∀ i,aw<=i->β' i=none)/\R F β' w' d v/\Step β w β' w'/\nx<=aw/\∀ i,i<nx->β i=none->β' i=none
def sk(P:Program)(F:Nat->Prop)(J:aN)(C:World)(l:Nat)(args:List D)(m:Mem)(nx:Nat)(dV:D->Mem->Nat->Prop):Prop:=
 ∀ β w us,Step J C β w->aQ P F m β w->(∀ i,nx<=i->β i=none)->Rs F β w args us->
  ∃ f tmps assign body,(Instr.yield l us).run P w=.ok (.round l f tmps assign body) w/\∀ n,RoundIn Fence.wide n P l f tmps assign body w λe w'=>
   ∃ v d m' aw β',e=.returned v/\dV d m' aw/\aQ P F m' β' w'/\(∀ i,aw<=i->β' i=none)/\R F β' w' d v/\Step β w β' w'/\nx<=aw/\∀ i,i<nx->β i=none->β' i=none
def GS(I:Mem->Nat->Prop):Prop:=∀ m nx m' aw,I m nx->nx<=aw->(∀ i,i<nx->m' i=m i)->I m' aw
def Wg(I:Nat->Mem->Nat->Prop)(Stop:Mem->Nat->Prop)(k:Nat)(d:D)(m:Mem)(nx:Nat):Prop:=
 (d=.s (.bool true)/\I (k+1) m nx)\/(d=.s (.bool false)/\Stop m nx)
def B7(P:Program)(f:FuncId)(fs cs:List D)(xs:List (List D)):Prop:=
 nB P f=true/\∀ (F:Nat->Prop) (l:Nat) (I:Nat->Mem->Nat->Prop) (Stop:Mem->Nat->Prop) (m:Mem) (nx:Nat) (β:aN) (w:World) (vs:Array Value),(∀ k,GS (I k))->GS Stop->
  aQ P F m β w->(∀ i,nx<=i->β i=none)->Rs F β w (fs++[.fn (.yield l) [] []]++cs) vs->
  (∀ k x m nx,xs[k]? =some x->I k m nx->sk P F β w l x m nx (Wg I Stop k))->I 0 m nx->
  Calls P f vs w λe w'=>∃ v d m' aw β',e=.returned v/\(I xs.length m' aw\/Stop m' aw)/\aQ P F m' β' w'/\(∀ i,aw<=i->β' i=none)/\R F β' w' d v/\Step β w β' w'/\nx<=aw/\∀ i,i<nx->β i=none->β' i=none
abbrev iz:=Nat->List D->Mem->Nat->(D->Mem->Nat->Prop)->Prop
def nk:iz:=λ_ _ _ _ _=>False
def qV(ρ:Operand->D):Op->Option (Nat×List D)
 | .call c=>match c.callee with
  | .value f=>match ρ f with
   | .fn (.yield l) [] []=>some (l,c.args.toList.map ρ)
   |_=>none
  |_=>none
 |_=>none
def Sn(P:Program)(bP:List Nat)(m:Mem)(a a':D):Prop:=
 ∀ F β w v,(∀ i∈bP,∀ r,m i=some r->∃ p,β i=some p/\dA P F β w r p/\∀ b,p.blk=some b->¬ F b)->R F β w a v->R F iE w a' v
def qv(P:Program)(bP:List Nat)(m:Mem):List D->List D->Prop
 |[],[]=>True
 |a::aS,b::bs=>Sn P bP m a b/\qv P bP m aS bs
 |_,_=>False
def JH(r:Row):Prop:=∃ cs e,r=.cells cs e/\∀ d∈cs,d.lY=true
def Wh(m:Mem)(bP:List Nat)(bn:List (Nat×Option Row))(args:List D):Prop:=
 (∀ i∈bP,∃ r,m i=some r/\JH r)/\(∀ x∈bn,x.1∈bP/\∀ r,x.2=some r->JH r)/\∀ a∈args,Tr a\/∃ i off n,i∈bP/\a=.rs i off n
def only(bP:List Nat)(m:Mem):Mem:=λi=>if i∈bP then m i else none
def zK(P:Program)(dr:Bool)(st:St)(f:FuncId)(args:List D)(K:D->Mem->Nat->List Nat->List Nat->Prop):Prop:=
 (∃ r,aE P f args r/\K r st.mem st.nx [] [])\/
 (∃ O bP r,qv P bP st.mem args O/\aE P f O r/\r.lY=true/\K r st.mem st.nx bP [])\/
 (∃ es n t,mV P f args es n t/\K (.rs st.nx 0 n) (up st.mem st.nx (some (.cells es t))) (st.nx+1) [] [st.nx])\/
 (dr=false/\iZ P f args st.mem st.nx λr m nx=>K r m nx [] [])\/
 (∃ r bn bP,(∀ J C,(∀ i∈bP,st.mem i≠none->J i=st.mem i)->iZ P f args J C λr' m' aw=>r'=r/\m'=cT J bn/\aw=C)/\(∀ i∈bn.map (·.1),i∈bP/\st.mem i≠none)/\K r (cT st.mem bn) st.nx bP (bn.map (·.1)))\/
 (∃ es n t bn bP,Wh st.mem bP bn args/\(∀ d∈es,d.lY=true)/\(∀ C,iZ P f args (only bP st.mem) C λr' m' _=>∃ q,C<=q/\r'=.rs q 0 n/\m' q=some (.cells es t)/\∀ i∈bP,m' i=cT st.mem bn i)/\
  K (.rs st.nx 0 n) (up (cT st.mem bn) st.nx (some (.cells es t))) (st.nx+1) bP (bn.map (·.1)++[st.nx]))
def asks(env:Env)(o:Op):Prop:=match o with
 | .pick c _ _=>(opd env c).ask
 |o=>∀ x∈o.operands.toList,(opd env x).ask
def bS(env:Env)(o:Op):Operand->D:=match o with
 | .pick _ _ _=>opd env
 |_=>λx=>(opd env x).core
def mA:D->Bool->Option Bool
 | .s (.bool g),b=>some (g==b)
 | .dq c d,b=>match d with
  | .s (.bool g)=>some (c&&(g==b))
  |_=>bif c then none else some false
 |_,_=>none
abbrev o0:=List (List Nat×List Nat)
def mT(tr:o0)(i j:Nat):Prop:=
 let a:=tr.getD i ([],[])
 let b:=tr.getD j ([],[])
 (∀ x∈a.2,x∉b.1/\x∉b.2)/\∀ x∈b.2,x∉a.1
def yh:D:=.dq false .u
def mh(P:Program)(Y:iz)(ops:Array Oper)(dr:Bool)(o:Oper)(st:St)(K:St->List Nat->List Nat->Prop):Prop:=
 match o.guard with
  |none=>asks st.env o.op/\match eB (bS st.env o.op) o.op with
   |some (f,args)=>zK P dr st f args λr m nx rd wr=>K (St.put ⟨st.env,m,nx⟩ o.dst r) rd wr
   |none=>match qV (bS st.env o.op) o.op with
    |some (l,args)=>dr=false/\Y l args st.mem st.nx λr m nx=>K (St.put ⟨st.env,m,nx⟩ o.dst r) [] []
    |none=>match bh P o.op (bS st.env o.op) st.mem st.nx with
     |some e=>e.pre/\K (St.put ⟨st.env,cT st.mem e.bn,st.nx+e.new⟩ o.dst e.val) e.rd (e.bn.map (·.1))
     |none=>False
  |some (j,b)=>match ((ops[j]?).bind (·.dst)).bind λt=>mA (st.env t) b with
   |none=>False
   |some c=>match eB (bS st.env o.op) o.op with
    |some (f,args)=>
     (∃ r,(c=true->asks st.env o.op/\aE P f args r)/\K (st.put o.dst (.dq c r)) [] [])\/
     ((c=true->asks st.env o.op/\zK P dr st f args λr m nx rd wr=>K (St.put ⟨st.env,m,nx⟩ o.dst r) rd wr)/\
      (c=false->K (st.put o.dst yh) [] []))
    |none=>match qV (bS st.env o.op) o.op with
     |some (l,args)=>(c=true->asks st.env o.op/\dr=false/\Y l args st.mem st.nx λr m nx=>K (St.put ⟨st.env,m,nx⟩ o.dst r) [] [])/\(c=false->K (st.put o.dst yh) [] [])
     |none=>match bh P o.op (bS st.env o.op) st.mem st.nx with
      |some e=>if e.bn.isEmpty&&e.new==0 then(c=true->asks st.env o.op/\e.pre)/\K (st.put o.dst (.dq c e.val)) e.rd []
       else(c=true->asks st.env o.op/\e.pre/\K (St.put ⟨st.env,cT st.mem e.bn,st.nx+e.new⟩ o.dst e.val) e.rd (e.bn.map (·.1)))/\
        (c=false->K (st.put o.dst yh) [] [])
      |none=>c=false/\K (st.put o.dst yh) [] []
def goes(ops:Array Oper)(o:Oper)(st:St):Prop:=o.guard=none\/∃ j b,o.guard=some (j,b)/\(((ops[j]?).bind (·.dst)).bind λt=>mA (st.env t) b)=some true
def ZO(P:Program)(ops:Array Oper)(o:Oper)(st:St)(K:St->List Nat->List Nat->Prop):Prop:=
 goes ops o st/\asks st.env o.op/\∃ e,fN P (bS st.env o.op) st.mem st.nx o.op e/\K (St.put ⟨st.env,cT st.mem e.bn,st.nx+e.new⟩ o.dst e.val) e.rd (e.bn.map (·.1))
def aJ(P:Program)(Y:iz)(ops:Array Oper)(dr:Bool)(cf:List (Nat×Nat))(Q:Exit->St->Prop):List Oper->St->o0->Prop
 |[],st,tr=>(∀ q∈cf,mT tr q.1 q.2)/\Q .normal st
 |o::rest,st,tr=>mh P Y ops dr o st (λst' rd wr=>aJ P Y ops dr cf Q rest st' (tr++[(rd,wr)]))\/ZO P ops o st λst' rd wr=>aJ P Y ops dr cf Q rest st' (tr++[(rd,wr)])
def de:Op->Nat
 | .call { callee:=.builtin .len,.. }=>1
 | .call { callee:=.builtin .min,.. }=>0
 | .store .. | .mapUpdate .. | .insert .. | .call _=>2
 | .load .. | .lookup .. | .fieldAddr .. | .indexAddr .. | .slice .. | .nilCheck _ | .convert .. =>1
 | .alloc _ | .box .. | .buildSlice .. | .makeSlice .. | .makeMap .. =>3
 | .binOp .eql .. | .binOp .neq .. =>1
 | .move _ | .assign _ | .pick .. | .build .. | .binOp .. | .unOp .. | .makeFunc .. | .field .. | .index .. | .extract .. =>0
 |_=>2
def Ei(C:List Nat)(o:Oper):Nat:=o.after.toList.foldl (λs e=>if Region.binds .any e then s||| 2 ^ e.on||| C.getD e.on 0 else s) 0
def eO:List Oper->List Nat->List Nat
 |[],acc=>acc
 |o::r,acc=>eO r (acc++[Ei acc o])
def unordered(bs:List Nat)(n:Nat):List (Nat×Nat):=
 (range n).flatMap λj=>((range j).filter λi=> !(bs.getD j 0).testBit i).map λi=>(i,j)
def Je(ops:Array Oper)(i j:Nat):Bool:=match ops[i]?,ops[j]? with
 |some x,some y=>x.apart ops y
 |_,_=>true
def JJ(ops:Array Oper)(i j:Nat):Bool:=match ops[i]?,ops[j]? with
 |some x,some y=>(de y.op==1||de y.op==2)&&de x.op !=0&& !(de x.op==1&&de y.op==1)
 |_,_=>false
def bV(ops:Array Oper):Option (List (Nat×Nat)):=
 let u:=unordered (eO ops.toList []) ops.size
 if(ops.toList.zipIdx.all λ(o,i)=>o.after.toList.all λe=> !Region.binds .any e||Nat.blt e.on i)&&u.all λq=>Je ops q.1 q.2 then
  some (u.filter λq=>JJ ops q.1 q.2)
 else none
def BM(ops:Array Oper):Bool:=Nat.blt 0 ops.size&&(range (ops.size - 1)).all λi=>((eO ops.toList []).getD (ops.size - 1) 0).testBit i
def iM(K:St->Prop)(Q:Exit->St->Prop):Exit->St->Prop
 | .normal,st=>K st
 |e,st=>Q e st
def jH(id:Nat)(Q:Exit->St->Prop):Exit->St->Prop
 | .exit i,st=>if i=id then Q .normal st else Q (.exit i) st
 |e,st=>Q e st
def O9(Q:Exit->St->Prop):Exit->St->Prop
 | .goto _,_=>False
 |e,st=>Q e st
def cZ(i:Nat)(cs:List D)(sz:Nat):D->D
 | .rs j off n=>if j=i then .sl ((cs.drop off).take (n*sz)) n else .rs j off n
 | .rp j off=>if j=i then .pt (cs.drop off) else .rp j off
 |d=>d
def Ck(i:Nat)(es:List (Value×D)):D->D
 | .mp j=>if j=i then .im es else .mp j
 |d=>d
def uv(σ:D->D):D->D
 | .agg ds=>.agg (ds.map σ)
 | .dq c d=>.dq c (σ d)
 |d=>σ d
def sub(σ:D->D):D->D
 | .bu ds=>.bu (ds.map (uv σ))
 | .fn f fs ds=>.fn f (fs.map (uv σ)) (ds.map (uv σ))
 |d=>uv σ d
def Row.sub(σ:D->D):Row->Row
 | .cells ds e=>.cells (ds.map (Abs.sub σ)) e
 | .map es=>.map (es.map λx=>(x.1,Abs.sub σ x.2))
 | .bs u x T=>.bs u (Abs.sub σ x) T
 |r=>r
def Wk(d d':D):Prop:=∀ F β w v,R F β w d v->R F β w d' v
inductive aL(P:Program):St->St->Prop
 |refl (st:St):aL P st st
 |trans {a b c:St} (h:aL P a b) (k:aL P b c):aL P a c
 |forget (env env':Env) (m:Mem) (nx:Nat) (h:∀ t,env' t=env t\/env' t=.u):aL P ⟨env,m,nx⟩ ⟨env',m,nx⟩
 |drop (env:Env) (m m':Mem) (nx:Nat) (h:∀ i,m' i=m i\/m' i=none):aL P ⟨env,m,nx⟩ ⟨env,m',nx⟩
 |freeze (env:Env) (m:Mem) (nx i:Nat) (cs:List D) (e:TypeId) (h:m i=some (.cells cs e)):
  aL P ⟨env,m,nx⟩ ⟨λt=>sub (cZ i cs (P.cellsOf e)) (env t),λj=>if j=i then none else(m j).map (Row.sub (cZ i cs (P.cellsOf e))),nx⟩
 |Wf (env:Env) (m:Mem) (nx i:Nat) (es:List (Value×D)) (h:m i=some (.map es)):
  aL P ⟨env,m,nx⟩ ⟨λt=>sub (Ck i es) (env t),λj=>if j=i then none else(m j).map (Row.sub (Ck i es)),nx⟩
 |mz (env:Env) (m:Mem) (nx t:Nat) (e:TypeId) (h:env t=.z):aL P ⟨env,m,nx⟩ ⟨up env t (.rs nx 0 0),up m nx (some (.cells [] e)),nx+1⟩
 |sE (env env':Env) (m m':Mem) (nx:Nat) (h:∀ t,Wk (env t) (env' t)) (hm:∀ i,m' i=m i\/∃ cs cs' e,m i=some (.cells cs e)/\m' i=some (.cells cs' e)/\cs'.length=cs.length/\∀ (k:Nat) (d d':D),cs[k]? =some d->cs'[k]? =some d'->Wk d d'):
  aL P ⟨env,m,nx⟩ ⟨env',m',nx⟩
def xU(env:Env):List Tmp->List D->Env
 |t::ts,d::ds=>xU (up env t d) ts ds
 |_,_=>env
def ahG(K:St->Prop):Exit->St->Prop
 | .normal,st=>K st
 |_,_=>False
def aiS(env:Env)(C:Mem->Nat->Prop)(Q:Exit->St->Prop):Exit->St->Prop
 | .normal,st=>C st.mem st.nx
 | .ret,st=>Q .ret ⟨env,st.mem,st.nx⟩
 | .exit id,st=>Q (.exit id) ⟨env,st.mem,st.nx⟩
 |_,_=>False
def ajP(P:Program)(ops:Array Oper)(Q:Exit->St->Prop):Exit->St->Prop:=λe st=>e=.normal/\aJ P nk ops false [] Q (ops.toList.drop (ops.size - 1)) st []
def O'(P:Program)(Y:iz)(ops:Array Oper)(cf:List (Nat×Nat))(Q:Exit->St->Prop)(st:St):Prop:=
 aJ P Y ops true cf Q ops.toList st []\/(BM ops=true/\aJ P nk ops true cf (ajP P ops Q) (ops.toList.take (ops.size - 1)) st [])
def AW(P:Program)(Y:iz)(rf:Bool):Code->(Exit->St->Prop)->St->Prop
 | .skip,Q,st=>Q .normal st
 | .region _ ops false,Q,st=>aJ P Y ops false [] Q ops.toList st []
 | .region _ ops true,Q,st=>match bV ops with
  |some cf=>O' P Y ops cf Q st
  |none=>False
 | .seq a b,Q,st=>AW P Y rf a (iM (λst'=>∃ C,aL P st' C/\AW P Y rf b Q C) Q) st
 | .cond c a b,Q,st=>(opd st.env c).ask/\match (opd st.env c).core with
  | .s (.bool t)=>(t=true->AW P Y rf a Q st)/\(t=false->AW P Y rf b Q st)
  | .ub=>AW P Y rf a Q st/\AW P Y rf b Q st
  |_=>False
 | .block id b,Q,st=>AW P Y rf b (jH id Q) st
 | .scope b,Q,st=>AW P Y rf b (O9 Q) st
 | .loop b,Q,st=>∃ (I:St->Prop) (μ:St->Nat),I st/\∀ st',I st'->AW P Y rf b (iM (λC=>∃ J,aL P C J/\I J/\μ J<μ st') Q) st'
 | .rangeFunc g ps assign body,Q,st=>rf=true/\(opd st.env g).ask/\∃ f fs cs xs,∃ I:Nat->Mem->Nat->Prop,(opd st.env g).core=.fn (.func f) fs cs/\B7 P f fs cs xs/\(∀ x∈xs,x.length=ps.size/\∀ d∈x,Tr d)/\I 0 st.mem st.nx/\
   (∀ k m nx x,xs[k]? =some x->I k m nx->AW P nk false assign (ahG λs=>AW P nk false body (aiS st.env (I (k+1)) Q) s) ⟨xU st.env ps.toList x,m,nx⟩)/\
   ∀ m nx,I xs.length m nx->Q .normal ⟨st.env,m,nx⟩
 | .exit id,Q,st=>Q (.exit id) st
 | .label _,Q,st=>Q .normal st
 | .ret,Q,st=>Q .ret st
 |_,_,_=>False
def tB(P:Program)(st:St):ResultVar->Option (Prop×D)
 | .tmp t=>some (True,st.env t)
 | .cell a t=>match st.env a with
  | .rp i off=>match st.mem i with
   |some (.cells cs _)=>some (aT P t=true/\off+P.cellsOf t<=cs.length,lz P t (cs.drop off))
   |_=>none
  | .pt cs=>some (aT P t=true/\P.cellsOf t<=cs.length,lz P t cs)
  |_=>none
def sF(P:Program)(st:St):List ResultVar->List D->(List D->Prop)->Prop
 |[],acc,K=>K acc
 |r::rs,acc,K=>match tB P st r with
  |some (p,d)=>p/\sF P st rs (acc++[d]) K
  |none=>False
def uz:List D->D
 |[d]=>d
 |ds=>.bu ds
def lE(P:Program)(rs:List ResultVar)(K:D->St->Prop):Exit->St->Prop
 | .normal,st=>sF P st rs [] λds=>K (uz ds) st
 | .ret,st=>sF P st rs [] λds=>K (uz ds) st
 |_,_=>False
def mW(args:List D):Env:=λt=>args.getD t .u
section
variable{x:Value}{cs:List D}
section inv
variable{F:Nat->Prop}{β:aN}{w:World}{v:Value}
def R.cX(h:R F β w (.s x) v):v=x/\plain x=true:=by cases h;exact⟨rfl,‹_›⟩
def R.GP(h:R F β w .ub v):∃ b,v=.bool b:=by cases h;exact⟨_,rfl⟩
def R.Ah(h:R F β w .z v):v=.slice none 0 0:=by cases h;rfl
def R.D'(h:R F β w .z v):∃ a,v=.slice a 0 0:=⟨_,h.Ah⟩
def R.ua(h:R F β w (.agg cs) v):∃ vs:List Value,v=.agg vs.toArray/\vs.length=cs.length/\∀ (k:Nat) (d:D) (u:Value),cs[k]? =some d->vs[k]? =some u->R F β w d u:=by
 cases h with|agg _ vs hl h=>exact⟨vs,rfl,hl,h⟩
def R.DJ(h:R F β w (.bu cs) v):∃ vs:List Value,v=.tuple vs.toArray/\vs.length=cs.length/\∀ (k:Nat) (d:D) (u:Value),cs[k]? =some d->vs[k]? =some u->R F β w d u:=by
 cases h with|bu _ vs hl h=>exact⟨vs,rfl,hl,h⟩
def R.zD(d:D)(h:R F β w d v)(ha:d.ask):R F β w d.core v:=by
 cases h with
 |dq c d v h h'=>exact h ha
 |u v=>exact .u _
 |s v h=>exact .s _ h
 |ub b=>exact .ub _
 |agg cs vs h h'=>exact .agg _ _ h h'
 |bu cs vs h h'=>exact .bu _ _ h h'
 |z=>exact .z
 |yl i l h=>exact .yl _ _ h
 |E3 i v h hv=>exact .E3 _ _ h hv
 |kf a c=>exact .kf _ _
 |sc es n a h=>exact .sc _ _ _ h
 |sl es n b o cap us h1 h2 C J O U X=>exact .sl _ _ _ _ _ _ h1 h2 C J O U X
 |pt cs b o us h1 h2 C J O=>exact .pt _ _ _ _ h1 h2 C J O
 |nW i off n v h hv=>exact .nW _ _ _ _ h hv
 |lH i a h=>exact .lH _ _ h
 |mK i off a b o len room sz h=>exact .mK _ _ _ _ _ _ _ _ h
 |rs i off n cap b o len room sz h h1 h2 C J=>exact .rs _ _ _ _ _ _ _ _ _ h h1 h2 C J
 |uN i off v h hv=>exact .uN _ _ _ h hv
 |rp i off b o len room sz h=>exact .rp _ _ _ _ _ _ _ h
 |Co i v h hv=>exact .Co _ _ h hv
 |mp i r h=>exact .mp _ _ h
 |im es r ms c h1 h2 C J O U X=>exact .im _ _ _ _ h1 h2 C J O U X
 |fn f fs cs us vs h1 h2 C J=>exact .fn _ _ _ _ _ h1 h2 C J
def aem(h:plain x=true):x.oneCell'=true:=by cases x<;>simp_all[plain,Value.oneCell']
def R.one{d:D}(h:R F β w d v)(hd:d.one=true):v.oneCell'=true:=by
 cases h<;>first|rfl|assumption|(simp[D.one] at hd;done)|(exact aem ‹_›)
def R.cells{d:D}(h:R F β w d v)(hd:d.cells.all D.one=true):v.cells.size=d.cells.length/\(∀ (k:Nat) (e:D) (u:Value),d.cells[k]? =some e->v.cells[k]? =some u->R F β w e u/\u.oneCell'=true)/\(∀ u∈v.cells.toList,u.oneCell'=true):=by
 have single:d.cells=[d]->v.cells.size=d.cells.length/\(∀ (k:Nat) (e:D) (u:Value),d.cells[k]? =some e->v.cells[k]? =some u->R F β w e u/\u.oneCell'=true)/\(∀ u∈v.cells.toList,u.oneCell'=true):=λhs=>by
  have h1:d.one=true:=by simpa[hs] using hd
  have h2:=h.one h1;have J:v.cells= #[v]:=by cases v<;>first|rfl|(simp[Value.oneCell'] at h2;done)
  rw[J,hs];refine⟨rfl,λk e u hk hu=>?_,λu hu=>?_⟩
  .cases k with
   |zero=>simp at hk hu;subst hk;subst hu;exact⟨h,h2⟩
   |succ k=>simp at hk
  .simp at hu;subst hu;exact h2
 cases d with
 |agg cs=>
  obtain⟨vs,rfl,hl,hr⟩:=h.ua
  have C:∀ (k:Nat) (u:Value),vs[k]? =some u->u.oneCell'=true:=λk u hu=>by
   have hk:k<cs.length:=by
    have:=(bO.1 hu).1;omega
   have h1:=hr k cs[k] u (by simp[hk]) hu;exact h1.one (cm.1 hd _ (dG hk))
  refine⟨by simpa[Value.cells,D.cells] using hl,λk e u hk hu=>?_,λu hu=>?_⟩
  .simp[Value.cells] at hu;exact⟨hr k e u hk hu,C k u hu⟩
  .simp[Value.cells] at hu;let⟨k,hk⟩:=dW hu;exact C k u hk
 |_=>exact single rfl
end inv
variable{env:Env}{a:Act}
section opd
variable{F:Nat->Prop}{β:aN}{w:World}
def Pf(v:Value):R F β w (l0 v) v:=by
 unfold l0;split<;>first|exact .u _|exact .s _ rfl|exact .z
def aj2(v:Value):R F β w (AH v) v:=by
 unfold AH;split
 .rename_i cs
  have:=R.agg (F:=F) (β:=β) (w:=w) (cs.toList.map l0) cs.toList oS (λk d u hk hu=>by
   simp[getElem?_map,hu,Option.map_some,aY] at hk;subst hk
   exact Pf u)
  simpa using this
 all_goals first|exact .u _|exact .s _ rfl|exact .z
def gq(F:Nat->Prop)(β:aN)(w:World)(env:Env)(a:Act):Prop:=∀ t,R F β w (env t) (a.tmps.getD t undef)
def gq.opd(h:gq F β w env a)(x:Operand):R F β w (opd env x) (a.eval x):=by
 cases x with
 |tmp t=>exact h t
 |const v=>exact aj2 v
 |global g=>exact .u _
 |func f=>exact .fn (.func f) [] [] [] [] rfl rfl oS oS
def gq.step{β':aN}{w':World}(h:gq F β w env a)(hs:Step β w β' w'):gq F β' w' env a:=λt=>(h t).step hs
def gq.put(h:gq F β w env a)(dst:Option Nat)(d:D)(v:Value)(hr:R F β w d v)(hd:∀ t,dst=some t->t<a.tmps.size):
 gq F β w (match dst with|some t=>up env t d|none=>env) (a.put dst v):=by
 cases dst with
 |none=>exact h
 |some t=>
  intro j;have ht:=hd t rfl;by_cases hj:j=t
  .subst hj;simp[ap,Act.put];simpa[Array.getD_eq_getD_getElem?,ht] using hr
  .simp[aW _ _ hj,Act.put];have:=h j;simpa[Array.getD_eq_getD_getElem?,Array.getElem?_setIfInBounds_ne (Ne.symm hj)] using this
end opd
variable{t:TypeId}
section types
variable{P:Program}(w:World)
def tV(h:aT P t=true):∃ i d z,P.info? t=some i/\P.underlying t=some d/\i.zero=some z/\(bM P t=false->P.cellsOf t=1)/\z.cells.size=P.cellsOf t/\
 bm P t=z.cells.toList.map l0/\i.size=P.cellsOf t/\i.bytes=P.bytesOf t/\(∀ u∈z.cells.toList,(l0 u).one=true):=by
 unfold aT at h;simp only[aH,Bool.or_eq_true,beq_iff_eq] at h;let⟨⟨h1,h2⟩,C⟩:=h;let⟨d,hd⟩:=Option.isSome_iff_exists.1 h1;cases hi:P.info? t with
 |none=>simp[hi] at C
 |some i=>
  cases hz:i.zero with
  |none=>simp[hi,hz] at C
  |some z=>
   simp only[hi,hz,Option.bind_some,aH,beq_iff_eq,cm] at C;refine⟨i,d,z,rfl,hd,hz,λha=>?_,C.2,?_,?_,?_,C.1⟩
   .rcases h2 with h2|h2
    .rw[h2] at ha;cases ha
    .exact h2
   .simp[bm,hi,hz]
   .simp[Program.cellsOf,hi]
   .simp[Program.bytesOf,hi]
def F8(h:(P.underlying t).isSome=true):(isAgg t).run P w=.ok (bM P t) w:=by
 let⟨d,hd⟩:=Option.isSome_iff_exists.1 h;simp[isAgg,Sem.run_bind,run_underlying hd,Result.andThen_ok,bM,hd];cases d<;>rfl
def ix(h:(P.info? t).isSome=true):(sizeOf t).run P w=.ok (P.cellsOf t) w:=by
 let⟨i,hi⟩:=Option.isSome_iff_exists.1 h;simp[sizeOf,typeInfo,Program.cellsOf,hi]
def iV(h:aT P t=true):(P.info? t).isSome=true:=by
 let⟨i,_,_,hi,_⟩:=tV h;simp[hi]
def DA(h:aT P t=true):(P.underlying t).isSome=true:=by
 let⟨_,d,_,_,hd,_⟩:=tV h;simp[hd]
def A'(h:aT P t=true):∃ z,(zeroValue t).run P w=.ok z w/\z.cells.size=P.cellsOf t/\bm P t=z.cells.toList.map l0/\(∀ u∈z.cells.toList,(l0 u).one=true):=by
 let⟨i,d,z,hi,_,hz,_,h1,h2,_,_,C⟩:=tV h;exact⟨z,by simp[zeroValue,typeInfo,hi,hz],h1,h2,C⟩
def ku(h:bE P t=true):P.underlying t=some (.slice (aK P t))/\aT P (aK P t)=true:=by
 unfold bE at h;unfold aK;split at h
 .rename_i e he;rw[he];exact⟨rfl,h⟩
 .cases h
def N6(h:qA P t=true):P.underlying t=some (.array (rB P t) (aK P t))/\aT P (aK P t)=true:=by
 unfold qA at h;unfold aK rB;split at h
 .rename_i e he;rw[he];exact⟨rfl,h⟩
 .cases h
def zz(h:gR P t=true):P.underlying t=some .string:=by
 unfold gR at h;split at h
 .assumption
 .cases h
end types
end
section
def a7(P:Program)(F:Nat->Prop)(m:Mem)(nx:Nat)(β:aN)(w:World)(e:ez)(s:Sem Next):Prop:=
 ∃ n v w' β',s.run P w=.ok n w'/\(n=.value v\/(n=.skip/\v=undef))/\R F β' w' e.val v/\aQ P F (cT m e.bn) β' w'/\Step β w β' w'/\∀ i,β i=none->(i<nx\/nx+e.new<=i)->β' i=none
variable{pre:Prop}{d:D}{b o:Nat}{cs:List D}{e:TypeId}{v:Value}{t:TypeId}{off:Nat}{xs:List D}
section
variable{P:Program}{F:Nat->Prop}{m:Mem}{nx:Nat}{β:aN}{w:World}
def a7.pure(hm:aQ P F m β w){rd:List Nat}{s:Sem Value}{v:Value}(hr:s.run P w=.ok v w)(h:R F β w d v):
 a7 P F m nx β w { pre:=pre,val:=d,rd:=rd } (do Pure.pure (Next.value (<- s))):=
 ⟨.value v,v,w,β,by simp[hr],.inl rfl,h,hm,Step.refl β w,λ_ h _=>h⟩
def Rd(F:Nat->Prop)(β:aN)(w:World)(b o:Nat)(cs:List D):Prop:=
 ∃ us:Nat->Value,(∀ k:Nat,k<cs.length->w.cell? ⟨b,o+k,none⟩=some (us k)/\(us k).oneCell'=true)/\∀ (k:Nat) (d:D),cs[k]? =some d->R F β w d (us k)
def Rd.drop(h:Rd F β w b o cs)(k:Nat):Rd F β w b (o+k) (cs.drop k):=by
 let⟨us,h1,h2⟩:=h;refine⟨λj=>us (k+j),λj hj=>?_,λj d hj=>?_⟩
 .have:=h1 (k+j) (by simp at hj;omega);rw[<- Nat.add_assoc] at this;exact this
 .exact h2 (k+j) d (by simpa[getElem?_drop] using hj)
def Rd.take{cs:List D}(h:Rd F β w b o cs)(k:Nat):Rd F β w b o (cs.take k):=by
 let⟨us,h1,h2⟩:=h;refine⟨us,λj hj=>h1 j (by simp at hj;omega),λj d hj=>h2 j d ?_⟩;rw[getElem?_take] at hj;split at hj
 .exact hj
 .cases hj
def dA.rd{len room sz:Nat}(h:dA P F β w (.cells cs e) (.cells b o len room sz)):Rd F β w b o cs/\len=cs.length/\sz=P.cellsOf e/\len<=room:=by
 cases h with
 |cells _ _ _ _ _ _ c hc hr hlen bZ hh=>
  refine⟨⟨λk=>(c[o+k]?).getD undef,λk hk=>?_,λk d hk=>?_⟩,rfl,bZ,hlen⟩
  .have:o+k<c.size:=by omega
   let⟨v,h1,_,C⟩:=hh k cs[k] (by simp[hk]);exact⟨by simp[World.cell?,hc,h1],by simpa[h1] using C⟩
  .let⟨v,h1,h2,_⟩:=hh k d hk;simpa[h1] using h2
def R.GW(h:R F β w (.pt cs) v):∃ b o,v=.pointer (some ⟨b,o,none⟩)/\¬ F b/\β.free b/\b<w.heap.size/\Rd F β w b o cs:=by
 cases h with|pt _ b o us h1 h2 h3 h4 h5=>exact⟨b,o,rfl,h1,h2,h3,us,h4,h5⟩
def R.YG(h1:¬ F b)(h2:β.free b)(C:b<w.heap.size)(h:Rd F β w b o cs):R F β w (.pt cs) (.pointer (some ⟨b,o,none⟩)):=by
 let⟨us,J,O⟩:=h;exact .pt cs b o us h1 h2 C J O
def R.Kv(hm:aQ P F m β w){i off:Nat}(h:R F β w (.rp i off) v)(hi:m i=some (.cells cs e)):
 ∃ b o room sz,β i=some (.cells b o cs.length room sz)/\v=.pointer (some ⟨b,o+off,none⟩)/\dA P F β w (.cells cs e) (.cells b o cs.length room sz):=by
 let⟨p,hp,an⟩:=hm.row i _ hi;cases h with
 |uN _ _ _ h _=>
  rw[h] at hp;cases hp;cases an
 |rp _ _ b o len room sz h=>
  rw[h] at hp;cases hp;let⟨_,h2,_,_⟩:=an.rd;subst h2;exact⟨b,o,room,sz,h,rfl,an⟩
def I4(ht:aT P t=true)(h:Rd F β w b o cs)(hl:P.cellsOf t<=cs.length):
 ∃ v,(loadVar t ⟨b,o,none⟩).run P w=.ok v w/\R F β w (lz P t cs) v:=by
 let⟨us,h1,h2⟩:=h;let⟨i,d,z,hi,hd,hz,C,_⟩:=tV ht;unfold loadVar lz;simp[Sem.run_bind,F8 w (DA ht),Result.andThen_ok];cases ha:bM P t with
 |true=>
  have hc:=run_loadCells (P:=P) w ⟨b,o,none⟩ (P.cellsOf t) us (λj hj=>by rw[Addr.add_lit];exact(h1 j oG).1);refine⟨_,by simp[ix w (iV ht),hc];rfl,?_⟩;refine .agg _ _ oP λk d v hk hv=>?_;simp[getElem?_map] at hv;rw[getElem?_take] at hk;split at hk
  .rename_i al;have:(range (P.cellsOf t))[k]? =some k:=by simp[al]
   rw[this] at hv;simp at hv;subst hv;exact h2 k d hk
  .cases hk
 |false=>
  have J:=C ha;have h0:=(h1 0 oG).1;rw[Nat.add_zero] at h0;refine⟨us 0,by simp[h0],?_⟩;cases cs with
  |nil=>simp at hl;omega
  |cons d ds=>exact h2 0 d rfl
def ac3(hm:aQ P F m β w)(h:R F β w (.pt cs) v)(ht:aT P t=true)(hl:P.cellsOf t<=cs.length):
 a7 P F m nx β w { pre:=pre,val:=lz P t cs } (do Pure.pure (Next.value (<- Instr.loadAt t v))):=by
 obtain⟨b,o,rfl,_,_,_,C⟩:=h.GW;let⟨u,hu,hr⟩:=I4 ht C hl;exact a7.pure hm (by simp[Instr.loadAt,Instr.sureAddr,hu]) hr
def ac4(hm:aQ P F m β w){i:Nat}{rd:List Nat}(h:R F β w (.rp i off) v)(hi:m i=some (.cells cs e))
 (ht:aT P t=true) (hl:off+P.cellsOf t<=cs.length):
 a7 P F m nx β w { pre:=pre,val:=lz P t (cs.drop off),rd:=rd } (do Pure.pure (Next.value (<- Instr.loadAt t v))):=by
 obtain⟨b,o,room,sz,C,rfl,an⟩:=h.Kv hm hi;let⟨u,hu,hr⟩:=I4 ht (an.rd.1.drop off) oP;exact a7.pure hm (by simp[Instr.loadAt,Instr.sureAddr,hu]) hr
def NF(h:off+xs.length<=cs.length):fJ cs off xs=cs.take off++xs++cs.drop (off+xs.length):=by
 unfold fJ;split
 .rename_i x;simp at h;rw[set_eq_take_append_cons_drop,bi oG];simp
 .rfl
def MO{cs:List D}{off:Nat}{xs:List D}(h:off+xs.length<=cs.length):(fJ cs off xs).length=cs.length:=by
 rw[NF h];simp;omega
def T7(h:off+xs.length<=cs.length)(k:Nat):(fJ cs off xs)[k]? =if k<off then cs[k]? else if k<off+xs.length then xs[k - off]? else cs[k]? :=by
 rw[NF h];by_cases h1:k<off
 .rw[bi h1,append_assoc,getElem?_append_left oP,getElem?_take,bi h1]
 .rw[ai h1];by_cases h2:k<off+xs.length
  .rw[bi h2,append_assoc,getElem?_append_right oP,length_take,Nat.min_eq_left oG,getElem?_append_left oG]
  .rw[ai h2,getElem?_append_right oP,length_append,length_take,Nat.min_eq_left oG,getElem?_drop];congr 1;omega
def I6(c:List Value)(off:Nat)(xs:List Value)(h:off+xs.length<=c.length)(k:Nat):(c.take off++xs++c.drop (off+xs.length))[k]? =if k<off then c[k]? else if k<off+xs.length then xs[k - off]? else c[k]? :=by
 by_cases h1:k<off
 .rw[bi h1,append_assoc,getElem?_append_left oP,getElem?_take,bi h1]
 .rw[ai h1];by_cases h2:k<off+xs.length
  .rw[bi h2,append_assoc,getElem?_append_right oP,length_take,Nat.min_eq_left oG,getElem?_append_left oG]
  .rw[ai h2,getElem?_append_right oP,length_append,length_take,Nat.min_eq_left oG,getElem?_drop];congr 1;omega
def MU(hm:aQ P F m β w){i off:Nat}{room sz:Nat}(hβ:β i=some (.cells b o cs.length room sz))(an:dA P F β w (.cells cs e) (.cells b o cs.length room sz))
 {ds:List D} {vs:List Value} (hlen:vs.length=ds.length) (ql:off+ds.length<=cs.length) (h1:∀ u∈vs,u.oneCell'=true) (hr:∀ (k:Nat) (d:D) (u:Value),ds[k]? =some d->vs[k]? =some u->R F β w d u):
 ∃ w',(storeCells ⟨b,o+off,none⟩ vs).run P w=.ok () w'/\aQ P F (up m i (some (.cells (fJ cs off ds) e))) β w'/\Step β w β w':=by
 cases an with
 |cells _ _ _ _ _ _ c hc wg hle bZ hh=>
 have U:=run_storeCells_at P b (o+off) e vs 0 c w hc oG h1;simp only[Nat.add_zero] at U;have zT:=setRow_heap w b c (c.toList.take (o+off)++vs++c.toList.drop (o+off+vs.length)).toArray e (0,0) hc
 have hs:Step β w β (w.setRow b (c.toList.take (o+off)++vs++c.toList.drop (o+off+vs.length)).toArray):=
  Dk hm hβ rfl oS λk hk=>setRow_other w b k _ hk
 refine⟨_,U,hm.write hβ rfl oS (λk hk=>setRow_other w b k _ hk) _ ?_,hs⟩;have hl:=MO (cs:=cs) (off:=off) (xs:=ds) oG
 have KY:(c.toList.take (o+off)++vs++c.toList.drop (o+off+vs.length)).toArray.size=c.size:=by
  simp only[size_toArray,length_append,length_take,length_drop,Array.length_toList];omega
 have key:=dA.cells (P:=P) (F:=F) (β:=β) (w:=w.setRow b (c.toList.take (o+off)++vs++c.toList.drop (o+off+vs.length)).toArray) (fJ cs off ds) e b o room sz _ zT (by rw[KY];exact wg) oG bZ (λk d hk=>by
  rw[T7 oG] at hk;have hv:=I6 c.toList (o+off) vs oP (o+k);simp only[getElem?_toArray];by_cases h2:k<off
  .rw[bi h2] at hk;rw[bi oG] at hv;let⟨u,C,J,O⟩:=hh k d hk;exact⟨u,by rw[hv];simpa using C,J.step hs,O⟩
  .rw[ai h2] at hk;rw[ai oG] at hv;by_cases X:k<off+ds.length
   .rw[bi X] at hk;rw[bi oG] at hv;have al:k - off<vs.length:=by omega
    refine⟨vs[k - off],by rw[hv,show o+k - (o+off)=k - off from by omega];simp[al],?_,h1 _ (dG al)⟩;exact(hr (k - off) d vs[k - off] hk (by simp[al])).step hs
   .rw[ai X] at hk;rw[ai oG] at hv;let⟨u,C,J,O⟩:=hh k d hk
    exact⟨u,by rw[hv];simpa using C,J.step hs,O⟩)
 rw[hl] at key;exact key
def aen(hm:aQ P F m β w){i:Nat}{a x:Value}{rd:List Nat}(h:R F β w (.rp i off) a)(hx:R F β w d x)(hi:m i=some (.cells cs e))
 (ht:aT P t=true) (hlen:d.cells.length=P.cellsOf t) (hl:off+P.cellsOf t<=cs.length) (h1:d.cells.all D.one=true):
 a7 P F m nx β w { pre:=pre,val:=.bu [],bn:=[(i,some (.cells (fJ cs off d.cells) e))],rd:=rd } (do Instr.storeAt t a x;Pure.pure Next.skip):=by
 obtain⟨b,o,room,sz,U,rfl,an⟩:=h.Kv hm hi;let⟨J,O,c3⟩:=hx.cells h1;let⟨w',C,X,hs⟩:=MU (P:=P) hm U an (off:=off) (ds:=d.cells) (vs:=x.cells.toList) (tn J) oG c3 (λk d' u hk hu=>(O k d' u hk (tn hu)).1);refine⟨.skip,undef,w',β,?_,.inr ⟨rfl,rfl⟩,.bu [] [] rfl oS,X,hs,λ_ h _=>h⟩;have bZ:x.cells.size=P.cellsOf t:=by omega
 simp[Instr.storeAt,Instr.sureAddr,storeVar,ix w (iV ht),bZ,C]
def GC(hm:aQ P F m β w)(hn:β nx=none){cs:List D}{c:List Value}{e:TypeId}(hl:c.length=cs.length)(h1:∀ (k:Nat) (d:D) (u:Value),cs[k]? =some d->c[k]? =some u->R F β w d u/\u.oneCell'=true)(C:List Value):
 aQ P F (up m nx (some (.cells cs e))) (up β nx (some (.cells w.heap.size 0 cs.length (cs.length+C.length) (P.cellsOf e)))) (w.alloc (.cells (c++C).toArray e))/\
 Step β w (up β nx (some (.cells w.heap.size 0 cs.length (cs.length+C.length) (P.cellsOf e)))) (w.alloc (.cells (c++C).toArray e)):=by
 have hs:=Dj hm (.cells (c++C).toArray e) hn (.cells w.heap.size 0 cs.length (cs.length+C.length) (P.cellsOf e)) (λb hb=>by simp[Pl.blk] at hb;exact hb.symm);refine⟨hm.alloc hn _ _ _ (λb hb=>by simp[Pl.blk] at hb;exact hb.symm) ?_,hs⟩;refine .cells cs e w.heap.size 0 _ _ (c++C).toArray (heap_alloc_new w _) oP oG rfl λk d hk=>?_;have U:k<cs.length:=(bO.1 hk).1;have J:k<c.length:=by omega
 let⟨h2,O⟩:=h1 k d c[k] hk (by simp[J]);refine⟨c[k],?_,h2.step hs,O⟩;rw[Nat.zero_add,getElem?_toArray,getElem?_append_left J];simp[J]
def zA{p:Pl}:∀ i,β i=none->(i<nx\/nx+1<=i)->up β nx (some p) i=none:=λi h hi=>by
 rw[aW _ _ oG];exact h
def F9(t:TypeId)(v:Value):(newVar t v).run P w=.ok ⟨w.heap.size,0,none⟩ (w.alloc (.cells v.cells t)):=by
 simp[newVar,newRow]
def ahR(hm:aQ P F m β w)(hn:β nx=none)(h:R F β w d v)(h1:d.cells.all D.one=true):
 a7 P F m nx β w { pre:=pre,val:=.rp nx 0,bn:=[(nx,some (.cells d.cells t))],new:=1 } (do Pure.pure (Next.value (<- Instr.box t v))):=by
 let⟨J,O,c3⟩:=h.cells h1;let⟨h2,C⟩:=GC hm hn (cs:=d.cells) (c:=v.cells.toList) (e:=t) (tn J) (λk e u hk hu=>O k e u hk (tn hu)) [];simp[append_nil,Array.toArray_toList] at h2 C;refine⟨_,_,_,_,by simp[Instr.box,F9];rfl,.inl rfl,?_,h2,C,zA⟩;exact .rp nx 0 w.heap.size 0 _ _ _ s3
def BB{z:Value}(hz:bm P t=z.cells.toList.map l0)(C:∀ u∈z.cells.toList,(l0 u).one=true):
 z.cells.toList.length=(bm P t).length/\∀ (k:Nat) (d:D) (u:Value),(bm P t)[k]? =some d->z.cells.toList[k]? =some u->R F β w d u/\u.oneCell'=true:=by
 rw[hz];refine⟨oS,λk d u hk hu=>?_⟩;rw[getElem?_map,hu] at hk;simp[Option.map_some,aY] at hk;subst hk;have:=Pf (F:=F) (β:=β) (w:=w) u;exact⟨this,this.one (C u (cL hu))⟩
def aeo(hm:aQ P F m β w)(hn:β nx=none)(ht:aT P t=true):
 a7 P F m nx β w { pre:=pre,val:=.rp nx 0,bn:=[(nx,some (.cells (bm P t) t))],new:=1 } (do Pure.pure (Next.value (<- Instr.alloc t true (.tuple #[])))):=by
 let⟨z,hz,_,X,h4⟩:=A' (P:=P) w ht;let⟨O,U⟩:=BB (F:=F) (β:=β) (w:=w) X h4;let⟨C,J⟩:=GC hm hn (cs:=bm P t) (c:=z.cells.toList) (e:=t) O U [];simp[append_nil,Array.toArray_toList] at C J;refine⟨_,_,_,_,by simp[Instr.alloc,hz,F9];rfl,.inl rfl,?_,C,J,zA⟩;exact .rp nx 0 w.heap.size 0 _ _ _ s3
end
end
section
variable{t:TypeId}{ps:List (Nat×D)}{cs':List D}{pre:Prop}{n:Nat}
section
variable{P:Program}{F:Nat->Prop}{m:Mem}{nx:Nat}{β:aN}{w:World}
def Rl(F:Nat->Prop)(β:aN)(w:World)(cs:List D)(c:List Value):Prop:=
 c.length=cs.length/\∀ (k:Nat) (d:D) (u:Value),cs[k]? =some d->c[k]? =some u->R F β w d u/\u.oneCell'=true
def Ut(off:Nat):∀ (l:List Value) (j:Nat) (cells:Array Value) (k:Nat),off+j+l.length<=cells.size->
 ((l.zipIdx j).foldl (λcs (c,j)=>cs.setIfInBounds (off+j) c) cells)[k]? =if k<off+j then cells[k]? else if k<off+j+l.length then l[k - (off+j)]? else cells[k]?
 |[],j,cells,k,_=>by
  simp only[zipIdx_nil,foldl_nil,length_nil,Nat.add_zero];split
  .rfl
  .rfl
 |v::l,j,cells,k,h=>by
  simp only[zipIdx_cons,foldl_cons];simp at h;rw[Ut off l (j+1) _ k oP];simp only[length_cons];by_cases h1:k<off+j
  .rw[bi oG,bi h1,Array.getElem?_setIfInBounds_ne oG]
  .rw[ai h1];by_cases h2:k=off+j
   .subst h2;rw[bi oG,bi oG];have:off+j<cells.size:=by omega
    simp[this]
   .rw[ai oG];by_cases C:k<off+(j+1)+l.length
    .rw[bi C,bi oG,show k - (off+j)=(k - (off+(j+1)))+1 from by omega];simp
    .rw[ai C,ai oG,Array.getElem?_setIfInBounds_ne oG]
def ac5(off:Nat)(l:List Value)(cells:Array Value)(h:off+l.length<=cells.size):
 (l.zipIdx.foldl (λcs (c,j)=>cs.setIfInBounds (off+j) c) cells).toList=cells.toList.take off++l++cells.toList.drop (off+l.length):=by
 apply ext_getElem?;intro k;rw[I6 _ _ _ (tn h) k];have:=Ut off l 0 cells k (tn h);simpa using this
def Ky(place:Nat->Option (Nat×Nat)):∀ (ps:List (Nat×D)) (C:List (Nat×Value)) (cs:List D) (c:Array Value) (cs':List D),Rl F β w cs c.toList->ps.length=C.length->
 (∀ (k:Nat) (p:Nat×D) (q:Nat×Value),ps[k]? =some p->C[k]? =some q->p.1=q.1/\R F β w p.2 q.2)->lA place cs ps=some cs'->∃ c',Instr.fill place c C=some c'/\Rl F β w cs' c'.toList
 |[],[],cs,c,cs',h,_,_,hf=>by
  simp only[lA,aY] at hf;subst hf;exact⟨c,rfl,h⟩
 |[],_::_,_,_,_,_,hl,_,_=>by simp at hl
 |_::_,[],_,_,_,_,hl,_,_=>by simp at hl
 |(i,d)::ps,(i',v)::C,cs,c,cs',h,hl,hp,hf=>by
  let⟨h1,h2⟩:=hp 0 _ _ rfl rfl;simp only at h1 h2;subst h1;simp only[lA] at hf;cases X:place i with
  |none=>simp[X] at hf
  |some q=>
   let⟨off,size⟩:=q;simp only[X] at hf;split at hf
   .rename_i hc;let⟨yW,sR,U⟩:=hc;let⟨k1,k2,k3⟩:=h2.cells U;have dh:=h.1;simp at dh
    have J:¬ (v.cells.size≠size||off+v.cells.size>c.size)=true:=by
     simp;omega
    simp only[Instr.fill,X];rw[ai J];have O:=ac5 off v.cells.toList c oP
    have pA:v.cells.zipIdx.foldl (λcs (c,j)=>cs.setIfInBounds (off+j) c) c=(v.cells.toList.zipIdx.foldl (λcs (c,j)=>cs.setIfInBounds (off+j) c) c):=by
     rw[<- Array.foldl_toList];simp
    rw[pA];refine Ky place ps C (fJ cs off d.cells) _ cs' ?_ (tn hl) (λk p q hk hq=>hp (k+1) p q hk hq) hf;rw[O];refine⟨?_,λk e u hk hu=>?_⟩
    .rw[MO oG];simp;omega
    .rw[T7 oG] at hk;rw[I6 _ _ _ oP] at hu;simp only[Array.length_toList] at hu;by_cases g1:k<off
     .rw[bi g1] at hk hu;exact h.2 k e u hk hu
     .rw[ai g1] at hk hu;by_cases g2:k<off+d.cells.length
      .rw[bi g2] at hk;rw[bi oG] at hu;exact k2 (k - off) e u hk (tn hu)
      .rw[ai g2] at hk;rw[ai oG] at hu;exact h.2 k e u hk hu
   .cases hf
def Vu(z:List D)(hz:0<z.length):∀ (n k:Nat),k<n*z.length->(dp n z)[k]? =z[k % z.length]?
 |0,k,h=>by simp at h
 |n+1,k,h=>by
  have e:dp (n+1) z=z++dp n z:=by simp[dp,replicate_succ]
  rw[e];by_cases hk:k<z.length
  .rw[getElem?_append_left hk,Nat.mod_eq_of_lt hk]
  .rw[getElem?_append_right oG,Vu z hz n (k - z.length) (by rw[Nat.add_mul] at h;omega)];rw[<- Nat.mod_eq_sub_mod oG]
def F1(n:Nat)(z:List D):(dp n z).length=n*z.length:=by
 simp[dp,length_flatten]
def OK{z:Value}(hs:z.cells.size=P.cellsOf t)(hz:bm P t=z.cells.toList.map l0)(oV:∀ u∈z.cells.toList,(l0 u).one=true)(n N:Nat)(J:N=n*P.cellsOf t)(zero:Array Value)(hzero:0<N->zero=z.cells):
 Rl F β w (dp n (bm P t)) ((Array.range N).map (zero[· % zero.size]!)).toList:=by
 let⟨O,U⟩:=BB (F:=F) (β:=β) (w:=w) hz oV;have hlen:(bm P t).length=P.cellsOf t:=by rw[<- O];simpa using hs
 refine⟨by simp[F1,hlen,J],λk d u hk hu=>?_⟩
 have al:k<N:=by
  have:=(bO.1 hk).1;rw[F1,hlen] at this;omega
 have X:0<N:=by omega
 have C:=hzero X;subst C
 have h0:0<P.cellsOf t:=by
  rcases Nat.eq_zero_or_pos (P.cellsOf t) with h|h
  .rw[h] at J;omega
  .exact h
 rw[Vu _ oG n k (by rw[hlen];omega),hlen] at hk;simp[al] at hu;have hm:k % P.cellsOf t<z.cells.size:=by rw[hs];exact Nat.mod_lt _ h0
 apply U (k % P.cellsOf t) d u hk;rw[<- hu,hs];simp[hm]
def acj(hm:aQ P F m β w){fs:Array Field}{C:Array (Nat×Value)}(ht:aT P t=true)(hu:P.underlying t=some (.struct fs))(O:fs.toList.all (λf=>(P.info? f.type).isSome)=true)
 (hl:ps.length=C.size) (hp:∀ (k:Nat) (p:Nat×D) (q:Nat×Value),ps[k]? =some p->C[k]? =some q->p.1=q.1/\R F β w p.2 q.2)
 (hf:lA (λi=>(fs[i]?).map λf=>(f.offset,P.cellsOf f.type)) (bm P t) ps=some cs'):
 a7 P F m nx β w { pre:=pre,val:=.agg cs' } (do Pure.pure (Next.value (<- Instr.build t C))):=by
 let⟨z,hz,lN,h3,h4⟩:=A' (P:=P) w ht;let⟨U,X⟩:=BB (F:=F) (β:=β) (w:=w) h3 h4
 have J:(fs.mapM λf=>(do pure (f.offset, <- sizeOf f.type):Sem (Nat×Nat))).run P w=.ok (fs.map λf=>(f.offset,P.cellsOf f.type)) w:=by
  rw[Array.mapM_eq_mapM_toList]
  have key:∀ l:List Field,l.all (λf=>(P.info? f.type).isSome)=true->(l.mapM λf=>(Prod.mk f.offset<$>sizeOf f.type:Sem (Nat×Nat))).run P w=.ok (l.map λf=>(f.offset,P.cellsOf f.type)) w:=by
   intro l
   induction l with
   |nil=>intro _;simp
   |cons f l ih=>
    intro hl;simp only[all_cons,aH] at hl;simp[mapM_cons,ix w hl.1,ih hl.2]
  simp[key fs.toList O, <- Array.toList_map]
 let⟨c',zW,hR⟩:=Ky (F:=F) (β:=β) (w:=w) (λi=>(fs.map λf=>(f.offset,P.cellsOf f.type))[i]?) ps C.toList (bm P t) z.cells cs' ⟨U,X⟩ (tn hl) (λk p q hk hq=>hp k p q hk (tn hq)) (by
  rw[<- hf];congr 1;funext i
  simp[Array.getElem?_map])
 refine a7.pure hm (v:=.agg c') ?_ ?_
 .simp only[Instr.build,Sem.run_bind,hz,Result.andThen_ok,run_underlying hu,J,zW,Sem.run_pure]
 .have:=R.agg (F:=F) (β:=β) (w:=w) cs' c'.toList hR.1 (λk d v hk hv=>(hR.2 k d v hk hv).1);simpa using this
def acr(hm:aQ P F m β w){e:TypeId}{C:Array (Nat×Value)}(ht:aT P t=true)(hu:P.underlying t=some (.array n e))(he:aT P e=true)
 (hl:ps.length=C.size) (hp:∀ (k:Nat) (p:Nat×D) (q:Nat×Value),ps[k]? =some p->C[k]? =some q->p.1=q.1/\R F β w p.2 q.2)
 (hf:lA (λi=>some (i*P.cellsOf e,P.cellsOf e)) (bm P t) ps=some cs'):
 a7 P F m nx β w { pre:=pre,val:=.agg cs' } (do Pure.pure (Next.value (<- Instr.build t C))):=by
 let⟨z,hz,lN,U,X⟩:=A' (P:=P) w ht;let⟨J,O⟩:=BB (F:=F) (β:=β) (w:=w) U X;let⟨c',zW,hR⟩:=Ky (F:=F) (β:=β) (w:=w) _ ps C.toList (bm P t) z.cells cs' ⟨J,O⟩ (tn hl) (λk p q hk hq=>hp k p q hk (tn hq)) hf;refine a7.pure hm (v:=.agg c') ?_ ?_
 .simp[Instr.build,Sem.run_bind,hz,Result.andThen_ok,run_underlying hu,ix w (iV he),zW,Sem.run_pure]
 .have:=R.agg (F:=F) (β:=β) (w:=w) cs' c'.toList hR.1 (λk d v hk hv=>(hR.2 k d v hk hv).1);simpa using this
def acw(hm:aQ P F m β w)(hn:β nx=none){C:Array (Nat×Value)}(ht:bE P t=true)(h24:n*P.cellsOf (aK P t)<=2 ^ 24)(eu:n<=maxLen)
 (hl:ps.length=C.size) (hp:∀ (k:Nat) (p:Nat×D) (q:Nat×Value),ps[k]? =some p->C[k]? =some q->p.1=q.1/\R F β w p.2 q.2)
 (hf:lA (λi=>some (i*P.cellsOf (aK P t),P.cellsOf (aK P t))) (dp n (bm P (aK P t))) ps=some cs'):
 a7 P F m nx β w { pre:=pre,val:=.rs nx 0 n,bn:=[(nx,some (.cells cs' (aK P t)))],new:=1 } (do Pure.pure (Next.value (<- Instr.buildSlice t n C))):=by
 let⟨hu,he⟩:=ku ht;let⟨z,hz,lN,O,h4⟩:=A' (P:=P) w he;have Ih:=OK (F:=F) (β:=β) (w:=w) (P:=P) lN O h4 n (n*P.cellsOf (aK P t)) rfl (if n*P.cellsOf (aK P t)=0 then #[] else z.cells) (λh=>by rw[ai oG]);let⟨c',J,hR⟩:=Ky (F:=F) (β:=β) (w:=w) _ ps C.toList _ _ cs' Ih (tn hl) (λk p q hk hq=>hp k p q hk (tn hq)) hf;let⟨U,X⟩:=GC hm hn (cs:=cs') (c:=c'.toList) (e:=aK P t) hR.1 hR.2 [];simp[append_nil,Array.toArray_toList,length_nil,Nat.add_zero] at U X
 have tO:(if n*P.cellsOf (aK P t)=0 then Result.ok #[] w else Result.ok z.cells w)=.ok (if n*P.cellsOf (aK P t)=0 then #[] else z.cells) w:=by
  split<;>rfl
 have dU:(Instr.buildSlice t n C).run P w=.ok (.slice (some ⟨w.heap.size,0,none⟩) n n) (w.alloc (.cells c' (aK P t))):=by
  unfold Instr.buildSlice;simp[Sem.run_bind,run_underlying hu,Result.andThen_ok,ix w (iV he),Sem.run_ite,ai (show ¬ n*P.cellsOf (aK P t)>2 ^ 24 by omega)];by_cases wS:n*P.cellsOf (aK P t)=0
  .simp[wS,↓reduceIte] at J ⊢;simp[Sem.run_bind,Sem.run_pure,Result.andThen_ok,J];simp[newRow]
  .simp[wS,↓reduceIte] at J ⊢;simp[J,newRow,hz]
 have dh:cs'.length=n*P.cellsOf (aK P t):=by
  have o6:∀ (place:Nat->Option (Nat×Nat)) (ps:List (Nat×D)) (cs cs':List D),lA place cs ps=some cs'->cs'.length=cs.length:=by
   intro place ps
   induction ps with
   |nil=>intro cs cs' h;simp[lA,aY] at h;rw[h]
   |cons p ps ih=>
    intro cs cs' h;let⟨i,d⟩:=p;simp[lA] at h;split at h
    .cases h
    .split at h
     .rename_i hc;rw[ih _ _ h,MO oG]
     .cases h
  rw[o6 _ _ _ _ hf,F1,O];simp[lN]
 refine⟨_,_,_,_,by simp[Sem.run_bind,dU,Result.andThen_ok,Sem.run_pure];rfl,.inl rfl,?_,U,X,zA⟩;exact .rs nx 0 n n w.heap.size 0 _ _ _ s3 (bK _) eu oG oG
def acC(hm:aQ P F m β w)(hn:β nx=none){n:Int}(h0:0<=n)(h1:n<=9223372036854775807)(h2:P.bytesOf (aK P t)*n<=281474976710656)(ht:bE P t=true):
 a7 P F m nx β w { pre:=pre,val:=.rs nx 0 n.toNat,bn:=[(nx,some (.cells (dp n.toNat (bm P (aK P t))) (aK P t)))],new:=1 } (do Pure.pure (Next.value (<- Instr.makeSlice t (.int .i64 n) (.int .i64 n)))):=by
 let⟨hu,he⟩:=ku ht;let⟨i,d,z,hi,hd,hz,_,lN,U,bZ,mM,h4⟩:=tV he;have sQ:(zeroValue (aK P t)).run P w=.ok z w:=by simp[zeroValue,typeInfo,hi,hz]
 have C:=OK (F:=F) (β:=β) (w:=w) (P:=P) lN U h4 n.toNat (n.toNat*P.cellsOf (aK P t)) rfl (if n.toNat*P.cellsOf (aK P t)=0 then #[] else z.cells) (λh=>by rw[ai oG]);generalize hc:((Array.range (n.toNat*P.cellsOf (aK P t))).map ((if n.toNat*P.cellsOf (aK P t)=0 then #[] else z.cells)[· % (if n.toNat*P.cellsOf (aK P t)=0 then #[] else z.cells).size]!))=c at C;let⟨X,h6⟩:=GC hm hn (cs:=dp n.toNat (bm P (aK P t))) (c:=c.toList) (e:=aK P t) C.1 C.2 [];simp only[append_nil,Array.toArray_toList,length_nil,Nat.add_zero] at X h6
 have tO:(if n.toNat*P.cellsOf (aK P t)=0 then Result.ok #[] w else Result.ok z.cells w)=.ok (if n.toNat*P.cellsOf (aK P t)=0 then #[] else z.cells) w:=by
  split<;>rfl
 have J:IntKind.i64.wrap n=n:=Go.IntWalk.i64_in n ⟨oG,h1⟩;have Q1:¬ n<0:=by omega
 have O:¬ (P.bytesOf (aK P t):Int)*n>2 ^ 48:=by omega
 have dU:(Instr.makeSlice t (.int .i64 n) (.int .i64 n)).run P w=.ok (.slice (some ⟨w.heap.size,0,none⟩) n.toNat n.toNat) (w.alloc (.cells c (aK P t))):=by
  unfold Instr.makeSlice
  simp only[Sem.run_bind,run_underlying hu,Result.andThen_ok,asInt,asIntOf,Sem.run_pure,typeInfo,run_program,hi,J,mM,Q1,O,decide_false,Bool.or_false,Bool.false_or,Bool.false_eq_true,if_false,Sem.run_ite,run_askRoom,ix w (iV he),
   show ¬ n>n from by omega]
  by_cases wS:n.toNat*P.cellsOf (aK P t)=0
  .simp only[wS,↓reduceIte] at hc ⊢;simp only[Sem.run_bind,Sem.run_pure,Result.andThen_ok,hc];simp[newRow]
  .simp only[wS,↓reduceIte] at hc ⊢;simp only[Sem.run_bind,Sem.run_pure,sQ,Result.andThen_ok,hc];simp[newRow]
 have hlen:(dp n.toNat (bm P (aK P t))).length=n.toNat*P.cellsOf (aK P t):=by rw[F1,U];simp[lN]
 refine⟨_,_,_,_,by simp only[Sem.run_bind,dU,Result.andThen_ok,Sem.run_pure];rfl,.inl rfl,?_,X,h6,zA⟩;exact .rs nx 0 n.toNat n.toNat w.heap.size 0 _ _ _ s3 (bK _) (by simp only[maxLen];omega) oG oG
end
end
section
variable{d:D}{rd:List Nat}{t:TypeId}{x y:Value}{b:Bool}{op:BinOp}{v:Value}{pre:Prop}{off:Nat}
section
variable{P:Program}{F:Nat->Prop}{m:Mem}{nx:Nat}{β:aN}{w:World}
def a7.val(hm:aQ P F m β w){pre:Prop}{s:Sem Next}{v:Value}(hr:s.run P w=.ok (.value v) w)(h:R F β w d v):a7 P F m nx β w { pre:=pre,val:=d,rd:=rd } s:=
 ⟨.value v,v,w,β,hr,.inl rfl,h,hm,Step.refl β w,λ_ h _=>h⟩
def xv(op:BinOp)(t:TypeId)(x y:Operand)(a b:Value)(h1:∀ u,a≠ .agg u)(h2:a≠ .nilIface):(eqGuard op t x y a b).run P w=.ok () w:=by
 unfold eqGuard;generalize (!(op matches .eql | .neq))=c;cases c
 .cases a<;>first|rfl|exact absurd rfl h2|exact absurd rfl (h1 _)
 .rfl
def NG(h:∀ d,(Op.equalIn (d+1) t x y).run P w=.ok b w):(Op.equal t x y).run P w=.ok b w:=h 9999
def N7(h:(Op.equal t x y).run P w=.ok b w):
 (do pure (Value.bool (<- Op.equal t x y)):Sem Value).run P w=.ok (.bool b) w/\(do pure (Value.bool (!(<- Op.equal t x y))):Sem Value).run P w=.ok (.bool !b) w:=by
 constructor<;>simp[Sem.run_bind,h,Result.andThen_ok,Sem.run_pure]
def af8(op:BinOp)(t:TypeId)(x y v:Value)(p:Prop)(h:qj op x y=some (p,v))(hp:p):(binOp op t x y).run P w=.ok v w:=by
 cases x<;>cases y<;>cases op<;>simp only[qj,aY,cO,reduceCtorEq] at h<;>
  (obtain⟨rfl,rfl⟩:=h)<;>
  first
  |(subst hp;simp[binOp,Op.intArith,Op.intCmp,Op.intBits,ns];done)
  |(obtain⟨rfl,hb⟩:=hp;simp[binOp,Op.intDiv,hb];done)
  |(simp[binOp,Op.shift,show ¬ _<(0:Int) from Int.not_lt.2 hp];done)
  |(simp[binOp,Op.stringOp];done)
def adu{v:Value}{p:Prop}(h:qj op x y=some (p,v)):plain v=true/\(∀ u,x≠ .agg u)/\x≠ .nilIface:=by
 cases x<;>cases y<;>cases op<;>simp only[qj,aY,cO,reduceCtorEq] at h<;>(obtain⟨rfl,rfl⟩:=h)<;>simp[plain]
def af9(hm:aQ P F m β w)(op:BinOp)(t:TypeId)(ox oy:Operand){a b:Value}{p:Prop}(hx:R F β w (.s a) x)(hy:R F β w (.s b) y)(h:qj op a b=some (p,v))(hp:p):
 a7 P F m nx β w { pre:=pre,val:=.s v } ((do eqGuard op t ox oy x y;binOp op t x y)>>=λr=>Pure.pure (Next.value r)):=by
 obtain⟨rfl,_⟩:=hx.cX;obtain⟨rfl,_⟩:=hy.cX;let⟨h1,h2,C⟩:=adu h;refine a7.val hm (v:=v) ?_ (.s v h1);simp[Sem.run_bind,xv op t ox oy x y h2 C,Result.andThen_ok,af8 op t x y v p h hp,Sem.run_pure]
def af'(h:uQ P t=true):P.underlying t=some .bool:=by
 unfold uQ at h;split at h
 .assumption
 .cases h
def aga(h:Cp P t=true):∃ e,P.underlying t=some (.pointer e):=by
 unfold Cp at h;split at h
 .exact⟨_,‹_›⟩
 .cases h
def TK(h:uQ P t=true)(a b:Bool):(binOp .eql t (.bool a) (.bool b)).run P w=.ok (.bool (a==b)) w/\(binOp .neq t (.bool a) (.bool b)).run P w=.ok (.bool !(a==b)) w:=by
 have hu:=af' h;exact N7 (NG λd=>by simp[Op.equalIn,run_underlying hu])
def T8(h:Cp P t=true)(a:Addr):(binOp .eql t (.pointer (some a)) (.pointer none)).run P w=.ok (.bool false) w/\(binOp .neq t (.pointer (some a)) (.pointer none)).run P w=.ok (.bool true) w:=by
 let⟨e,hu⟩:=aga h;exact N7 (NG λd=>by simp[Op.equalIn,run_underlying hu])
def TL(h:bE P t=true)(a:Option Addr)(l c:Nat):(binOp .eql t (.slice a l c) (.slice none 0 0)).run P w=.ok (.bool a.isNone) w/\(binOp .neq t (.slice a l c) (.slice none 0 0)).run P w=.ok (.bool !a.isNone) w:=by
 let⟨hu,_⟩:=ku h;exact N7 (NG λd=>by cases a<;>simp[Op.equalIn,run_underlying hu])
def adv(h:bE P t=true)(a:Option Addr)(l c:Nat):(binOp .eql t (.slice a l c) (.slice none 0 0)).run P w=.ok (.bool a.isNone) w:=(TL h a l c).1
def Us(hm:aQ P F m β w){ox oy:Operand}{a:Option Addr}{l c:Nat}{pre:Prop}{rd:List Nat}(ht:bE P t=true)(h:op=if b then .eql else .neq):
 a7 P F m nx β w { pre:=pre,val:=.s (.bool (a.isNone==b)),rd:=rd } ((do eqGuard op t ox oy (.slice a l c) (.slice none 0 0);binOp op t (.slice a l c) (.slice none 0 0))>>=λr=>Pure.pure (Next.value r)):=by
 let⟨h1,h2⟩:=TL (P:=P) (w:=w) ht a l c;refine a7.val hm (v:=.bool (a.isNone==b)) ?_ (.s _ rfl);simp[Sem.run_bind,xv op t ox oy (.slice a l c) _ oS oS,Result.andThen_ok];cases b with
 |true=>simp[if_true] at h;subst h;rw[h1];cases a<;>rfl
 |false=>simp[Bool.false_eq_true,if_false] at h;subst h;rw[h2];cases a<;>rfl
def TM(hm:aQ P F m β w)(op:BinOp)(t:TypeId)(ox oy:Operand){a:Bool}(hx:R F β w (.s (.bool a)) x)(hy:R F β w (.s (.bool b)) y)(ht:uQ P t=true)
 (h:(op=.eql/\d=.s (.bool (a==b)))\/(op=.neq/\d=.s (.bool !(a==b)))):
 a7 P F m nx β w { pre:=pre,val:=d } ((do eqGuard op t ox oy x y;binOp op t x y)>>=λr=>Pure.pure (Next.value r)):=by
 obtain⟨rfl,_⟩:=hx.cX;obtain⟨rfl,_⟩:=hy.cX;rcases h with⟨rfl,rfl⟩|⟨rfl,rfl⟩
 .refine a7.val hm (v:=.bool (a==b)) ?_ (.s _ rfl);simp[Sem.run_bind,xv _ t ox oy (.bool a) _ oS oS,Result.andThen_ok,(TK ht a b).1,Sem.run_pure]
 .refine a7.val hm (v:=.bool !(a==b)) ?_ (.s _ rfl);simp[Sem.run_bind,xv _ t ox oy (.bool a) _ oS oS,Result.andThen_ok,(TK ht a b).2,Sem.run_pure]
def R.ai3{i:Nat}(h:R F β w (.rp i off) v)(hl:β i≠some .dead):∃ a,v=.pointer (some a):=by
 cases h with
 |uN _ _ _ h _=>exact absurd h hl
 |rp=>exact⟨_,rfl⟩
def T9(hm:aQ P F m β w)(op:BinOp)(t:TypeId)(ox oy:Operand){i:Nat}{r:Row}(hx:R F β w (.rp i off) x)(hi:m i=some r)(hy:R F β w (.s (.pointer none)) y)(ht:Cp P t=true)
 (h:(op=.eql/\d=.s (.bool false))\/(op=.neq/\d=.s (.bool true))):
 a7 P F m nx β w { pre:=pre,val:=d,rd:=rd } ((do eqGuard op t ox oy x y;binOp op t x y)>>=λr=>Pure.pure (Next.value r)):=by
 let⟨p,hp,an⟩:=hm.row i _ hi;obtain⟨a,rfl⟩:=hx.ai3 (λe=>by rw[e] at hp;cases hp;exact an.live rfl);obtain⟨rfl,_⟩:=hy.cX;rcases h with⟨rfl,rfl⟩|⟨rfl,rfl⟩
 .refine a7.val hm (v:=.bool false) ?_ (.s _ rfl);simp[Sem.run_bind,xv _ t ox oy (.pointer (some a)) _ oS oS,Result.andThen_ok,(T8 ht a).1,Sem.run_pure]
 .refine a7.val hm (v:=.bool true) ?_ (.s _ rfl);simp[Sem.run_bind,xv _ t ox oy (.pointer (some a)) _ oS oS,Result.andThen_ok,(T8 ht a).2,Sem.run_pure]
def adw(hm:aQ P F m β w)(t:TypeId)(ox oy:Operand){es:List D}{n:Nat}(hx:R F β w (.sl es n) x)(ht:bE P t=true):
 a7 P F m nx β w { pre:=pre,val:=if n=0 then .ub else .s (.bool false) } ((do eqGuard .eql t ox oy x (.slice none 0 0);binOp .eql t x (.slice none 0 0))>>=λr=>Pure.pure (Next.value r)):=by
 have C:=λa l c=>adv (P:=P) (w:=w) ht a l c;cases hx with
 |kf a cap=>
  refine a7.val hm (v:=.bool a.isNone) ?_ (tn (R.ub _));simp[Sem.run_bind,xv _ t ox oy (.slice a 0 cap) _ oS oS,Result.andThen_ok,C,Sem.run_pure]
 |sl _ _ b o cap us h1 h2 J O U X h7=>
  refine a7.val hm (v:=.bool false) ?_ ?_
  .simp only[Sem.run_bind,xv _ t ox oy (.slice (some ⟨b,o,none⟩) n cap) _ oS oS,Result.andThen_ok,C,Sem.run_pure];rfl
  .split
   .exact .ub _
   .exact .s _ rfl
def ahT(hm:aQ P F m β w)(op:UnOp){a:Value}(hx:R F β w (.s a) x)(h:E8 op a=some v):
 a7 P F m nx β w { pre:=pre,val:=.s v } (do Pure.pure (Next.value (<- Op.unary op x))):=by
 obtain⟨rfl,_⟩:=hx.cX
 have:(Op.unary op x).run P w=.ok v w/\plain v=true:=by
  cases x<;>cases op<;>simp[E8,aY,reduceCtorEq] at h<;>subst h<;>simp[Op.unary,Op.intArith,Op.intBits,ns,plain]
 exact a7.val hm (by simp[this.1]) (.s _ this.2)
def acL(hm:aQ P F m β w)(src dst:TypeId){k k':IntKind}{n:Int}(hx:R F β w (.s (.int k' n)) x)(hd:P.underlying dst=some (.int k))(hs:(P.underlying src).isSome=true):
 a7 P F m nx β w { pre:=pre,val:=.s (.int k (k.wrap n)) } (do Pure.pure (Next.value (<- convert src dst x))):=by
 obtain⟨rfl,_⟩:=hx.cX;let⟨d,hs⟩:=Option.isSome_iff_exists.1 hs;refine a7.val hm (v:=.int k (k.wrap n)) ?_ (.s _ rfl);cases d<;>simp[convert,run_underlying hd,run_underlying hs,Conv.intToInt]
def T'(h:0<P.cellsOf t):(P.info? t).isSome=true:=by
 cases hi:P.info? t with
 |none=>simp[Program.cellsOf,hi] at h
 |some i=>rfl
def ack(hm:aQ P F m β w){cs:List D}{k:Nat}{C:TypeId}(hx:R F β w (.pt cs) x)(hf:du P t k=some (off,C))(h0:0<P.cellsOf C):
 a7 P F m nx β w { pre:=pre,val:=.pt (cs.drop off) } (do Pure.pure (Next.value (<- Instr.fieldAt t x k))):=by
 obtain⟨b,o,rfl,h1,h2,O,J⟩:=hx.GW;unfold du at hf;split at hf
 .rename_i fs hu;cases hk:fs[k]? with
  |none=>simp[hk] at hf
  |some f=>
   simp[hk] at hf;obtain⟨rfl,rfl⟩:=hf;refine a7.val hm (v:=.pointer (some ⟨b,o+f.offset,none⟩)) ?_ (R.YG h1 h2 O (J.drop _));simp[Instr.fieldAt,run_underlying hu,hk,Instr.sureAddr,fieldPlace,ix w (T' h0),Nat.ne_of_gt h0,Addr.add_lit]
 .cases hf
end
end
section
variable{i off:Nat}{r:Row}{p:Pl}{t:TypeId}{x:Value}{pre:Prop}{rd:List Nat}{cs:List D}{vs:List Value}{es:List D}{n:Nat}{v:Value}{k:Int}{C:IntKind}
section
variable{P:Program}{F:Nat->Prop}{m:Mem}{nx:Nat}{β:aN}{w:World}
def R.Ph{v:Value}(h:R F β w (.rp i off) v)(hp:β i=some p)(an:dA P F β w r p):
 ∃ b o len room sz,β i=some (.cells b o len room sz)/\v=.pointer (some ⟨b,o+off,none⟩):=by
 cases h with
 |uN _ _ _ h _=>rw[h] at hp;cases hp;exact absurd rfl an.live
 |rp _ _ b o len room sz h=>exact⟨b,o,len,room,sz,h,rfl⟩
def acm(hm:aQ P F m β w){o:Nat}{k:Nat}{C:TypeId}(hx:R F β w (.rp i o) x)(hi:m i=some r)(hf:du P t k=some (off,C))(h0:0<P.cellsOf C):
 a7 P F m nx β w { pre:=pre,val:=.rp i (o+off),rd:=rd } (do Pure.pure (Next.value (<- Instr.fieldAt t x k))):=by
 let⟨p,hp,an⟩:=hm.row i _ hi;obtain⟨b,bo,len,room,sz,J,rfl⟩:=hx.Ph hp an;unfold du at hf;split at hf
 .rename_i fs hu;cases hk:fs[k]? with
  |none=>simp[hk] at hf
  |some f=>
   simp[hk] at hf;obtain⟨rfl,rfl⟩:=hf;refine a7.val hm (v:=.pointer (some ⟨b,bo+(o+f.offset),none⟩)) ?_ (.rp i (o+f.offset) b bo len room sz J);simp[Instr.fieldAt,run_underlying hu,hk,Instr.sureAddr,fieldPlace,ix w (T' h0),Nat.ne_of_gt h0,Addr.add_lit,Nat.add_assoc]
 .cases hf
def Vv(ht:aT P t=true){off:Nat}(hl:vs.length=cs.length)(h:∀ (k:Nat) (d:D) (u:Value),cs[k]? =some d->vs[k]? =some u->R F β w d u)(O:off+P.cellsOf t<=cs.length):
 ∃ v,(part t vs.toArray off).run P w=.ok v w/\R F β w (lz P t (cs.drop off)) v:=by
 let⟨i,d,z,hi,hd,hz,J,_⟩:=tV ht;unfold part lz;simp[Sem.run_bind,F8 w (DA ht),Result.andThen_ok];cases ha:bM P t with
 |true=>
  refine⟨.agg ((vs.drop off).take (P.cellsOf t)).toArray,?_,?_⟩
  .simp[ix w (iV ht)]
  .refine .agg _ _ oP λk d v hk hv=>?_;rw[getElem?_take] at hk hv;split at hk
   .rename_i al;rw[bi al] at hv;rw[getElem?_drop] at hk hv;exact h _ d v hk hv
   .cases hk
 |false=>
  have:=J ha;have al:off<vs.length:=by omega
  refine⟨vs[off],by simp[al],?_⟩;have C:off<cs.length:=by omega
  have e:(cs.drop off).headD .u=cs[off]:=by simp[headD_eq_head?_getD,head?_drop,C]
  simp[Bool.false_eq_true,if_false,e];exact h off _ _ (by simp[C]) (by simp[al])
def aep(hm:aQ P F m β w){k:Nat}{C:TypeId}(hx:R F β w (.agg cs) x)(hf:du P t k=some (off,C))(ht:aT P C=true)(J:off+P.cellsOf C<=cs.length):
 a7 P F m nx β w { pre:=pre,val:=lz P C (cs.drop off) } (do Pure.pure (Next.value (<- Instr.field t x k))):=by
 obtain⟨vs,rfl,hl,h⟩:=hx.ua;let⟨v,hr,hR⟩:=Vv (P:=P) ht hl h J;unfold du at hf;split at hf
 .rename_i fs hu;cases hk:fs[k]? with
  |none=>simp[hk] at hf
  |some f=>
   simp[hk] at hf;obtain⟨rfl,rfl⟩:=hf;exact a7.val hm (v:=v) (by simp[Instr.field,run_underlying hu,hk,asAgg,hr]) hR
 .cases hf
def ac6(hm:aQ P F m β w){k:Nat}(hx:R F β w (.bu cs) x)(hk:k<cs.length):
 a7 P F m nx β w { pre:=pre,val:=cs.getD k .u } (do Pure.pure (Next.value (<- Instr.extract x k))):=by
 obtain⟨vs,rfl,hl,h⟩:=hx.DJ;have C:k<vs.length:=by omega
 apply a7.val hm (v:=vs[k]) (by simp[Instr.extract,C]);have e:cs.getD k .u=cs[k]:=by simp[dF,hk]
 rw[e];exact h k _ _ (by simp[hk]) (by simp[C])
def R.vW(h:R F β w (.sl es n) v):(es=[]/\n=0/\∃ a cap,v=.slice a 0 cap)\/
 ∃ b o cap,v=.slice (some ⟨b,o,none⟩) n cap/\n<=cap/\cap<=maxLen/\¬ F b/\β.free b/\b<w.heap.size/\Rd F β w b o es:=by
 cases h with
 |kf a cap=>exact .inl ⟨rfl,rfl,a,cap,rfl⟩
 |sl _ _ b o cap us h1 h2 C J O U X=>exact .inr ⟨b,o,cap,rfl,J,O,h1,h2,C,us,U,X⟩
def acn(hm:aQ P F m β w){y:Value}{X:IntKind}(hx:R F β w (.sl es n) x)(hy:R F β w (.s (.int X k)) y)(ht:bE P t=true)(h0:0<=k)(h1:k<n):
 a7 P F m nx β w { pre:=pre,val:=.pt (es.drop (k.toNat*P.cellsOf (aK P t))) } (do Pure.pure (Next.value (<- Instr.indexAt t x y))):=by
 let⟨hu,he⟩:=ku ht;obtain⟨rfl,_⟩:=hy.cX;rcases hx.vW with⟨_,rfl,_⟩|⟨b,o,cap,rfl,h2,h3,J,O,U,C⟩
 .omega
 .refine a7.val hm (v:=.pointer (some ⟨b,o+k.toNat*P.cellsOf (aK P t),none⟩)) ?_ (R.YG J O U (C.drop _));simp[Instr.indexAt,asIntOf,run_underlying hu,h0,h1,ix w (iV he),Addr.add_lit]
def R.xX(h:R F β w (.rs i off n) v){e:TypeId}(hm:aQ P F m β w)(hi:m i=some (.cells cs e)):
 (cs=[]/\off=0/\n=0/\β i=some .nil/\∃ a,v=.slice a 0 0)\/
 ∃ b o room,β i=some (.cells b o cs.length room (P.cellsOf e))/\dA P F β w (.cells cs e) (.cells b o cs.length room (P.cellsOf e))/\
  ((n=0/\∃ a,v=.slice a 0 0)\/∃ cap,v=.slice (some ⟨b,o+off,none⟩) n cap/\n<=cap/\cap<=maxLen/\cs.length<=off+cap*P.cellsOf e/\off+cap*P.cellsOf e<=room):=by
 let⟨p,hp,an⟩:=hm.row i _ hi;cases h with
 |nW _ _ _ _ h _=>rw[h] at hp;cases hp;cases an
 |lH _ a h=>
  rw[h] at hp;cases hp;cases an;exact .inl ⟨rfl,rfl,rfl,h,a,rfl⟩
 |mK _ _ a b o len room sz h=>
  rw[h] at hp;cases hp;let⟨_,h2,C,_⟩:=an.rd;subst h2;subst C;exact .inr ⟨b,o,room,h,an,.inl ⟨rfl,a,rfl⟩⟩
 |rs _ _ _ cap b o len room sz h hn eu h1 h2=>
  rw[h] at hp;cases hp;let⟨_,C,J,_⟩:=an.rd;subst C;subst J;exact .inr ⟨b,o,room,h,an,.inr ⟨cap,rfl,hn,eu,h1,h2⟩⟩
def R.agb{v:Value}(h:R F β w (.rs i off n) v)(hl:∃ p,β i=some p/\p≠ .dead):∃ a cap,v=.slice a n cap:=by
 cases h with
 |nW _ _ _ _ h _=>let⟨p,h1,h2⟩:=hl;rw[h] at h1;cases h1;exact absurd rfl h2
 |lH _ a h=>exact⟨a,0,rfl⟩
 |mK _ _ a=>exact⟨a,0,rfl⟩
 |rs=>exact⟨_,_,rfl⟩
def Vw(h:dA P F β w r p):p≠ .dead:=h.live
def aco(hm:aQ P F m β w){y:Value}(hx:R F β w (.rs i off n) x)(hi:m i=some r)(hy:R F β w (.s (.int C k)) y)(ht:bE P t=true)(h0:0<=k)(h1:k<n):
 a7 P F m nx β w { pre:=pre,val:=.rp i (off+k.toNat*P.cellsOf (aK P t)),rd:=rd } (do Pure.pure (Next.value (<- Instr.indexAt t x y))):=by
 let⟨hu,he⟩:=ku ht;obtain⟨rfl,_⟩:=hy.cX;let⟨p,hp,an⟩:=hm.row i _ hi;cases hx with
 |nW _ _ _ _ h _=>rw[h] at hp;cases hp;exact absurd rfl (Vw an)
 |lH _ a h=>omega
 |mK _ _ a b o len room sz h=>omega
 |rs _ _ _ cap b o len room sz h hn eu J O=>
  refine a7.val hm (v:=.pointer (some ⟨b,o+(off+k.toNat*P.cellsOf (aK P t)),none⟩)) ?_ (.rp i _ b o len room sz h);simp[Instr.indexAt,asIntOf,run_underlying hu,h0,h1,ix w (iV he),Addr.add_lit,Nat.add_assoc]
def aci(hm:aQ P F m β w){y:Value}{J:IntKind}(hx:R F β w (.rp i off) x)(hi:m i=some r)(hy:R F β w (.s (.int J k)) y)(ht:qA P t=true)(h0:0<=k)(h1:k<rB P t):
 a7 P F m nx β w { pre:=pre,val:=.rp i (off+k.toNat*P.cellsOf (aK P t)),rd:=rd } (do Pure.pure (Next.value (<- Instr.indexAt t x y))):=by
 let⟨hu,he⟩:=N6 ht;obtain⟨rfl,_⟩:=hy.cX;let⟨p,hp,an⟩:=hm.row i _ hi;obtain⟨b,bo,len,room,sz,C,rfl⟩:=hx.Ph hp an;refine a7.val hm (v:=.pointer (some ⟨b,bo+(off+k.toNat*P.cellsOf (aK P t)),none⟩)) ?_ (.rp i _ b bo len room sz C);simp[Instr.indexAt,asIntOf,run_underlying hu,h0,h1,ix w (iV he),Addr.add_lit,Nat.add_assoc,Instr.sureAddr]
def acD(hm:aQ P F m β w){b:ByteArray}{y:Value}{O:IntKind}(hx:R F β w (.s (.string b)) x)(hy:R F β w (.s (.int O k)) y)(ht:gR P t=true)(h0:0<=k)(h1:k<b.size):
 a7 P F m nx β w { pre:=pre,val:=.s (.int .u8 (b.data.toList.getD k.toNat 0).toNat) } (do Pure.pure (Next.value (<- Instr.index t x y))):=by
 have hu:=zz ht;obtain⟨rfl,_⟩:=hy.cX;obtain⟨rfl,_⟩:=hx.cX;have hk:k.toNat<b.size:=by omega
 have J:k.toNat<b.data.size:=hk;refine a7.val hm (v:=.int .u8 (b.data.toList.getD k.toNat 0).toNat) ?_ (.s _ rfl)
 have e:b[k.toNat]? =some (b.data.toList.getD k.toNat 0):=by
  have C:b[k.toNat]? =some b[k.toNat]:=getElem?_pos b k.toNat hk;rw[C];congr 1;show b.data[k.toNat]=_;rw[dF,Array.getElem?_toList,Array.getElem?_eq_getElem J];rfl
 simp[Instr.index,Sem.run_bind,asIntOf,Sem.run_pure,Result.andThen_ok,run_underlying hu,h0,if_true,e]
def acE(hm:aQ P F m β w){y:Value}(hx:R F β w (.agg cs) x)(hy:R F β w (.s (.int C k)) y)(ht:qA P t=true)(h0:0<=k)(h1:k<rB P t)
 (mb:(k.toNat+1)*P.cellsOf (aK P t)<=cs.length):
 a7 P F m nx β w { pre:=pre,val:=lz P (aK P t) (cs.drop (k.toNat*P.cellsOf (aK P t))) } (do Pure.pure (Next.value (<- Instr.index t x y))):=by
 let⟨hu,he⟩:=N6 ht;obtain⟨rfl,_⟩:=hy.cX;obtain⟨vs,rfl,hl,h⟩:=hx.ua;let⟨v,hr,hR⟩:=Vv (P:=P) he hl h (off:=k.toNat*P.cellsOf (aK P t)) (by rw[Nat.add_mul] at mb;omega);exact a7.val hm (v:=v) (by simp[Instr.index,asIntOf,run_underlying hu,h0,h1,ix w (iV he),hr]) hR
def acN(hm:aQ P F m β w)(f:Fn){fs:List D}{us:List Value}{pre:Prop}(hl:us.length=fs.length)(mb:vs.length=cs.length)(h:∀ (k:Nat) (d:D) (v:Value),fs[k]? =some d->us[k]? =some v->R F β w d v)
 (h':∀ (k:Nat) (d:D) (v:Value),cs[k]? =some d->vs[k]? =some v->R F β w d v):
 a7 P F m nx β w { pre:=pre,val:=.fn f fs cs } (do Pure.pure (Next.value (<- Instr.makeFunc f us.toArray vs.toArray))):=
 a7.val hm (v:=.func f us.toArray vs.toArray) (by simp[Instr.makeFunc]) (.fn f fs cs us vs hl mb h h')
def Ba(b:Int)(C:IntKind)(y:Nat)(code:BoundsCode)(h0:0<=b)(h1:b<=y):(Instr.sliceBound (.int C b) y code).run P w=.ok b.toNat w:=by
 simp[Instr.sliceBound,asIntOf,h0,h1]
def Bb(isSlice:Bool)(len cap:Nat){lo hi:Option Value}{l h:Int}(ko:(lo=none/\l=0)\/∃ C,lo=some (.int C l))(oZ:(hi=none/\h=len)\/∃ C,hi=some (.int C h))(h0:0<=l)(h1:l<=h)(h2:h<=cap):
 (Instr.sliceBounds isSlice len cap lo hi none).run P w=.ok (l.toNat,h.toNat,cap) w:=by
 unfold Instr.sliceBounds;simp[Sem.run_bind,Sem.run_pure,Result.andThen_ok];rcases oZ with⟨rfl,rfl⟩|⟨C,rfl⟩<;>rcases ko with⟨rfl,rfl⟩|⟨kl,rfl⟩
 .simp
 .simp[Ba (P:=P) (w:=w) l kl len _ h0 oG]
 .simp[Ba (P:=P) (w:=w) h C cap _ oG oG]
 .have:=Ba (P:=P) (w:=w) h C cap (if isSlice then .sliceAcap else .sliceAlen) oG oG;simp[this,Ba (P:=P) (w:=w) l kl h.toNat _ h0 oG]
def zr(len cap:Nat){lo:Option Value}{kh km:IntKind}{l h k:Int}(ko:(lo=none/\l=0)\/∃ O,lo=some (.int O l))(h0:0<=l)(h1:l<=h)(h2:h<=k)(J:k<=cap):
 (Instr.sliceBounds true len cap lo (some (.int kh h)) (some (.int km k))).run P w=.ok (l.toNat,h.toNat,k.toNat) w:=by
 unfold Instr.sliceBounds;have C:=Ba (P:=P) (w:=w) k km cap .slice3Acap oG J;have e2:=Ba (P:=P) (w:=w) h kh k.toNat .slice3B oG oG;simp[Sem.run_bind,C,e2,Result.andThen_ok,if_true];rcases ko with⟨rfl,rfl⟩|⟨U,rfl⟩
 .simp
 .simp[Ba (P:=P) (w:=w) l U h.toNat _ h0 oG]
def D.Wu{d:D}{b:Int}(h:d.int? =some b):∃ C,d=.s (.int C b):=by
 unfold D.int? at h;split at h
 .cases h;exact⟨_,rfl⟩
 .cases h
def Ro(F:Nat->Prop)(β:aN)(w:World)(d:Option D)(v:Option Value):Prop:=
 (d=none/\v=none)\/∃ q u,d=some q/\v=some u/\R F β w q u
def Ro.wR{d:Option D}{v:Option Value}{C b:Int}(h:Ro F β w d v)(hb:gd d C=some b):(v=none/\b=C/\d=none)\/∃ J,v=some (.int J b)/\d.isSome=true:=by
 rcases h with⟨rfl,rfl⟩|⟨q,u,rfl,rfl,hR⟩
 .simp[gd] at hb;exact .inl ⟨rfl,hb.symm,rfl⟩
 .simp[gd] at hb;obtain⟨J,rfl⟩:=D.Wu hb;obtain⟨rfl,_⟩:=hR.cX;exact .inr ⟨_,rfl,rfl⟩
def qO{e:TypeId}(hu:P.underlying t=some (.slice e))(v:Value)(lo hi C:Option Value):(Instr.sliceAt t v lo hi C).run P w=(Instr.slice t v lo hi C).run P w:=by
 simp[Instr.sliceAt,run_underlying hu]
def Vx{es:List D}{n l h sz:Nat}{a:Option Addr}{b o cap m':Nat}(h1:¬ F b)(h2:β.free b)(U:b<w.heap.size)(C:Rd F β w b o es)(X:l<=h)(hn:h<=n)(hm:h<=m')(qg:m'<=cap)(eu:cap<=maxLen)
 (ha:a=(if m'=l then some ⟨b,o,none⟩ else some ⟨b,o+l*sz,none⟩)):R F β w (.sl ((es.drop (l*sz)).take ((h - l)*sz)) (h - l)) (.slice a (h - l) (m' - l)):=by
 subst ha;by_cases qC:m'=l
 .have:h=l:=by omega
  subst this;simp[Nat.sub_self,Nat.zero_mul,take_zero];exact .kf _ _
 .rw[ai qC];let⟨us,J,O⟩:=(C.drop (l*sz)).take ((h - l)*sz);exact .sl _ _ _ _ _ us h1 h2 U oG oG J O
def aeq(hm:aQ P F m β w){x:D}{lo hi mx:Option D}{AO yY vmx:Option Value}{e:ez}(hx:R F β w x v)(ko:Ro F β w lo AO)(oZ:Ro F β w hi yY)(iu:Ro F β w mx vmx)
 (hs:nJ P m t x lo hi mx=some e) (hp:e.pre):e.bn=[]/\e.new=0/\a7 P F m nx β w e (do Pure.pure (Next.value (<- Instr.sliceAt t v AO yY vmx))):=by
 cases x with
 |sl es n=>
  simp[nJ] at hs;cases J:gd lo 0 with
  |none=>simp[J] at hs
  |some l=>
  cases O:gd hi n with
  |none=>simp[J,O] at hs
  |some h=>
  have X:(AO=none/\l=0)\/∃ C,AO=some (.int C l):=by
   rcases ko.wR J with⟨a,b,_⟩|⟨C,a,_⟩
   .exact .inl ⟨a,b⟩
   .exact .inr ⟨C,a⟩
  rcases iu with⟨rfl,rfl⟩|⟨q,u,rfl,rfl,hq⟩
  .simp[J,O,aY] at hs;subst hs;let⟨ht,h0,h1,h2⟩:=hp;let⟨hu,he⟩:=ku ht
   have Ai:(yY=none/\h=(n:Int))\/∃ C,yY=some (.int C h):=by
    rcases oZ.wR O with⟨a,b,_⟩|⟨C,a,_⟩
    .exact .inl ⟨a,b⟩
    .exact .inr ⟨C,a⟩
   refine⟨rfl,rfl,?_⟩;rcases hx.vW with⟨rfl,rfl,a,cap,rfl⟩|⟨b,o,cap,rfl,g1,g2,g3,g4,g5,cw⟩
   .have hb:=Bb (P:=P) (w:=w) true 0 cap X (tn Ai) h0 h1 oG;have mL:l=0:=by omega
    have yX:h=0:=by omega
    subst mL;subst yX;refine a7.val hm (v:=.slice (if cap=0 then a else a.map (·.add (0*P.cellsOf (aK P t)))) 0 cap) ?_ (tn (R.kf _ _));simp[qO hu,Instr.slice,run_underlying hu,hb,ix w (iV he)]
   .have hb:=Bb (P:=P) (w:=w) true n cap X Ai h0 h1 oG;refine a7.val hm (v:=.slice (if cap=l.toNat then some ⟨b,o,none⟩ else some ⟨b,o+l.toNat*P.cellsOf (aK P t),none⟩) (h.toNat - l.toNat) (cap - l.toNat)) ?_ ?_
    .simp[qO hu,Instr.slice,run_underlying hu,hb,ix w (iV he),Addr.add_lit]
    .have:=Vx (F:=F) (β:=β) (w:=w) (es:=es) (n:=n) (l:=l.toNat) (h:=h.toNat) (sz:=P.cellsOf (aK P t)) (cap:=cap) (m':=cap) g3 g4 g5 cw oG oG oG (bK _) g2 rfl;rw[show(h - l).toNat=h.toNat - l.toNat from by omega];exact this
  .simp[J,O] at hs;cases sS:q.int? with
   |none=>simp[sS] at hs
   |some k=>
   simp[sS,aY] at hs;subst hs;let⟨ht,KZ,h0,h1,h2,h3⟩:=hp;let⟨hu,he⟩:=ku ht;obtain⟨km,rfl⟩:=D.Wu sS;obtain⟨rfl,_⟩:=hq.cX
   obtain⟨kh,rfl⟩:∃ C,yY=some (.int C h):=by
    rcases oZ.wR O with⟨_,_,c⟩|⟨C,a,_⟩
    .rw[c] at KZ;cases KZ
    .exact⟨C,a⟩
   refine⟨rfl,rfl,?_⟩;rcases hx.vW with⟨rfl,rfl,a,cap,rfl⟩|⟨b,o,cap,rfl,g1,g2,g3,g4,g5,cw⟩
   .have hb:=zr (P:=P) (w:=w) 0 cap (kh:=kh) (km:=km) X h0 h1 h2 oG;have mL:l=0:=by omega
    have yX:h=0:=by omega
    have Ff:k=0:=by omega
    subst mL;subst yX;subst Ff;refine a7.val hm (v:=.slice a 0 0) ?_ (tn (R.kf _ _));simp[qO hu,Instr.slice,run_underlying hu,hb,ix w (iV he)]
   .have hb:=zr (P:=P) (w:=w) n cap (kh:=kh) (km:=km) X h0 h1 h2 oG;refine a7.val hm (v:=.slice (if k.toNat=l.toNat then some ⟨b,o,none⟩ else some ⟨b,o+l.toNat*P.cellsOf (aK P t),none⟩) (h.toNat - l.toNat) (k.toNat - l.toNat)) ?_ ?_
    .simp[qO hu,Instr.slice,run_underlying hu,hb,ix w (iV he),Addr.add_lit]
    .have:=Vx (F:=F) (β:=β) (w:=w) (es:=es) (n:=n) (l:=l.toNat) (h:=h.toNat) (sz:=P.cellsOf (aK P t)) (cap:=cap) (m':=k.toNat) g3 g4 g5 cw oG oG oG oG g2 rfl;rw[show(h - l).toNat=h.toNat - l.toNat from by omega];exact this
 |rs i off n=>
  simp[nJ] at hs;cases U:m i with
  |none=>simp[U] at hs
  |some r=>
  cases r with
  |map es=>simp[U] at hs
  |raw es=>simp[U] at hs
  |bs u x T=>simp[U] at hs
  |lp k=>simp[U] at hs
  |ia f r=>simp[U] at hs
  |cells cs ee=>
  cases J:gd lo 0 with
  |none=>simp[U,J] at hs
  |some l=>
  cases O:gd hi n with
  |none=>simp[U,J,O] at hs
  |some h=>
  rcases iu with⟨rfl,rfl⟩|⟨q,u,rfl,rfl,hq⟩
  .simp[U,J,O,aY] at hs;subst hs;let⟨⟨ht,bZ⟩,h0,h1,h2⟩:=hp;let⟨hu,he⟩:=ku ht
   have X:(AO=none/\l=0)\/∃ C,AO=some (.int C l):=by
    rcases ko.wR J with⟨a,b,_⟩|⟨C,a,_⟩
    .exact .inl ⟨a,b⟩
    .exact .inr ⟨C,a⟩
   have Ai:(yY=none/\h=(n:Int))\/∃ C,yY=some (.int C h):=by
    rcases oZ.wR O with⟨a,b,_⟩|⟨C,a,_⟩
    .exact .inl ⟨a,b⟩
    .exact .inr ⟨C,a⟩
   refine⟨rfl,rfl,?_⟩;rcases hx.xX hm U with⟨_,rfl,rfl,mG,a,rfl⟩|⟨b,o,room,hβ,an,rk⟩
   .have hb:=Bb (P:=P) (w:=w) true 0 0 X (tn Ai) h0 h1 oG;have mL:l=0:=by omega
    have yX:h=0:=by omega
    subst mL;subst yX;refine a7.val hm (v:=.slice a 0 0) ?_ (tn (R.lH i a mG));simp[qO hu,Instr.slice,run_underlying hu,hb,ix w (iV he)]
   .rcases rk with⟨rfl,a,rfl⟩|⟨cap,rfl,g1,g2,g3,g4⟩
    .have hb:=Bb (P:=P) (w:=w) true 0 0 X (tn Ai) h0 h1 oG;have mL:l=0:=by omega
     have yX:h=0:=by omega
     subst mL;subst yX;refine a7.val hm (v:=.slice a 0 0) ?_ (tn (R.mK i off a b o _ room _ hβ));simp[qO hu,Instr.slice,run_underlying hu,hb,ix w (iV he)]
    .have hb:=Bb (P:=P) (w:=w) true n cap X Ai h0 h1 oG;refine a7.val hm (v:=.slice (if cap=l.toNat then some ⟨b,o+off,none⟩ else some ⟨b,o+off+l.toNat*P.cellsOf (aK P t),none⟩) (h.toNat - l.toNat) (cap - l.toNat)) ?_ ?_
     .simp[qO hu,Instr.slice,run_underlying hu,hb,ix w (iV he),Addr.add_lit]
     .rw[show(h - l).toNat=h.toNat - l.toNat from by omega];by_cases dh:cap=l.toNat
      .have:h.toNat=l.toNat:=by omega
       rw[this,dh,Nat.sub_self];exact .mK i _ _ b o _ room _ hβ
      .rw[ai dh,Nat.add_assoc];have hmul:(cap - l.toNat)*P.cellsOf ee+l.toNat*P.cellsOf ee=cap*P.cellsOf ee:=by rw[<- Nat.add_mul];congr 1;omega
       exact .rs i _ _ _ b o _ room _ hβ oG oG (by rw[<- bZ];omega) (by rw[<- bZ];omega)
  .simp[U,J,O,reduceCtorEq] at hs
 |s x=>
  cases x with
  |string b=>
   simp[nJ] at hs;cases J:gd lo 0 with
   |none=>simp[J] at hs
   |some l=>
   cases O:gd hi b.size with
   |none=>simp[J,O] at hs
   |some h=>
   rcases iu with⟨rfl,rfl⟩|⟨q,u,rfl,rfl,hq⟩
   .simp[J,O,aY] at hs;subst hs;let⟨ht,h0,h1,h2⟩:=hp;have hu:=zz ht;obtain⟨rfl,_⟩:=hx.cX
    have X:(AO=none/\l=0)\/∃ C,AO=some (.int C l):=by
     rcases ko.wR J with⟨a,b,_⟩|⟨C,a,_⟩
     .exact .inl ⟨a,b⟩
     .exact .inr ⟨C,a⟩
    have Ai:(yY=none/\h=(b.size:Int))\/∃ C,yY=some (.int C h):=by
     rcases oZ.wR O with⟨a,b,_⟩|⟨C,a,_⟩
     .exact .inl ⟨a,b⟩
     .exact .inr ⟨C,a⟩
    have hb:=Bb (P:=P) (w:=w) false b.size b.size X Ai h0 h1 oG;refine⟨rfl,rfl,a7.val hm (v:=.string (b.extract l.toNat h.toNat)) ?_ (.s _ rfl)⟩;simp[Instr.sliceAt,Instr.slice,run_underlying hu,hb]
   .simp[J,O,reduceCtorEq] at hs
  |_=>simp[nJ] at hs
 |_=>simp[nJ] at hs
end
end
section
variable{x:Value}{pre:Prop}{ts:Array TypeId}{ty:TypeId}{cs:List D}
section
variable{P:Program}{F:Nat->Prop}{m:Mem}{nx:Nat}{β:aN}{w w':World}
def Bh(hs:w.heap.size<=w'.heap.size)(h:∀ b,b<w.heap.size->w'.heap[b]? =w.heap[b]?)(C:Out w w':=by first|exact⟨rfl,rfl⟩|assumption):Step β w β w':=
 ⟨hs,λb hb hf=>⟨h b hb,hf⟩,λ_ _ hp=>.inl hp,C,λ_ r _ _=>OB (h r)⟩
def aQ.ext(hm:aQ P F m β w)(hs:w.heap.size<=w'.heap.size)(h:∀ b,b<w.heap.size->w'.heap[b]? =w.heap[b]?)(J:Out w w':=by first|exact⟨rfl,rfl⟩|assumption):aQ P F m β w':=
 ⟨λi r hi=>by
  let⟨p,hp,an⟩:=hm.row i r hi;exact⟨p,hp,an.step (Bh hs h) λb hb=>h b (hm.lt i p b hp hb)⟩,
  hm.inj,λi p b hp hb=>Nat.lt_of_lt_of_le (hm.lt i p b hp hb) hs,hm.nf,hm.fb.next (λb hb=>Nat.lt_of_lt_of_le (hm.fb.lt b hb) hs) (λ_ h=>h) λt _ C=>h _ (hm.fb.lt _ C)⟩
def aQ.drew(hm:aQ P F m β w):aQ P F m β w.drew:=hm.ext (bK _) (λ_ _=>rfl)
def Uu:Step β w β w.drew:=Bh (bK _) (λ_ _=>rfl)
def aer(hm:aQ P F m β w){src dst e:TypeId}{b:ByteArray}(hx:R F β w (.s (.string b)) x)(hs:gR P src=true)(hd:P.underlying dst=some (.slice e))(he:P.underlying e=some (.int .u8))(eu:b.size<=maxLen):
 a7 P F m nx β w { pre:=pre,val:=.sl (b.data.toList.map λc=>.s (.int .u8 c.toNat)) b.size } (do Pure.pure (Next.value (<- convert src dst x))):=by
 obtain⟨rfl,_⟩:=hx.cX;have hu:=zz hs;generalize qg:(Question.appendCap b.size 0 e).cut (w.tape w.drawn (.appendCap b.size 0 e))=cap
 have J:b.size<=cap/\cap<=maxLen:=by
  have h1:=grownCap_ge w b.size 0 e;have h2:=grownCap_le_maxLen w b.size 0 e eu;unfold grownCap at h1 h2;rw[qg] at h1 h2;exact⟨h1,h2⟩
 generalize hc:b.data.map (λc=>Value.int .u8 c.toNat)++Array.replicate (cap - b.size) (Value.int .u8 0)=cells
 have U:(convert src dst (.string b)).run P w=.ok (.slice (some ⟨w.heap.size,0,none⟩) b.size cap) ((w.drew.alloc (.cells cells e)).freeze ⟨w.heap.size,cells.size,none⟩ 1):=by
  simp only[convert,Sem.run_bind,run_underlying hu,run_underlying hd,run_underlying he,Result.andThen_ok];unfold Conv.stringToBytes;simp only[Sem.run_bind,run_choose,Question.forced,Bool.false_eq_true,if_false,Result.andThen_ok,qg,hc];simp only[newRow,Sem.run_bind,run_newObj,Result.andThen_ok,Sem.run_pure,markStringish];simp[World.shape?,freeze,Sem.run];rfl
 have KY:((w.drew.alloc (.cells cells e)).freeze ⟨w.heap.size,cells.size,none⟩ 1).heap.size=w.heap.size+1:=by simp[World.freeze]
 have hold:∀ k,k<w.heap.size->((w.drew.alloc (.cells cells e)).freeze ⟨w.heap.size,cells.size,none⟩ 1).heap[k]? =w.heap[k]? :=λk hk=>by
  simp only[World.freeze,Nat.one_ne_zero,if_false,Array.getElem?_modify,ai (show ¬ w.heap.size=k by omega)];exact heap_alloc_old w.drew _ hk
 have O:∀ k:Nat,((w.drew.alloc (.cells cells e)).freeze ⟨w.heap.size,cells.size,none⟩ 1).cell? ⟨w.heap.size,k,none⟩=cells[k]? :=λk=>by
  have:=heap_alloc_new w.drew (.cells cells e);simp only[World.size_drew] at this;simp only[World.cell?,World.freeze,Nat.one_ne_zero,if_false,Array.getElem?_modify,if_true,this,Option.map_some,Option.isSome_none,Bool.false_eq_true]
 refine⟨_,_,_,β,by simp[Sem.run_bind,U,Result.andThen_ok,Sem.run_pure];rfl,.inl rfl,?_,hm.ext oG hold,Bh oG hold,λ_ h _=>h⟩;have hlen:b.data.toList.length=b.size:=by simp
 refine .sl _ _ _ _ _ (λk=>.int .u8 (b.data.toList.getD k 0).toNat) (λX=>?_) (λi p hp e=>?_) oG J.1 J.2 (λk hk=>?_) (λk d hk=>?_)
 .have:=hm.fb.lt _ X;omega
 .have:=hm.lt i p _ hp e;omega
 .rw[Nat.zero_add,O];simp at hk;refine⟨?_,rfl⟩;rw[<- hc,Array.getElem?_append_left (tn hk)];simp[hk]
 .rw[getElem?_map] at hk;cases C:b.data.toList[k]? with
  |none=>simp[C] at hk
  |some c=>
   simp[C] at hk;subst hk;have:b.data.toList.getD k 0=c:=by simp[dF,C,Option.getD_some]
   simp only[this];exact .s _ rfl
def ahU(hm:aQ P F m β w){d:D}{e:ez}(O:ts.size≠0)(hx:R F β w d x)(h:nR P m (ts.getD 0 0) d=some e)(hp:e.pre):
 e.bn=[]/\e.new=0/\a7 P F m nx β w e (do Pure.pure (Next.value (<- Builtin.len_ ts ty #[x]))):=by
 obtain⟨t,C⟩:∃ t,ts[0]? =some t:=⟨ts[0]'oG,oS⟩
 have ht:ts.getD 0 0=t:=by simp[Array.getD_eq_getD_getElem?,C]
 rw[ht] at h
 have sl:∀ {a:Option Addr} {k c:Nat},bE P t=true->x=.slice a k c->(Builtin.len_ ts ty #[x]).run P w=.ok (.int .i64 k) w:=by
  rintro a k c hs rfl;simp[Builtin.len_,C,run_underlying (ku hs).1,goInt]
 cases d with
 |sl es n=>
  simp[nR,aY] at h;subst h;refine⟨rfl,rfl,a7.val hm (v:=.int .i64 n) ?_ (.s _ rfl)⟩;rcases hx.vW with⟨_,rfl,a,cap,hv⟩|⟨b,o,cap,hv,_⟩<;>simp[Sem.run_bind,sl hp hv,Result.andThen_ok,Sem.run_pure]
 |z=>
  simp only[nR,aY] at h;subst h;refine⟨rfl,rfl,a7.val hm (v:=.int .i64 0) ?_ (.s _ rfl)⟩;let⟨a,hv⟩:=hx.D';simp only[Sem.run_bind,sl hp hv,Result.andThen_ok,Sem.run_pure];rfl
 |rs i off n=>
  simp[nR] at h;cases hi:m i with
  |none=>simp[hi] at h
  |some r=>
  simp[hi,aY] at h;subst h;let⟨p,J,an⟩:=hm.row i _ hi;let⟨a,cap,hv⟩:=hx.agb ⟨p,J,Vw an⟩;refine⟨rfl,rfl,a7.val hm (v:=.int .i64 n) ?_ (.s _ rfl)⟩;simp[Sem.run_bind,sl hp hv,Result.andThen_ok,Sem.run_pure]
 |agg cs=>
  simp[nR,aY] at h;subst h;refine⟨rfl,rfl,a7.val hm (v:=.int .i64 (rB P t)) ?_ (.s _ rfl)⟩;simp[Builtin.len_,C,run_underlying (N6 hp).1,goInt]
 |s v=>
  cases v with
  |string b=>
   simp[nR,aY] at h;subst h;obtain⟨rfl,_⟩:=hx.cX;refine⟨rfl,rfl,a7.val hm (v:=.int .i64 b.size) ?_ (.s _ rfl)⟩;simp[Builtin.len_,C,run_underlying (zz hp),goInt]
  |_=>simp[nR] at h
 |_=>simp[nR] at h
def Wv(hm:aQ P F m β w){k:IntKind}{a b:Int}{y:Value}(hx:R F β w (.s (.int k a)) x)(hy:R F β w (.s (.int k b)) y):
 a7 P F m nx β w { pre:=pre,val:=.s (.int k (if b<a then b else a)) } (do Pure.pure (Next.value (<- Builtin.min_ ts ty #[x,y]))):=by
 obtain⟨rfl,_⟩:=hx.cX;obtain⟨rfl,_⟩:=hy.cX;exact a7.val hm (v:=.int k (if b<a then b else a)) (by simp[Builtin.min_,Builtin.min2]) (.s _ rfl)
def aes(hm:aQ P F m β w){i off n:Nat}{e:TypeId}{rd:List Nat}(nY:ts.size≠0)(hx:R F β w (.rs i off n) x)(hi:m i=some (.cells cs e))(ht:bE P (ts.getD 0 0)=true)
 (hl:off+n*P.cellsOf e<=cs.length) (he:e=aK P (ts.getD 0 0)):
 a7 P F m nx β w { pre:=pre,val:=.bu [],bn:=[(i,some (.cells (fJ cs off (dp n (bm P e))) e))],rd:=rd } (do Pure.pure (Next.value (<- Builtin.clear_ ts ty #[x]))):=by
 obtain⟨t,U⟩:∃ t,ts[0]? =some t:=⟨ts[0]'oG,oS⟩
 have Mb:ts.getD 0 0=t:=by simp[Array.getD_eq_getD_getElem?,U]
 rw[Mb] at ht he;let⟨hu,X⟩:=ku ht;rw[<- he] at hu X;let⟨z,hz,C,h3,h4⟩:=A' (P:=P) w X;have CD:(bm P e).length=P.cellsOf e:=by rw[h3];simp[C]
 have self:fJ cs off (dp 0 (bm P e))=cs:=by
  rw[NF (by simp[dp];omega)];simp[dp]
 have KV:up m i (some (.cells cs e))=m:=by
  funext j;by_cases hj:j=i
  .subst hj;rw[ap,hi]
  .rw[aW _ _ hj]
 have zero:n=0->(∃ a c,x=.slice a 0 c)->a7 P F m nx β w { pre:=pre,val:=.bu [],bn:=[(i,some (.cells (fJ cs off (dp n (bm P e))) e))],rd:=rd } (do Pure.pure (Next.value (<- Builtin.clear_ ts ty #[x]))):=by
  rintro rfl ⟨a,c,rfl⟩;refine⟨.value (.tuple #[]),.tuple #[],w,β,?_,.inl rfl,.bu [] [] rfl oS,?_,Step.refl β w,λ_ h _=>h⟩
  .cases a<;>simp[Builtin.clear_,U,run_underlying hu]
  .simp[cT,self,KV];exact hm
 rcases hx.xX hm hi with⟨_,rfl,rfl,mG,a,rfl⟩|⟨b,o,room,hβ,an,rk⟩
 .exact zero rfl ⟨a,0,rfl⟩
 .rcases rk with⟨rfl,a,rfl⟩|⟨cap,rfl,g1,g2,g3,g4⟩
  .exact zero rfl ⟨a,0,rfl⟩
  .cases n with
   |zero=>exact zero rfl ⟨_,cap,rfl⟩
   |succ n=>
    have J:=OK (F:=F) (β:=β) (w:=w) (P:=P) C h3 h4 (n+1) ((n+1)*P.cellsOf e) rfl z.cells (λ_=>rfl)
    let⟨w',bL,ke,hs⟩:=MU (P:=P) hm hβ an (off:=off) (ds:=dp (n+1) (bm P e)) (vs:=(Builtin.zeroCells z.cells (n+1)).toList) (by
     have:=J.1
     simpa[Builtin.zeroCells,C] using this) (by rw[F1,CD];exact hl) (λu hu=>by
     have O:(Builtin.zeroCells z.cells (n+1)).toList=((Array.range ((n+1)*P.cellsOf e)).map (z.cells[· % z.cells.size]!)).toList:=by simp[Builtin.zeroCells,C]
     rw[O] at hu;let⟨k,hk⟩:=dW hu;have al:=(bO.1 hk).1;have:k<(dp (n+1) (bm P e)).length:=by rw[<- J.1];exact al
     exact(J.2 k _ u (by simp[this];rfl) hk).2) (λk d u hk hu=>by
     have O:(Builtin.zeroCells z.cells (n+1)).toList=((Array.range ((n+1)*P.cellsOf e)).map (z.cells[· % z.cells.size]!)).toList:=by simp[Builtin.zeroCells,C]
     rw[O] at hu
     exact(J.2 k d u hk hu).1)
    refine⟨.value (.tuple #[]),.tuple #[],w',β,?_,.inl rfl,.bu [] [] rfl oS,ke,hs,λ_ h _=>h⟩;simp[Builtin.clear_,U,run_underlying hu,hz,bL]
def acs(hm:aQ P F m β w){pre:Prop}(hx:R F β w (.pt cs) x):∃ a,x=.pointer (some a)/\a7 P F m nx β w { pre:=pre,val:=.pt cs } (Pure.pure (Next.value x)):=by
 obtain⟨b,o,rfl,_⟩:=hx.GW;exact⟨_,rfl,a7.val hm rfl hx⟩
def acu(hm:aQ P F m β w){i off:Nat}{pre:Prop}{rd:List Nat}{r:Row}(hx:R F β w (.rp i off) x)(hi:m i=some r):∃ a,x=.pointer (some a)/\a7 P F m nx β w { pre:=pre,val:=.rp i off,rd:=rd } (Pure.pure (Next.value x)):=by
 let⟨p,hp,an⟩:=hm.row i _ hi;obtain⟨b,bo,len,room,sz,C,rfl⟩:=hx.Ph hp an;exact⟨_,rfl,a7.val hm rfl hx⟩
def ac7(hm:aQ P F m β w)(hn:β nx=none){t:TypeId}:
 a7 P F m nx β w { pre:=pre,val:=.mp nx,bn:=[(nx,some (.map []))],new:=1 } (do Pure.pure (Next.value (<- Instr.makeMap t none))):=by
 have hp:∀ b,(Pl.map w.heap.size).blk=some b->b=w.heap.size:=λb hb=>by simp[Pl.blk] at hb;exact hb.symm
 refine⟨.value (.map (some w.heap.size)),_,w.alloc (.map #[] 0),up β nx (some (.map w.heap.size)),?_,.inl rfl,.mp nx _ s3,hm.alloc hn _ _ _ hp ?_,Dj hm _ hn _ hp,zA⟩
 .simp[Instr.makeMap]
 .exact .map [] w.heap.size #[] 0 (heap_alloc_new w _) rfl oS oS
def agc(hm:aQ P F m β w){t:Bool}{X O U:Value}{C J:D}(hc:X=.bool t)(ha:R F β w C O)(hb:R F β w J U)(h1:t=true->C.ask/\C.core.gL.isSome=true)(h2:t=false->J.ask/\J.core.gL.isSome=true):
 a7 P F m nx β w { pre:=pre,val:=.s (.bool (if t then C.core.gL.getD false else J.core.gL.getD false)) } (do Pure.pure (Next.value (if<- asBool X then O else U))):=by
 subst hc
 have inv:∀ {d:D} {v:Value},R F β w d v->d.ask/\d.core.gL.isSome=true->v=.bool (d.core.gL.getD false):=λ{d v} h hk=>by
  have:=h.zD d hk.1;have hb:=hk.2;unfold D.gL at hb ⊢;split at hb
  .rename_i b he;rw[he] at this;rw[this.cX.1];rfl
  .cases hb
 cases t with
 |true=>
  have:=inv ha (h1 rfl);rw[this];exact a7.val hm (v:=.bool (C.core.gL.getD false)) (by simp[asBool]) (.s _ rfl)
 |false=>
  have:=inv hb (h2 rfl);rw[this];exact a7.val hm (v:=.bool (J.core.gL.getD false)) (by simp[asBool]) (.s _ rfl)
end
end
end Go.Abs
