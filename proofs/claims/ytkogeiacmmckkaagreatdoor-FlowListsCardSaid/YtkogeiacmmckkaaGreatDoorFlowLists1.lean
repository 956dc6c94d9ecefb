/- Part 1. -/
import Derived.DeepKeys3
import Derived.KernelRfl
import Derived.RangeFuncLeaves
import Derived.WalkKit
import Derived.WideKeyMaps
set_option linter.all false
theorem kr {α:Sort _} {a b:α} (h:a=b:=by kernel_rfl):a=b:=h
theorem bB{α : Type _}{l : List α}{i : Nat}(h : i < l.length) : l[i]? = some l[i] := List.getElem?_eq_getElem h
theorem eg{α : Type _}{l : List α}{i : Nat}{a : α} : l.getD i a = l[i]?.getD a := List.getD_eq_getElem?_getD
theorem aK{α : Type _}(a b : α) : (some a = some b) = (a = b) := Option.some.injEq a b
theorem bZ{α : Type _}{l : List α}{i : Nat}{a : α} : l[i]? = some a ↔ ∃ h : i < l.length, l[i] = a := List.getElem?_eq_some_iff
theorem ay(a b : Bool) : ((a && b) = true) = (a = true ∧ b = true) := Bool.and_eq_true a b
theorem bg{n m : Nat}(h : Nat.ble n m = true) : n ≤ m := Nat.le_of_ble_eq_true h
theorem dX(n : Nat) : ((n : Int)).toNat = n := Int.toNat_natCast n
theorem df{α : Type _}{l : List α}{n : Nat}(h : n < l.length) : l[n] ∈ l := List.getElem_mem h
theorem ic{a : Int}(h : 0 ≤ a) : ∃ n : Nat, a = n := Int.eq_ofNat_of_zero_le h
theorem cX{α : Type _}{l : List α}{i : Nat}{a : α}(e : l[i]? = some a) : a ∈ l := List.mem_of_getElem? e
theorem dO{α : Type _}{l : List α}{i : Nat}(h : l.length ≤ i) : List.take i l = l := List.take_of_length_le h
theorem dm{α β : Type _}{f : α → β}{x : Option α}{b : β} : x.map f = some b ↔ ∃ a, x = some a ∧ f a = b := Option.map_eq_some_iff
theorem dY{α : Type _}{a : α}{l : List α}(h : a ∈ l) : ∃ i : Nat, l[i]? = some a := List.getElem?_of_mem h
theorem b7{α : Type _}{p : α → Bool}{l : List α} : l.all p = true ↔ ∀ x ∈ l, p x = true := List.all_eq_true
theorem cq{α β : Type _}(a : α)(b : β)(c : α)(d : β) : ((a, b) = (c, d)) = (a = c ∧ b = d) := Prod.mk.injEq a b c d
theorem bO(n : Nat) : n ≤ n := Nat.le_refl n
theorem oS{p : Prop}(h : p:=by simp) : p:=h
theorem oM{p : Prop}(h : p:=by dsimp only;omega) : p:=h
theorem oC{p : Prop}(h : p:=by decide) : p:=h
theorem oN{p : Prop}(h : p:=by assumption) : p:=h
theorem oP{p : Prop}(h : p:=by simp;omega) : p:=h
theorem oH{p : Prop}(h : p:=by cases h) : p:=h
theorem aF{p : Prop}(h : p:=by repeat' (first|exact trivial|exact rfl|refine And.intro ?_ ?_)) : p:=h
theorem bY{p : Prop}(h : p:=by simp[p9]) : p:=h
theorem cm{p : Prop}(h : p:=by simp[Op.operands]) : p:=h
theorem akN{p : Prop}(h : p:=by first|(simp;done)|exact⟨rfl,bg rfl⟩|(simp;omega)) : p:=h
theorem akO{p : Prop}(h : p:=by first|(simp;done)|omega|exact bg rfl) : p:=h
theorem akP{p : Prop}(h : p:=by first|rfl|exact bg rfl|(simp;done)|(simp;omega)|omega) : p:=h
theorem oG{p:Prop}(h:p:=by omega):p:=h
theorem eG{p:Prop}(h:p:=by repeat' (first|exact trivial|exact rfl|refine And.intro ?_ ?_)):p:=h
namespace Go.Abs
inductive D where
 |u
 |s (v:Value)
 |ub
 |cG (c:Bool) (d:D)
 |agg (cs:List D)
 |bp (cs:List D)
 |z
 |sl (es:List D) (n:Nat)
 |sc (es:List D) (n:Nat)
 |pt (cs:List D)
 |rs (i off n:Nat)
 |rp (i off:Nat)
 |mp (i:Nat)
 |im (es:List (Value×D))
 |fn (f:Fn) (fs cs:List D)
 |yl (i:Nat)
 deriving Inhabited
inductive Pl where
 |dead
 |nil
 |cells (b o len room sz:Nat)
 |map (r:Nat)
 |raw (r:Nat)
 |lp (r:Nat)
def Pl.bJ:Pl->Option Nat
 | .cells b _ _ _ _=>some b
 | .map r=>some r
 | .raw r=>some r
 | .lp r=>some r
 |_=>none
@[simp] def Gf : Value -> Bool
 | .bool _ | .int _ _ | .string _ | .pointer none | .nilFunc | .nilIface | .map none=>true
 |_=>false
def plain:Value->Bool
 | .iface _ (.agg cs)=>cs.toList.all Gf
 | .iface _ v=>Gf v
 |v=>Gf v
abbrev az:=Nat->Option Pl
def az.free(β:az)(b:Nat):Prop:=∀ i p,β i=some p->p.bJ≠some b
inductive R(F:Nat->Prop)(β:az)(w:World):D->Value->Prop
 |u (v:Value):R F β w .u v
 |s (v:Value) (h:plain v=true):R F β w (.s v) v
 |ub (b:Bool):R F β w .ub (.bool b)
 |cG (c:Bool) (d:D) (v:Value) (h:c=true->R F β w d v) (h':c=false->v=undef):R F β w (.cG c d) v
 |agg (cs:List D) (vs:List Value) (hl:vs.length=cs.length) (h:∀ (k:Nat) (d:D) (v:Value),cs[k]? =some d->vs[k]? =some v->R F β w d v):R F β w (.agg cs) (.agg vs.toArray)
 |bp (cs:List D) (vs:List Value) (hl:vs.length=cs.length) (h:∀ (k:Nat) (d:D) (v:Value),cs[k]? =some d->vs[k]? =some v->R F β w d v):R F β w (.bp cs) (.tuple vs.toArray)
 |z:R F β w .z (.slice none 0 0)
 |yl (i l:Nat) (h:β i=some (.lp l)):R F β w (.yl i) (.func (.yield l) #[] #[])
 |Bk (i:Nat) (v:Value) (h:β i=some .dead) (hv:v.oneCell'=true):R F β w (.yl i) v
 |iz (a:Option Addr) (cap:Nat):R F β w (.sl [] 0) (.slice a 0 cap)
 |sl (es:List D) (n b o cap:Nat) (us:Nat->Value) (hf:¬ F b) (hb:β.free b) (aj:b<w.heap.size) (ow:n<=cap) (dt:cap<=maxLen)
  (hc:∀ k:Nat,k<es.length->w.cell? ⟨b,o+k,none⟩=some (us k)/\(us k).oneCell'=true) (h:∀ (k:Nat) (d:D),es[k]? =some d->R F β w d (us k)):R F β w (.sl es n) (.slice (some ⟨b,o,none⟩) n cap)
 |sc (es:List D) (n:Nat) (a:Option Addr) (h:R F β w (.sl es n) (.slice a n n)):R F β w (.sc es n) (.slice a n n)
 |pt (cs:List D) (b o:Nat) (us:Nat->Value) (hf:¬ F b) (hb:β.free b) (aj:b<w.heap.size)
  (hc:∀ k:Nat,k<cs.length->w.cell? ⟨b,o+k,none⟩=some (us k)/\(us k).oneCell'=true) (h:∀ (k:Nat) (d:D),cs[k]? =some d->R F β w d (us k)):R F β w (.pt cs) (.pointer (some ⟨b,o,none⟩))
 |lG (i off n:Nat) (v:Value) (h:β i=some .dead) (hv:v.oneCell'=true):R F β w (.rs i off n) v
 |jR (i:Nat) (a:Option Addr) (h:β i=some .nil):R F β w (.rs i 0 0) (.slice a 0 0)
 |kX (i off:Nat) (a:Option Addr) (b o len room sz:Nat) (h:β i=some (.cells b o len room sz)):R F β w (.rs i off 0) (.slice a 0 0)
 |rs (i off n cap b o len room sz:Nat) (h:β i=some (.cells b o len room sz)) (hn:n<=cap) (dt:cap<=maxLen)
  (h1:len<=off+cap*sz) (h2:off+cap*sz<=room):R F β w (.rs i off n) (.slice (some ⟨b,o+off,none⟩) n cap)
 |rH (i off:Nat) (v:Value) (h:β i=some .dead) (hv:v.oneCell'=true):R F β w (.rp i off) v
 |rp (i off b o len room sz:Nat) (h:β i=some (.cells b o len room sz)):R F β w (.rp i off) (.pointer (some ⟨b,o+off,none⟩))
 |y6 (i:Nat) (v:Value) (h:β i=some .dead) (hv:v.oneCell'=true):R F β w (.mp i) v
 |mp (i r:Nat) (h:β i=some (.map r)):R F β w (.mp i) (.map (some r))
 |im (es:List (Value×D)) (r:Nat) (ms:Array MapEntry) (clock:Nat) (hf:¬ F r) (hb:β.free r) (hc:w.heap[r]? =some (.map ms clock)) (hl:ms.size=es.length) (ef:(es.map (·.1)).Nodup)
  (hk:∀ (k:Nat) (x:Value×D) (m:MapEntry),es[k]? =some x->ms[k]? =some m->m.key=x.1) (h:∀ (k:Nat) (x:Value×D) (m:MapEntry),es[k]? =some x->ms[k]? =some m->R F β w x.2 m.val):R F β w (.im es) (.map (some r))
 |fn (f:Fn) (fs cs:List D) (us vs:List Value) (hl:us.length=fs.length) (kY:vs.length=cs.length)
  (h:∀ (k:Nat) (d:D) (v:Value),fs[k]? =some d->us[k]? =some v->R F β w d v) (h':∀ (k:Nat) (d:D) (v:Value),cs[k]? =some d->vs[k]? =some v->R F β w d v):R F β w (.fn f fs cs) (.func f us.toArray vs.toArray)
abbrev Out(w w':World):Prop:=w'.os=w.os/\w'.output=w.output
theorem Out.trans{C J M:World}(h:Out C J)(k:Out J M):Out C M:=⟨k.1.trans h.1,k.2.trans h.2⟩
def Skel(w w':World)(r:Nat):Prop:=∀ L,w.heap[r]? =some (.loop L)->∃ st pe,w'.heap[r]? =some (.loop { L with state:=st,pending:=pe })
theorem nd{w w':World}{r:Nat}(h:w'.heap[r]? =w.heap[r]?):Skel w w' r:=fun L C=>⟨L.state,L.pending,h.trans C⟩
theorem JR{w w':World}{r:Nat}(h:r<w.heap.size->w'.heap[r]? =w.heap[r]?):Skel w w' r:=fun L C=>⟨L.state,L.pending,(h (Array.getElem?_eq_some_iff.1 C).1).trans C⟩
theorem Skel.trans{w C J:World}{r:Nat}(h:Skel w C r)(k:Skel C J r):Skel w J r:=fun L M=>by
 obtain⟨a,b,h1⟩:=h L M;obtain⟨c,d,h2⟩:=k _ h1;exact⟨c,d,h2⟩
structure Step(β:az)(w:World)(β':az)(w':World):Prop where
 size:w.heap.size<=w'.heap.size
 ej:∀ b,b<w.heap.size->β.free b->w'.heap[b]? =w.heap[b]? /\β'.free b
 gq:∀ i p,β i=some p->β' i=some p\/β' i=some .dead
 out:Out w w'
 lp:∀ i r,β i=some (.lp r)->β' i=some (.lp r)->Skel w w' r
theorem Step.refl(β:az)(w:World):Step β w β w:=⟨bO _,fun _ _ h=>⟨rfl,h⟩,fun _ _ h=>.inl h,⟨rfl,rfl⟩,fun _ _ _ _=>nd rfl⟩
theorem Step.trans{U X β₃:az}{J M O:World}(h:Step U J X M)(k:Step X M β₃ O):Step U J β₃ O:=by
 refine⟨Nat.le_trans h.size k.size,fun b hb hf=>?_,fun i p hp=>?_,h.out.trans k.out,fun i r hp C=>?_⟩
 .obtain⟨h1,h2⟩:=h.ej b hb hf;obtain⟨k1,k2⟩:=k.ej b (Nat.lt_of_lt_of_le hb h.size) h2;exact⟨k1.trans h1,k2⟩
 .rcases h.gq i p hp with h1|h1
  .exact k.gq i p h1
  .right;rcases k.gq i _ h1 with h2|h2<;>exact h2
 .rcases h.gq i _ hp with h1|h1
  .exact(h.lp i r hp h1).trans (k.lp i r h1 C)
  .rcases k.gq i _ h1 with h2|h2<;>(rw[h2] at C;cases C)
theorem cell_of_heap{w w':World}{b o:Nat}(h:w'.heap[b]? =w.heap[b]?):w'.cell? ⟨b,o,none⟩=w.cell? ⟨b,o,none⟩:=by
 simp[World.cell?,h]
def mC(w w':World)(b:Nat):Prop:=(∀ o u,w.cell? ⟨b,o,none⟩=some u->w'.cell? ⟨b,o,none⟩=some u)/\∀ ms c,w.heap[b]? =some (.map ms c)->w'.heap[b]? =some (.map ms c)
theorem tQ{w w':World}{b:Nat}(h:w'.heap[b]? =w.heap[b]?):mC w w' b:=⟨fun _ _ hu=>(cell_of_heap h).trans hu,fun _ _ hm=>h.trans hm⟩
theorem mC.refl(w:World)(b:Nat):mC w w b:=⟨fun _ _ h=>h,fun _ _ h=>h⟩
theorem R.gen{F F':Nat->Prop}{β β':az}{w w':World}(bK:w.heap.size<=w'.heap.size)
 (O:∀ b,b<w.heap.size->¬ F b->β.free b->mC w w' b/\β'.free b/\¬ F' b)
 (C:∀ i p,(∀ r,p≠ .raw r)->β i=some p->β' i=some p\/β' i=some .dead) {d:D} {v:Value} (h:R F β w d v):R F' β' w' d v:=by
 induction h with
 |u v=>exact .u v
 |s v h=>exact .s v h
 |ub b=>exact .ub b
 |cG c d v _ h' ih=>exact .cG c d v ih h'
 |agg cs vs hl _ ih=>exact .agg cs vs hl ih
 |bp cs vs hl _ ih=>exact .bp cs vs hl ih
 |z=>exact .z
 |yl i l h=>
  rcases C i _ oS h with h1|h1
  .exact .yl i l h1
  .exact .Bk i _ h1 rfl
 |Bk i v h hv=>exact .Bk i v (by rcases C i _ oS h with h1|h1<;>exact h1) hv
 |iz a cap=>exact .iz a cap
 |sl es n b o cap us hf hb aj ow dt hc _ ih=>
  obtain⟨h1,h2,J⟩:=O b aj hf hb;exact .sl es n b o cap us J h2 (Nat.lt_of_lt_of_le aj bK) ow dt (fun k hk=>⟨h1.1 _ _ (hc k hk).1,(hc k hk).2⟩) ih
 |sc es n a _ ih=>exact .sc es n a ih
 |pt cs b o us hf hb aj hc _ ih=>
  obtain⟨h1,h2,J⟩:=O b aj hf hb;exact .pt cs b o us J h2 (Nat.lt_of_lt_of_le aj bK) (fun k hk=>⟨h1.1 _ _ (hc k hk).1,(hc k hk).2⟩) ih
 |lG i off n v h hv=>exact .lG i off n v (by rcases C i _ oS h with h1|h1<;>exact h1) hv
 |jR i a h=>
  rcases C i _ oS h with h1|h1
  .exact .jR i a h1
  .exact .lG i 0 0 _ h1 rfl
 |kX i off a b o len room sz h=>
  rcases C i _ oS h with h1|h1
  .exact .kX i off a b o len room sz h1
  .exact .lG i off 0 _ h1 rfl
 |rs i off n cap b o len room sz h hn dt h1 h2=>
  rcases C i _ oS h with J|J
  .exact .rs i off n cap b o len room sz J hn dt h1 h2
  .exact .lG i off n _ J rfl
 |rH i off v h hv=>exact .rH i off v (by rcases C i _ oS h with h1|h1<;>exact h1) hv
 |rp i off b o len room sz h=>
  rcases C i _ oS h with h1|h1
  .exact .rp i off b o len room sz h1
  .exact .rH i off _ h1 rfl
 |y6 i v h hv=>exact .y6 i v (by rcases C i _ oS h with h1|h1<;>exact h1) hv
 |mp i r h=>
  rcases C i _ oS h with h1|h1
  .exact .mp i r h1
  .exact .y6 i _ h1 rfl
 |im es r ms clock hf hb hc hl ef hk _ ih=>
  obtain⟨h1,h2,J⟩:=O r (Array.getElem?_eq_some_iff.1 hc).1 hf hb;exact .im es r ms clock J h2 (h1.2 _ _ hc) hl ef hk ih
 |fn f fs cs us vs hl kY _ _ ih M=>exact .fn f fs cs us vs hl kY ih M
theorem R.step{F:Nat->Prop}{β β':az}{w w':World}(hs:Step β w β' w'){d:D}{v:Value}(h:R F β w d v):R F β' w' d v:=
 h.gen hs.size (fun b hb hf C=>⟨tQ (hs.ej b hb C).1,(hs.ej b hb C).2,hf⟩) fun i p _=>hs.gq i p
inductive RS where
 |ready
 |busy
 |done (e:Exit)
def acU:Exit->Option Code
 | .ret=>some .ret
 | .exit id=>some (.exit id)
 |_=>none
def RS.Is(L:Loop):RS->Prop
 | .ready=>L.state=.ready/\L.pending=none
 | .busy=>L.state=.busy/\L.pending=none
 | .done e=>L.state=.done/\L.pending=acU e
inductive Row where
 |cells (cs:List D) (e:TypeId)
 |map (es:List (Value×D))
 |raw (r:Nat) (o:Obj)
 |bs (u:Bool) (x:D) (T:TypeId)
 |iA (f:Nat->Option Nat) (r:Row)
 |lp (k:RS)
abbrev Mem:=Nat->Option Row
inductive kP(P:Program)(F:Nat->Prop)(β:az)(w:World):Row->Pl->Prop
 |nil (e:TypeId):kP P F β w (.cells [] e) .nil
 |cells (cs:List D) (e:TypeId) (b o room sz:Nat) (c:Array Value) (hb:w.heap[b]? =some (.cells c e (0,0))) (hr:o+room<=c.size) (hlen:cs.length<=room) (bK:sz=P.cellsOf e)
  (h:∀ (k:Nat) (d:D),cs[k]? =some d->∃ v,c[o+k]? =some v/\R F β w d v/\v.oneCell'=true):kP P F β w (.cells cs e) (.cells b o cs.length room sz)
 |map (es:List (Value×D)) (r:Nat) (ms:Array MapEntry) (clock:Nat) (hb:w.heap[r]? =some (.map ms clock)) (hl:ms.size=es.length) (ef:(es.map (·.1)).Nodup)
  (h:∀ (k:Nat) (x:Value×D) (m:MapEntry),es[k]? =some x->ms[k]? =some m->m.key=x.1/\R F β w x.2 m.val):kP P F β w (.map es) (.map r)
 |raw (r:Nat) (o:Obj) (hb:w.heap[r]? =some o):kP P F β w (.raw r o) (.raw r)
 |lp (k:RS) (r:Nat) (L:Loop) (hb:w.heap[r]? =some (.loop L)) (hk:RS.Is L k):kP P F β w (.lp k) (.lp r)
 |bs (u:Bool) (x:D) (T:TypeId) (b:Nat) (v:Value) (hb:w.heap[b]? =some (.cells #[.pointer (if u then some ⟨b,0,none⟩ else none),v] T (0,0))) (bK:P.cellsOf T=2) (h:R F β w x v) (h1:v.oneCell'=true):kP P F β w (.bs u x T) (.cells b 0 2 2 2)
def az.via(β:az)(f:Nat->Option Nat):az:=fun i=>(f i).bind β
inductive cO(P:Program)(F:Nat->Prop)(β:az)(w:World):Row->Pl->Prop
 |nil (e:TypeId):cO P F β w (.cells [] e) .nil
 |cells (cs:List D) (e:TypeId) (b o room sz:Nat) (c:Array Value) (hb:w.heap[b]? =some (.cells c e (0,0))) (hr:o+room<=c.size) (hlen:cs.length<=room) (bK:sz=P.cellsOf e)
  (h:∀ (k:Nat) (d:D),cs[k]? =some d->∃ v,c[o+k]? =some v/\R F β w d v/\v.oneCell'=true):cO P F β w (.cells cs e) (.cells b o cs.length room sz)
 |map (es:List (Value×D)) (r:Nat) (ms:Array MapEntry) (clock:Nat) (hb:w.heap[r]? =some (.map ms clock)) (hl:ms.size=es.length) (ef:(es.map (·.1)).Nodup)
  (h:∀ (k:Nat) (x:Value×D) (m:MapEntry),es[k]? =some x->ms[k]? =some m->m.key=x.1/\R F β w x.2 m.val):cO P F β w (.map es) (.map r)
 |raw (r:Nat) (o:Obj) (hb:w.heap[r]? =some o):cO P F β w (.raw r o) (.raw r)
 |lp (k:RS) (r:Nat) (L:Loop) (hb:w.heap[r]? =some (.loop L)) (hk:RS.Is L k):cO P F β w (.lp k) (.lp r)
 |bs (u:Bool) (x:D) (T:TypeId) (b:Nat) (v:Value) (hb:w.heap[b]? =some (.cells #[.pointer (if u then some ⟨b,0,none⟩ else none),v] T (0,0))) (bK:P.cellsOf T=2) (h:R F β w x v) (h1:v.oneCell'=true):cO P F β w (.bs u x T) (.cells b 0 2 2 2)
 |iA (f:Nat->Option Nat) (r:Row) (p:Pl) (F₂:Nat->Prop) (h1:∀ b,F b->F₂ b) (h2:∀ b,¬ β.free b->(β.via f).free b->F₂ b) (h:kP P F₂ (β.via f) w r p):cO P F β w (.iA f r) p
def wl:List (Nat×Array Value):=[(0, #[.int .u64 1,.int .u64 10,.int .u64 100,.int .u64 1000,.int .u64 10000,.int .u64 100000,.int .u64 1000000,.int .u64 10000000,.int .u64 100000000,.int .u64 1000000000,.int .u64 10000000000,.int .u64 100000000000,.int .u64 1000000000000,.int .u64 10000000000000,.int .u64 100000000000000,.int .u64 1000000000000000,.int .u64 10000000000000000,.int .u64 100000000000000000,.int .u64 1000000000000000000,.int .u64 10000000000000000000])]
def AG(w:World)(t:Nat×Array Value):Prop:=∃ e k,w.heap[t.1]? =some (.cells t.2 e k)
theorem AG.of{w w':World}{t:Nat×Array Value}(h:AG w t)(hk:w'.heap[t.1]? =w.heap[t.1]?):AG w' t:=by
 obtain⟨e,k,h⟩:=h;exact⟨e,k,hk.trans h⟩
structure FB(F:Nat->Prop)(w:World):Prop where
 lt:∀ b,F b->b<w.heap.size
 gM:∀ t∈wl,F t.1/\AG w t
theorem FB.next{F F':Nat->Prop}{w w':World}(h:FB F w)(aj:∀ b,F' b->b<w'.heap.size)(C:∀ b,F b->F' b)(hk:∀ t∈wl,F t.1->w'.heap[t.1]? =w.heap[t.1]?):FB F' w':=
 ⟨aj,fun t ht=>⟨C _ (h.gM t ht).1,(h.gM t ht).2.of (hk t ht (h.gM t ht).1)⟩⟩
theorem aaY{w:World}{t:Nat×Array Value}(h:AG w t)(x:Option (List Deferred)):w.heap[t.1]? ≠some (.deferred x):=by
 obtain⟨e,k,h⟩:=h;rw[h];simp
structure aC(P:Program)(F:Nat->Prop)(m:Mem)(β:az)(w:World):Prop where
 row:∀ i r,m i=some r->∃ p,β i=some p/\cO P F β w r p
 inj:∀ i j p q b,β i=some p->β j=some q->p.bJ=some b->q.bJ=some b->i=j
 lt:∀ i p b,β i=some p->p.bJ=some b->b<w.heap.size
 nf:∀ i p b,β i=some p->p.bJ=some b->¬ F b
 fb:FB F w
def up{α:Type}(f:Nat->α)(k:Nat)(v:α):Nat->α:=fun j=>if j=k then v else f j
theorem zY{α:Type}(f:Nat->α)(k:Nat)(v:α)(j:Nat):up f k v j=if j=k then v else f j:=rfl
theorem au{α:Type}(f:Nat->α)(k:Nat)(v:α):up f k v k=v:=by simp[up]
theorem bE{α:Type}(f:Nat->α){k:Nat}(v:α){j:Nat}(h:j≠k):up f k v j=f j:=by simp[up,h]
section
variable{P:Program}{F:Nat->Prop}{β β':az}{w w':World}{m:Mem}
theorem kP.gen{F':Nat->Prop}(bK:w.heap.size<=w'.heap.size)
 (J:∀ b,b<w.heap.size->¬ F b->β.free b->mC w w' b/\β'.free b/\¬ F' b)
 (C:∀ i p,(∀ r,p≠ .raw r)->β i=some p->β' i=some p\/β' i=some .dead) {r:Row} {p:Pl} (hb:∀ b,p.bJ=some b->w'.heap[b]? =w.heap[b]?) (h:kP P F β w r p):kP P F' β' w' r p:=by
 cases h with
 |nil e=>exact .nil e
 |cells cs e b o room sz c hc hr hlen hs hh=>
  refine .cells cs e b o room sz c ((hb b rfl).trans hc) hr hlen hs fun k d hk=>?_;obtain⟨v,h1,h2,M⟩:=hh k d hk;exact⟨v,h1,h2.gen bK J C,M⟩
 |map es r ms clock hc hl ef hh=>
  refine .map es r ms clock ((hb r rfl).trans hc) hl ef fun k x O hk hm=>?_;obtain⟨h1,h2⟩:=hh k x O hk hm;exact⟨h1,h2.gen bK J C⟩
 |raw r o hc=>exact .raw r o ((hb r rfl).trans hc)
 |lp k r L hc hk=>exact .lp k r L ((hb r rfl).trans hc) hk
 |bs u x T b v hc hs hx h1=>exact .bs u x T b v ((hb b rfl).trans hc) hs (hx.gen bK J C) h1
theorem az.vD{β:az}{b:Nat}(h:β.free b)(f:Nat->Option Nat):(β.via f).free b:=fun i p hp=>by
 unfold az.via at hp;obtain⟨j,_,hj⟩:=Option.bind_eq_some_iff.1 hp;exact h j p hj
theorem cO.gen{F':Nat->Prop}(bK:w.heap.size<=w'.heap.size)
 (M:∀ b,b<w.heap.size->¬ F b->β.free b->mC w w' b/\β'.free b/\¬ F' b)
 (J:∀ i p,(∀ r,p≠ .raw r)->β i=some p->β' i=some p\/β' i=some .dead) {r:Row} {p:Pl} (hb:∀ b,p.bJ=some b->w'.heap[b]? =w.heap[b]?) (h:cO P F β w r p):cO P F' β' w' r p:=by
 cases h with
 |nil e=>exact .nil e
 |cells cs e b o room sz c hc hr hlen hs hh=>
  refine .cells cs e b o room sz c ((hb b rfl).trans hc) hr hlen hs fun k d hk=>?_;obtain⟨v,h1,h2,h3⟩:=hh k d hk;exact⟨v,h1,h2.gen bK M J,h3⟩
 |map es r ms clock hc hl ef hh=>
  refine .map es r ms clock ((hb r rfl).trans hc) hl ef fun k x mm hk hm=>?_;obtain⟨h1,h2⟩:=hh k x mm hk hm;exact⟨h1,h2.gen bK M J⟩
 |raw r o hc=>exact .raw r o ((hb r rfl).trans hc)
 |lp k r L hc hk=>exact .lp k r L ((hb r rfl).trans hc) hk
 |bs u x T b v hc hs hx h1=>exact .bs u x T b v ((hb b rfl).trans hc) hs (hx.gen bK M J) h1
 |iA f r _ F₂ h1 h2 h=>
  refine .iA f r p (fun b=>F' b\/(¬ β'.free b/\(β'.via f).free b)) (fun b hb=>.inl hb) (fun b C O=>.inr ⟨C,O⟩) (h.gen bK (fun b aj C O=>?_) (fun i q hq hi=>?_) hb)
  .have X:β.free b:=Classical.byContradiction fun hn=>C (h2 b hn O);obtain⟨k1,U,k3⟩:=M b aj (fun e=>C (h1 b e)) X;exact⟨k1,az.vD U f,fun e=>e.elim k3 fun e=>e.1 U⟩
  .unfold az.via at hi ⊢;obtain⟨j,hj,hβ⟩:=Option.bind_eq_some_iff.1 hi;rw[hj];exact J j q hq hβ
theorem cO.step{r:Row}{p:Pl}(hs:Step β w β' w')(hb:∀ b,p.bJ=some b->w'.heap[b]? =w.heap[b]?)(h:cO P F β w r p):cO P F β' w' r p:=
 h.gen hs.size (fun b hb hf C=>⟨tQ (hs.ej b hb C).1,(hs.ej b hb C).2,hf⟩) (fun i p _=>hs.gq i p) hb
theorem kP.live{r:Row}{p:Pl}(h:kP P F β w r p):p≠ .dead:=by cases h<;>simp
theorem cO.live{r:Row}{p:Pl}(h:cO P F β w r p):p≠ .dead:=by
 cases h with
 |iA _ _ _ _ _ _ h=>exact h.live
 |_=>simp
def Row.sT(f:Nat->Option Nat):Row->Row
 | .iA g r=>.iA (fun i=>(g i).bind f) r
 |r=>.iA f r
theorem cO.base{r:Row}{p:Pl}(hq:∀ f r',r≠ .iA f r')(h:cO P F β w r p):kP P F β w r p:=by
 cases h with
 |nil e=>exact .nil e
 |cells cs e b o room sz c hc hr hlen hs hh=>exact .cells cs e b o room sz c hc hr hlen hs hh
 |map es r ms clock hc hl ef hh=>exact .map es r ms clock hc hl ef hh
 |raw r o hc=>exact .raw r o hc
 |lp k r L hc hk=>exact .lp k r L hc hk
 |bs u x T b v hc hs hx h1=>exact .bs u x T b v hc hs hx h1
 |iA f r _ _ _ _ _=>exact absurd rfl (hq f r)
theorem kP.row{r:Row}{p:Pl}(h:kP P F β w r p):cO P F β w r p:=by
 cases h with
 |nil e=>exact .nil e
 |cells cs e b o room sz c hc hr hlen hs hh=>exact .cells cs e b o room sz c hc hr hlen hs hh
 |map es r ms clock hc hl ef hh=>exact .map es r ms clock hc hl ef hh
 |raw r o hc=>exact .raw r o hc
 |lp k r L hc hk=>exact .lp k r L hc hk
 |bs u x T b v hc hs hx h1=>exact .bs u x T b v hc hs hx h1
theorem kP.qi{F':Nat->Prop}{r:Row}{p:Pl}(C:∀ b,b<w.heap.size->β.free b->F' b->F b)(h:kP P F β w r p):kP P F' β w r p:=
 h.gen (bO _) (fun b hb h1 h2=>⟨mC.refl w b,h2,fun e=>h1 (C b hb h2 e)⟩) (fun _ _ _ h=>.inl h) fun _ _=>rfl
def hidden(F:Nat->Prop)(β:az)(f:Nat->Option Nat):Nat->Prop:=fun b=>F b\/(¬ β.free b/\(β.via f).free b)
theorem Cn(β:az)(f g:Nat->Option Nat):(β.via f).via g=β.via fun i=>(g i).bind f:=by
 funext i;simp only[az.via];cases g i<;>rfl
theorem cO.seen{f:Nat->Option Nat}{r:Row}{p:Pl}(h:cO P F β w (r.sT f) p):cO P (hidden F β f) (β.via f) w r p:=by
 have key:∀ r',cO P F β w (.iA f r') p->kP P (hidden F β f) (β.via f) w r' p:=fun r' h=>by
  cases h with
  |iA _ _ _ F₂ h1 h2 h=>exact h.qi fun b _ _ hb=>hb.elim (h1 b) fun e=>h2 b e.1 e.2
 cases r with
 |iA g r=>
  simp only[Row.sT] at h;cases h with
  |iA _ _ _ F₂ h1 h2 h=>
  refine .iA g r p F₂ (fun b hb=>?_) (fun b C J=>?_) (by rw[Cn];exact h)
  .rcases hb with hb|⟨C,J⟩
   .exact h1 b hb
   .exact h2 b C (by rw[<- Cn];exact az.vD J g)
  .exact h2 b (fun e=>C (az.vD e f)) (by rw[<- Cn];exact J)
 |_=>exact(key _ h).row
theorem cO.Ud{F':Nat->Prop}{f:Nat->Option Nat}{r:Row}{p:Pl}(h:cO P F' (β.via f) w r p)(h1:∀ b,F b->F' b)(h2:∀ b,¬ β.free b->(β.via f).free b->F' b):cO P F β w (r.sT f) p:=by
 cases r with
 |iA g r=>
  simp only[Row.sT];cases h with
  |iA _ _ _ F₂ C J h=>
  refine .iA _ r p F₂ (fun b hb=>C b (h1 b hb)) (fun b k1 M=>?_) (by rw[<- Cn];exact h);by_cases hb:(β.via f).free b
  .exact C b (h2 b k1 hb)
  .exact J b hb (by rw[Cn];exact M)
 |_=>exact .iA f _ p F' h1 h2 (h.base oS)
theorem aC.oW(h:aC P F m β w){i:Nat}{p:Pl}{b:Nat}(hp:β i=some p)(hb:p.bJ=some b){j:Nat}{q:Pl}(hq:β j=some q)(C:j≠i):q.bJ≠some b:=
 fun e=>C (h.inj j i q p b hq hp e hb)
theorem zM(h:aC P F m β w)(o:Obj){nx:Nat}(hn:β nx=none)(p:Pl)(hp:∀ b,p.bJ=some b->b=w.heap.size):Step β w (up β nx (some p)) (w.alloc o):=by
 refine⟨oS,fun b hb hf=>⟨heap_alloc_old w o hb,fun i q hq=>?_⟩,fun i q hq=>?_,⟨rfl,rfl⟩,fun i r _ _=>JR fun hr=>heap_alloc_old w o hr⟩
 .by_cases hi:i=nx
  .subst hi;rw[au] at hq;cases hq;intro e;have:=hp b e;omega
  .rw[bE _ _ hi] at hq;exact hf i q hq
 .left;rw[bE _ _ (fun e=>by rw[e,hn] at hq;cases hq)];exact hq
theorem aC.alloc(h:aC P F m β w){nx:Nat}(hn:β nx=none)(o:Obj)(r:Row)(p:Pl)(hp:∀ b,p.bJ=some b->b=w.heap.size)
 (hr:cO P F (up β nx (some p)) (w.alloc o) r p):aC P F (up m nx (some r)) (up β nx (some p)) (w.alloc o):=by
 have hs:=zM h o hn p hp;refine⟨fun i r' hi=>?_,fun i j q U b hq C e M=>?_,fun i q b hq e=>?_,fun i q b hq e=>?_,?_⟩
 .by_cases J:i=nx
  .subst J;rw[au] at hi;cases hi;exact⟨p,au _ _ _,hr⟩
  .rw[bE _ _ J] at hi;obtain⟨q,hq,aD⟩:=h.row i r' hi;exact⟨q,by rw[bE _ _ J];exact hq,aD.step hs fun b hb=>heap_alloc_old w o (h.lt i q b hq hb)⟩
 .by_cases hi:i=nx<;>by_cases hj:j=nx
  .rw[hi,hj]
  .subst hi;rw[au] at hq;rw[bE _ _ hj] at C;cases hq;have h1:=hp b e;have h2:=h.lt j U b C M;omega
  .subst hj;rw[au] at C;rw[bE _ _ hi] at hq;cases C;have h1:=hp b M;have h2:=h.lt i q b hq e;omega
  .rw[bE _ _ hi] at hq;rw[bE _ _ hj] at C;exact h.inj i j q U b hq C e M
 .by_cases hi:i=nx
  .subst hi;rw[au] at hq;cases hq;have:=hp b e;simp;omega
  .rw[bE _ _ hi] at hq;have:=h.lt i q b hq e;simp;omega
 .by_cases hi:i=nx
  .subst hi;rw[au] at hq;cases hq;intro O;have h1:=hp b e;have h2:=h.fb.lt b O;omega
  .rw[bE _ _ hi] at hq;exact h.nf i q b hq e
 .exact h.fb.next (fun b hb=>by have:=h.fb.lt b hb;simp;omega) (fun _ h=>h) fun t _ O=>heap_alloc_old w o (h.fb.lt _ O)
theorem zP(β:az)(w:World)(i:Nat):Step β w (up β i (some .dead)) w:=by
 refine⟨bO _,fun b _ hf=>⟨rfl,fun j q hq=>?_⟩,fun j q hq=>?_,⟨rfl,rfl⟩,fun _ _ _ _=>nd rfl⟩
 .by_cases hj:j=i
  .subst hj;rw[au] at hq;cases hq;simp[Pl.bJ]
  .rw[bE _ _ hj] at hq;exact hf j q hq
 .by_cases hj:j=i
  .subst hj;exact .inr (au _ _ _)
  .exact .inl (by rw[bE _ _ hj];exact hq)
theorem aC.dead(h:aC P F m β w)(i:Nat):aC P F (up m i none) (up β i (some .dead)) w:=by
 have hs:=zP β w i
 have C:∀ j q b,up β i (some .dead) j=some q->q.bJ=some b->j≠i/\β j=some q:=fun j q b hq e=>by
  by_cases hj:j=i
  .subst hj;rw[au] at hq;cases hq;simp[Pl.bJ] at e
  .rw[bE _ _ hj] at hq;exact⟨hj,hq⟩
 refine⟨fun j r' hj=>?_,fun j k q O b hq U e M=>?_,fun j q b hq e=>h.lt j q b (C j q b hq e).2 e,fun j q b hq e=>h.nf j q b (C j q b hq e).2 e,h.fb⟩
 .by_cases J:j=i
  .subst J;rw[au] at hj;cases hj
  .rw[bE _ _ J] at hj;obtain⟨q,hq,aD⟩:=h.row j r' hj;exact⟨q,by rw[bE _ _ J];exact hq,aD.step hs fun b _=>rfl⟩
 .exact h.inj j k q O b (C j q b hq e).2 (C k O b U M).2 e M
theorem B2(h:aC P F m β w){i:Nat}{p:Pl}{b:Nat}(hp:β i=some p)(hb:p.bJ=some b)(C:w.heap.size<=w'.heap.size)
 (ho:∀ k,k≠b->w'.heap[k]? =w.heap[k]?) (M:Out w w':=by first|exact⟨rfl,rfl⟩|assumption) (J:∀ r,p≠ .lp r:=by intro _ h;cases h):Step β w β w':=
 ⟨C,fun k _ hf=>⟨ho k fun e=>hf i p hp (e▸hb),hf⟩,fun _ _ hq=>.inl hq,M,fun j r hj _=>nd (ho r fun e=>by
  have:=h.inj j i _ p b hj hp (by simp[Pl.bJ,e]) hb;subst this;rw[hp] at hj
  exact J r (Option.some.inj hj))⟩
theorem aC.write(h:aC P F m β w){i:Nat}{p:Pl}{b:Nat}(hp:β i=some p)(hb:p.bJ=some b)(J:w'.heap.size=w.heap.size)
 (ho:∀ k,k≠b->w'.heap[k]? =w.heap[k]?) (r:Row) (hr:cO P F β w' r p) (U:Out w w':=by first|exact⟨rfl,rfl⟩|assumption) (O:∀ r,p≠ .lp r:=by intro _ h;cases h):aC P F (up m i (some r)) β w':=by
 have hs:=B2 h hp hb oG ho U O;refine⟨fun j r' hj=>?_,h.inj,fun j q c hq e=>by rw[J];exact h.lt j q c hq e,h.nf,h.fb.next (fun c hc=>by rw[J];exact h.fb.lt c hc) (fun _ h=>h) fun t _ M=>ho _ fun e=>h.nf _ _ _ hp hb (e▸M)⟩;by_cases C:j=i
 .subst C;rw[au] at hj;cases hj;exact⟨p,hp,hr⟩
 .rw[bE _ _ C] at hj;obtain⟨q,hq,aD⟩:=h.row j r' hj;exact⟨q,hq,aD.step hs fun c hc=>ho c fun e=>h.oW hp hb hq C (e▸hc)⟩
theorem aC.move(h:aC P F m β w){i nx:Nat}{p p':Pl}{b:Nat}(hp:β i=some p)(hb:p.bJ=some b)(U:p'.bJ=some b)(hn:β nx=none)(hw:w'.heap.size=w.heap.size)
 (ho:∀ k,k≠b->w'.heap[k]? =w.heap[k]?) (r:Row) (hr:Step β w (up (up β i (some .dead)) nx (some p')) w'->cO P F (up (up β i (some .dead)) nx (some p')) w' r p') (wq:Out w w':=by first|exact⟨rfl,rfl⟩|assumption):
 aC P F (up (up m i none) nx (some r)) (up (up β i (some .dead)) nx (some p')) w'/\Step β w (up (up β i (some .dead)) nx (some p')) w':=by
 have cy:i≠nx:=fun e=>by rw[e,hn] at hp;cases hp
 have O:∀ j q,up (up β i (some .dead)) nx (some p') j=some q->(j=nx/\q=p')\/(j=i/\q=.dead)\/(j≠nx/\j≠i/\β j=some q):=fun j q hq=>by
  by_cases hj:j=nx
  .subst hj;rw[au] at hq;cases hq;exact .inl ⟨rfl,rfl⟩
  .rw[bE _ _ hj] at hq;by_cases C:j=i
   .subst C;rw[au] at hq;cases hq;exact .inr (.inl ⟨rfl,rfl⟩)
   .rw[bE _ _ C] at hq;exact .inr (.inr ⟨hj,C,hq⟩)
 have hs:Step β w (up (up β i (some .dead)) nx (some p')) w':=by
  refine⟨oG,fun c hc hf=>⟨ho c fun e=>hf i p hp (e▸hb),fun j q hq e=>?_⟩,fun j q hq=>?_,wq,fun j r hj gN=>nd (ho r fun e=>?_)⟩
  rotate_left 2
  .rcases O j _ gN with⟨rfl,h1⟩|⟨rfl,h1⟩|⟨h1,h2,J⟩
   .rw[hn] at hj;cases hj
   .cases h1
   .exact h2 (h.inj j i _ p b J hp (by simp[Pl.bJ,e]) hb)
  .rcases O j q hq with⟨rfl,rfl⟩|⟨rfl,rfl⟩|⟨_,_,X⟩
   .rw[U] at e;cases e;exact hf i p hp hb
   .simp[Pl.bJ] at e
   .exact hf j q X e
  .by_cases C:j=i
   .subst C;exact .inr (by rw[bE _ _ cy,au])
   .have hj:j≠nx:=fun e=>by rw[e,hn] at hq;cases hq
    exact .inl (by rw[bE _ _ hj,bE _ _ C];exact hq)
 refine⟨⟨fun j r' hj=>?_,fun j k q q' c hq X e M=>?_,fun j q c hq e=>?_,fun j q c hq e=>?_,h.fb.next (fun c hc=>by rw[hw];exact h.fb.lt c hc) (fun _ h=>h) fun t _ hF=>ho _ fun e=>h.nf _ _ _ hp hb (e▸hF)⟩,hs⟩
 .by_cases oE:j=nx
  .subst oE;rw[au] at hj;cases hj;exact⟨p',au _ _ _,hr hs⟩
  .rw[bE _ _ oE] at hj;by_cases C:j=i
   .subst C;rw[au] at hj;cases hj
   .rw[bE _ _ C] at hj;obtain⟨q,hq,aD⟩:=h.row j r' hj;exact⟨q,by rw[bE _ _ oE,bE _ _ C];exact hq,aD.step hs fun c hc=>ho c fun e=>h.oW hp hb hq C (e▸hc)⟩
 .rcases O j q hq with⟨rfl,rfl⟩|⟨rfl,rfl⟩|⟨h1,h2,J⟩<;>rcases O k q' X with⟨rfl,rfl⟩|⟨rfl,rfl⟩|⟨k1,k2,k3⟩
  .rfl
  .simp[Pl.bJ] at M
  .rw[U] at e;cases e;exact absurd M (h.oW hp hb k3 k2)
  .simp[Pl.bJ] at e
  .rfl
  .simp[Pl.bJ] at e
  .rw[U] at M;cases M;exact absurd e (h.oW hp hb J h2)
  .simp[Pl.bJ] at M
  .exact h.inj j k q q' c J k3 e M
 .rw[hw];rcases O j q hq with⟨rfl,rfl⟩|⟨rfl,rfl⟩|⟨_,_,J⟩
  .rw[U] at e;cases e;exact h.lt i p b hp hb
  .simp[Pl.bJ] at e
  .exact h.lt j q c J e
 .rcases O j q hq with⟨rfl,rfl⟩|⟨rfl,rfl⟩|⟨_,_,J⟩
  .rw[U] at e;cases e;exact h.nf i p b hp hb
  .simp[Pl.bJ] at e
  .exact h.nf j q c J e
end
def jM:Value->D
 | .bool b=>.s (.bool b)
 | .int k n=>.s (.int k n)
 | .string b=>.s (.string b)
 | .pointer none=>.s (.pointer none)
 | .nilFunc=>.s .nilFunc
 | .nilIface=>.s .nilIface
 | .map none=>.s (.map none)
 | .slice none 0 0=>.z
 |_=>.u
def wN:Value->D
 | .agg cs=>.agg (cs.toList.map jM)
 | .bool b=>.s (.bool b)
 | .int k n=>.s (.int k n)
 | .string b=>.s (.string b)
 | .pointer none=>.s (.pointer none)
 | .nilFunc=>.s .nilFunc
 | .nilIface=>.s .nilIface
 | .map none=>.s (.map none)
 | .slice none 0 0=>.z
 |_=>.u
abbrev Env:=Nat->D
structure St where
 env:Env
 mem:Mem
 nx:Nat
def St.put(st:St)(d:Option Nat)(v:D):St:=
 match d with
 |some t=>{ st with env:=up st.env t v }
 |none=>st
def opd(env:Env):Operand->D
 | .tmp t=>env t
 | .const v=>wN v
 | .global _=>.u
 | .func f=>.fn (.func f) [] []
def D.core:D->D
 | .cG _ d=>d
 |d=>d
def D.ask:D->Prop
 | .cG c _=>c=true
 |_=>True
section types
variable(P:Program)
def bG(t:TypeId):Bool:=match P.underlying t with
 |some (.struct _)=>true
 |some (.array _ _)=>true
 |_=>false
def av(t:TypeId):TypeId:=match P.underlying t with
 |some (.slice e)=>e
 |some (.pointer e)=>e
 |some (.array _ e)=>e
 |_=>0
def cH(t:TypeId)(k:Nat):Option (Nat×TypeId):=match P.underlying t with
 |some (.struct fs)=>(fs[k]?).map fun f=>(f.offset,f.type)
 |_=>none
def aZ(t:TypeId):List D:=((P.info? t).bind (·.zero)).elim [] fun v=>v.cells.toList.map jM
def oz(t:TypeId):Nat:=match P.underlying t with
 |some (.array n _)=>n
 |_=>0
end types
def D.one:D->Bool
 | .u | .cG _ _ | .agg _ | .bp _=>false
 |_=>true
def aG(P:Program)(t:TypeId):Bool:=
 (P.underlying t).isSome&&(bG P t||P.cellsOf t==1)&&match (P.info? t).bind (·.zero) with
  |some v=>v.cells.toList.all (fun c=>(jM c).one)&&v.cells.size==P.cellsOf t
  |none=>false
def bm(P:Program)(t:TypeId):Bool:=match P.underlying t with
 |some (.slice e)=>aG P e
 |_=>false
def nM(P:Program)(t:TypeId):Bool:=match P.underlying t with
 |some (.array _ e)=>aG P e
 |_=>false
def fG(P:Program)(t:TypeId):Bool:=match P.underlying t with
 |some .string=>true
 |_=>false
def D.cells:D->List D
 | .agg cs=>cs
 |d=>[d]
def jo(P:Program)(t:TypeId)(cs:List D):D:=if bG P t then .agg (cs.take (P.cellsOf t)) else cs.headD .u
def fj(cs:List D)(off:Nat):List D->List D
 |[x]=>cs.set off x
 |xs=>cs.take off++xs++cs.drop (off+xs.length)
structure du where
 pre:Prop
 val:D
 aT:List (Nat×Option Row):=[]
 rd:List Nat:=[]
 new:Nat:=0
def cu(m:Mem):List (Nat×Option Row)->Mem
 |[]=>m
 |(i,r)::us=>cu (up m i r) us
def lb(op:BinOp)(k:IntKind)(x y:Int):Int:=
 let a:=BitVec.ofInt k.bits x
 let b:=BitVec.ofInt k.bits y
 k.wrap (match op with
  | .and=>a&&& b
  | .or=>a||| b
  | .xor=>a ^^^ b
  |_=>a&&& ~~~b).toNat
def nC(op:BinOp)(x y:Value):Option (Prop×Value):=
 match op,x,y with
 | .shl,.int k a,.int _ b=>some (0<=b,.int k (k.wrap (a*2 ^ (min b.toNat k.bits))))
 | .shr,.int k a,.int _ b=>some (0<=b,.int k (a.fdiv (2 ^ (min b.toNat k.bits))))
 | .add,.int k a,.int k' b=>some (k=k',.int k (k.wrap (a+b)))
 | .sub,.int k a,.int k' b=>some (k=k',.int k (k.wrap (a - b)))
 | .mul,.int k a,.int k' b=>some (k=k',.int k (k.wrap (a*b)))
 | .quo,.int k a,.int k' b=>some (k=k'/\b≠0,.int k (k.wrap (a.tdiv b)))
 | .rem,.int k a,.int k' b=>some (k=k'/\b≠0,.int k (a.tmod b))
 | .and,.int k a,.int k' b=>some (k=k',.int k (lb .and k a b))
 | .or,.int k a,.int k' b=>some (k=k',.int k (lb .or k a b))
 | .xor,.int k a,.int k' b=>some (k=k',.int k (lb .xor k a b))
 | .andNot,.int k a,.int k' b=>some (k=k',.int k (lb .andNot k a b))
 | .eql,.int k a,.int k' b=>some (k=k',.bool (a==b))
 | .neq,.int k a,.int k' b=>some (k=k',.bool (a !=b))
 | .lss,.int k a,.int k' b=>some (k=k',.bool (decide (a<b)))
 | .leq,.int k a,.int k' b=>some (k=k',.bool (decide (a<=b)))
 | .gtr,.int k a,.int k' b=>some (k=k',.bool (decide (b<a)))
 | .geq,.int k a,.int k' b=>some (k=k',.bool (decide (b<=a)))
 | .eql,.string a,.string b=>some (True,.bool (a.toList==b.toList))
 | .neq,.string a,.string b=>some (True,.bool !(a.toList==b.toList))
 | .lss,.string a,.string b=>some (True,.bool (Op.bytesLess a.toList b.toList))
 | .geq,.string a,.string b=>some (True,.bool !(Op.bytesLess a.toList b.toList))
 |_,_,_=>none
def jJ:Value->Nat
 | .int _ _=>0
 | .bool _=>1
 | .string _=>2
 |_=>3
def vZ(P:Program)(t:TypeId):Nat:=match P.underlying t with
 |some (.int _)=>0
 |some .bool=>1
 |some .string=>2
 |_=>9
def sU(P:Program)(t:TypeId):Bool:=vZ P t !=9&&P.cellsOf t==1&&aG P t&& !bG P t
def AH(P:Program)(t:TypeId):Option (List Nat):=match P.underlying t with
 |some (.array n e)=>if sU P e&&P.cellsOf t==n then some (List.replicate n (vZ P e)) else none
 |some (.struct fs)=>if(fs.toList.all fun f=>f.name !="_"&&sU P f.type)&&P.runs 0 fs.toList==some fs.toList.length&& !P.stoodInHeld t then some (fs.toList.map fun f=>vZ P f.type) else none
 |_=>none
def yi:Value->Value->Bool
 | .int k _,.int k' _=>k==k'
 | .bool _,.bool _=>true
 | .string _,.string _=>true
 |_,_=>false
def po:List D->List D->Option (List Value×List Value)
 |[],[]=>some ([],[])
 | .s x::xs,.s y::ys=>if yi x y then(po xs ys).map fun q=>(x::q.1,y::q.2) else none
 |_,_=>none
def ru:Value->Value->Bool
 | .int k a,.int k' b=>k==k'&&a==b
 | .bool a,.bool b=>a==b
 | .string a,.string b=>a.data.toList==b.data.toList
 |_,_=>false
def iX:List Value->List Value->Bool
 |[],[]=>true
 |a::aS,b::bs=>ru a b&&iX aS bs
 |_,_=>false
def xU(P:Program)(op:BinOp)(t:TypeId)(xs ys:List D):Option (Prop×D):=
 match op,AH P t,po xs ys with
 | .eql,some ks,some q=>some (q.1.map jJ=ks/\P.eqGuardType P.depth t=false,.s (.bool (iX q.1 q.2)))
 | .neq,some ks,some q=>some (q.1.map jJ=ks/\P.eqGuardType P.depth t=false,.s (.bool !(iX q.1 q.2)))
 |_,_,_=>none
def tm(P:Program)(t:TypeId):Bool:=match P.underlying t with
 |some .bool=>true
 |_=>false
def y7(P:Program)(t:TypeId):Bool:=match P.underlying t with
 |some (.pointer _)=>true
 |_=>false
def pq(P:Program)(op:BinOp)(t:TypeId)(x y:D):Option (Prop×D):=
 match x,y with
 | .s (.bool a),.s (.bool b)=>match op with
  | .eql=>some (tm P t=true,.s (.bool (a==b)))
  | .neq=>some (tm P t=true,.s (.bool !(a==b)))
  |_=>none
 | .s a,.s b=>(nC op a b).map fun r=>(r.1,.s r.2)
 | .agg xs,.agg ys=>xU P op t xs ys
 |_,_=>none
def kQ(P:Program)(m:Mem)(op:BinOp)(t:TypeId)(x:D)(y:Operand):Option du:=
 match y,op,x with
 | .const (.slice none 0 0),.eql,.sl _ n=>some { pre:=bm P t=true,val:=if n=0 then .ub else .s (.bool false) }
 | .const (.pointer none),.eql,.rp i _=>match m i with
  |some _=>some { pre:=y7 P t=true,val:=.s (.bool false),rd:=[i] }
  |none=>none
 | .const (.pointer none),.neq,.rp i _=>match m i with
  |some _=>some { pre:=y7 P t=true,val:=.s (.bool true),rd:=[i] }
  |none=>none
 |_,_,_=>none
def Bl(op:UnOp)(x:Value):Option Value:=
 match op,x with
 | .neg,.int k n=>some (.int k (k.wrap (0 - n)))
 | .xor,.int k n=>some (.int k (lb .xor k (if k.signed then -1 else k.max) n))
 | .not,.bool b=>some (.bool !b)
 |_,_=>none
def D.fA :D->Option Bool
 | .s (.bool b)=>some b
 |_=>none
def D.int? :D->Option Int
 | .s (.int _ n)=>some n
 |_=>none
def jq(place:Nat->Option (Nat×Nat))(cells:List D):List (Nat×D)->Option (List D)
 |[]=>some cells
 |(i,d)::rest=>
  match place i with
  |none=>none
  |some (off,size)=>if d.cells.length=size/\off+size<=cells.length/\d.cells.all D.one=true then jq place (fj cells off d.cells) rest else none
def dq(n:Nat)(z:List D):List D:=(List.replicate n z).flatten
def lD(P:Program)(m:Mem)(t:TypeId):D->Option du
 | .sl _ n=>some { pre:=bm P t=true,val:=.s (.int .i64 n) }
 | .rs i _ n=>match m i with
  |some _=>some { pre:=bm P t=true,val:=.s (.int .i64 n),rd:=[i] }
  |none=>none
 | .z=>some { pre:=bm P t=true,val:=.s (.int .i64 0) }
 | .s (.string b)=>some { pre:=fG P t=true,val:=.s (.int .i64 b.size) }
 | .agg _=>some { pre:=nM P t=true,val:=.s (.int .i64 (oz P t)) }
 |_=>none
def iG(m:Mem)(sz:Nat):D->Option (Prop×List Nat×Nat×List D)
 | .sl es n=>some (n*sz<=es.length,[],n,es.take (n*sz))
 | .z=>some (True,[],0,[])
 | .rs i off n=>match m i with
  |some (.cells cs _)=>some (off+n*sz<=cs.length,[i],n,(cs.drop off).take (n*sz))
  |_=>none
 |_=>none
def p0(P:Program)(m:Mem)(nx:Nat)(t:TypeId)(s x:D):Option du:=
 let e:=av P t
 let sz:=P.cellsOf e
 match iG m sz x with
 |none=>none
 |some (p,rd,k,news)=>
  match s with
  | .z=>some { pre:=bm P t=true/\p/\0<sz/\k<=maxLen/\k*P.bytesOf e<=140737488355328,val:=.rs nx 0 k,aT:=[(nx,some (.cells news e))],rd:=rd,new:=1 }
  | .rs i off n=>match m i with
   |some (.cells cs e')=>some { pre:=bm P t=true/\e'=e/\p/\0<sz/\off+n*sz=cs.length/\n+k<=maxLen/\(n+k)*P.bytesOf e<=140737488355328/\i∉rd,val:=.rs nx 0 (n+k),aT:=[(i,none),(nx,some (.cells (cs.drop off++news) e))],rd:=i::rd,new:=1 }
   |_=>none
  |_=>none
def tq:Value->Value->Bool
 | .agg a,.agg b=>iX a.toList b.toList
 |a,b=>ru a b
def AI:List D->Option (List Value)
 |[]=>some []
 | .s v::ds=>(AI ds).map (v::·)
 |_=>none
def nD:D->Option Value
 | .s v=>some v
 | .agg cs=>(AI cs).map fun vs=>.agg vs.toArray
 |_=>none
def gp(k:Value):List (Value×D)->Option (Nat×D)
 |[]=>none
 |(k',d)::es=>if tq k' k then some (0,d) else(gp k es).map fun x=>(x.1+1,x.2)
def lY(k:Value)(d:D)(es:List (Value×D)):List (Value×D):=match gp k es with
 |some (i,_)=>es.set i (k,d)
 |none=>es++[(k,d)]
def sV(k:Value)(es:List (Value×D)):List (Value×D):=match gp k es with
 |some (i,_)=>es.eraseIdx i
 |none=>es
def gC(P:Program)(t:TypeId):TypeId:=match P.underlying t with
 |some (.map k _)=>k
 |_=>0
def sW(P:Program)(t:TypeId):TypeId:=match P.underlying t with
 |some (.map _ e)=>e
 |_=>0
def dD(P:Program)(kt:TypeId)(v:Value):Bool:=match P.underlying kt with
 |some (.int k)=>(match v with | .int k' _=>k'==k|_=>false)
 |some .bool=>(match v with | .bool _=>true|_=>false)
 |some .string=>(match v with | .string _=>true|_=>false)
 |some (.array _ _)=>(keyOf P kt v).isSome
 |some (.struct _)=>(keyOf P kt v).isSome
 |_=>false
def uP(P:Program)(t:TypeId):Bool:=match (P.info? t).bind (·.zero) with
 |some (.agg _)=>bG P t
 |some _=> !bG P t
 |none=>false
def jv(P:Program)(t:TypeId):Bool:=match P.underlying t with
 |some (.map kt et)=>(aG P et&&uP P et)&&match P.underlying kt with
  |some (.int _)=>true
  |some .bool=>true
  |some .string=>true
  |some (.array _ _)=>P.keyTypeAt 9 kt&&P.tiled 9 kt
  |some (.struct _)=>P.keyTypeAt 9 kt&&P.tiled 9 kt
  |_=>false
 |_=>false
def qZ(P:Program)(t:TypeId):D:=if bG P t then .agg (aZ P t) else(aZ P t).headD .u
def jN(P:Program)(t:TypeId)(ok:Bool):Option (Nat×D)->D
 |some (_,d)=>if ok then .bp [d,.s (.bool true)] else d
 |none=>if ok then .bp [qZ P (sW P t),.s (.bool false)] else qZ P (sW P t)
def ng(P:Program)(m:Mem)(t:TypeId)(x k:D)(ok:Bool):Option du:=match nD k,x with
 |some key,.mp i=>match m i with
  |some (.map es)=>some { pre:=jv P t=true/\dD P (gC P t) key=true/\es.all (fun e=>dD P (gC P t) e.1)=true,val:=jN P t ok (gp key es),rd:=[i] }
  |_=>none
 |some key,.im es=>some { pre:=jv P t=true/\dD P (gC P t) key=true/\es.all (fun e=>dD P (gC P t) e.1)=true,val:=jN P t ok (gp key es) }
 |some key,.s (.map none)=>some { pre:=jv P t=true/\dD P (gC P t) key=true,val:=jN P t ok none }
 |_,_=>none
def nh(P:Program)(m:Mem)(t:TypeId)(x k v:D):Option du:=match nD k,x with
 |some key,.mp i=>match m i with
  |some (.map es)=>some { pre:=jv P t=true/\dD P (gC P t) key=true/\es.all (fun e=>dD P (gC P t) e.1)=true,val:=.bp [],aT:=[(i,some (.map (lY key v es)))],rd:=[i] }
  |_=>none
 |_,_=>none
def tR(P:Program)(m:Mem)(t:TypeId)(x k:D):Option du:=match nD k,x with
 |some key,.mp i=>match m i with
  |some (.map es)=>some { pre:=jv P t=true/\dD P (gC P t) key=true/\es.all (fun e=>dD P (gC P t) e.1)=true,val:=.bp [],aT:=[(i,some (.map (sV key es)))],rd:=[i] }
  |_=>none
 |_,_=>none
def eI(P:Program)(m:Mem)(nx:Nat)(b:Builtin)(ts:Array TypeId)(args:List D):Option du:=
 match b,args with
 | .len,[x]=>lD P m (ts.getD 0 0) x
 | .append,[s,x]=>if ts.getD 0 0=ts.getD 1 0 then p0 P m nx (ts.getD 0 0) s x else none
 | .min,[.s (.int k a),.s (.int k' b)]=>some { pre:=k=k',val:=.s (.int k (if b<a then b else a)) }
 | .clear,[.rs i off n]=>match m i with
  |some (.cells cs e)=>some { pre:=bm P (ts.getD 0 0)=true/\off+n*P.cellsOf e<=cs.length/\e=av P (ts.getD 0 0),val:=.bp [],aT:=[(i,some (.cells (fj cs off (dq n (aZ P e))) e))],rd:=[i] }
  |_=>none
 | .delete,[x,k]=>tR P m (ts.getD 0 0) x k
 |_,_=>none
def eP(d:Option D)(C:Int):Option Int:=match d with
 |none=>some C
 |some d=>d.int?
def ll(P:Program)(m:Mem)(t:TypeId)(x:D)(lo hi C:Option D):Option du:=
 match x with
 | .sl es n=>match eP lo 0,eP hi n,C with
  |some l,some h,none=>some { pre:=bm P t=true/\0<=l/\l<=h/\h<=n,val:=.sl ((es.drop (l.toNat*P.cellsOf (av P t))).take ((h - l).toNat*P.cellsOf (av P t))) (h - l).toNat }
  |some l,some h,some d=>match d.int? with
   |some k=>some { pre:=bm P t=true/\hi.isSome=true/\0<=l/\l<=h/\h<=k/\k<=n,val:=.sl ((es.drop (l.toNat*P.cellsOf (av P t))).take ((h - l).toNat*P.cellsOf (av P t))) (h - l).toNat }
   |none=>none
  |_,_,_=>none
 | .rs i off n=>match m i with
  |some (.cells _ e)=>match eP lo 0,eP hi n,C with
   |some l,some h,none=>some { pre:=(bm P t=true/\P.cellsOf e=P.cellsOf (av P t))/\0<=l/\l<=h/\h<=n,val:=.rs i (off+l.toNat*P.cellsOf (av P t)) (h - l).toNat,rd:=[i] }
   |_,_,_=>none
  |_=>none
 | .s (.string b)=>match eP lo 0,eP hi b.size,C with
  |some l,some h,none=>some { pre:=fG P t=true/\0<=l/\l<=h/\h<=b.size,val:=.s (.string (b.extract l.toNat h.toNat)) }
  |_,_,_=>none
 |_=>none
def aQ(P:Program)(o:Op)(ρ:Operand->D)(m:Mem)(nx:Nat):Option du:=
 match o with
 | .move x=>some { pre:=True,val:=ρ x }
 | .assign x=>some { pre:=True,val:=ρ x }
 | .pick c a b=>match (ρ c).core.fA with
  |some t=>some { pre:=(t=true->(ρ a).ask/\(ρ a).core.fA.isSome=true)/\(t=false->(ρ b).ask/\(ρ b).core.fA.isSome=true),val:=.s (.bool (if t then(ρ a).core.fA.getD false else(ρ b).core.fA.getD false)) }
  |none=>none
 | .alloc t=>some { pre:=aG P t=true,val:=.rp nx 0,aT:=[(nx,some (.cells (aZ P t) t))],new:=1 }
 | .box t x=>some { pre:=(ρ x).cells.all D.one=true,val:=.rp nx 0,aT:=[(nx,some (.cells (ρ x).cells t))],new:=1 }
 | .build t ps=>match P.underlying t with
  |some (.struct fs)=>(jq (fun i=>(fs[i]?).map fun f=>(f.offset,P.cellsOf f.type)) (aZ P t) (ps.toList.map fun q=>(q.1,ρ q.2))).map fun cs=>{ pre:=aG P t=true/\fs.toList.all (fun f=>(P.info? f.type).isSome)=true,val:=.agg cs }
  |some (.array _ e)=>(jq (fun i=>some (i*P.cellsOf e,P.cellsOf e)) (aZ P t) (ps.toList.map fun q=>(q.1,ρ q.2))).map fun cs=>{ pre:=aG P t=true/\aG P e=true,val:=.agg cs }
  |_=>none
 | .buildSlice t n ps=>(jq (fun i=>some (i*P.cellsOf (av P t),P.cellsOf (av P t))) (dq n (aZ P (av P t))) (ps.toList.map fun q=>(q.1,ρ q.2))).map fun cs=>
   { pre:=cs.all D.one=true/\n*P.cellsOf (av P t)<=2 ^ 24/\bm P t=true/\n<=maxLen,val:=.rs nx 0 n,aT:=[(nx,some (.cells cs (av P t)))],new:=1 }
 | .load t a=>match ρ a with
  | .pt cs=>some { pre:=aG P t=true/\P.cellsOf t<=cs.length,val:=jo P t cs }
  | .rp i off=>match m i with
   |some (.cells cs _)=>some { pre:=aG P t=true/\off+P.cellsOf t<=cs.length,val:=jo P t (cs.drop off),rd:=[i] }
   |_=>none
  |_=>none
 | .store t a x=>match ρ a with
  | .rp i off=>match m i with
   |some (.cells cs e)=>some { pre:=aG P t=true/\(ρ x).cells.length=P.cellsOf t/\off+P.cellsOf t<=cs.length/\(ρ x).cells.all D.one=true,val:=.bp [],aT:=[(i,some (.cells (fj cs off (ρ x).cells) e))],rd:=[i] }
   |_=>none
  |_=>none
 | .nilCheck x=>match ρ x with
  | .pt cs=>some { pre:=True,val:=.pt cs }
  | .rp i off=>match m i with
   |some _=>some { pre:=True,val:=.rp i off,rd:=[i] }
   |none=>none
  |_=>none
 | .binOp op t x y _=>match kQ P m op t (ρ x) y with
  |some e=>some e
  |none=>(pq P op t (ρ x) (ρ y)).map fun r=>{ pre:=r.1,val:=r.2 }
 | .unOp op _ x=>match ρ x with
  | .s v=>(Bl op v).map fun r=>{ pre:=True,val:=.s r }
  |_=>none
 | .convert src dst x=>match P.underlying dst,ρ x with
  |some (.int k),.s (.int _ n)=>some { pre:=aG P src=true,val:=.s (.int k (k.wrap n)) }
  |some (.slice e),.s (.string b)=>match P.underlying e with
   |some (.int .u8)=>some { pre:=fG P src=true/\b.size<=maxLen,val:=.sl (b.data.toList.map fun c=>.s (.int .u8 c.toNat)) b.size }
   |_=>none
  |_,_=>none
 | .makeFunc f fs cs=>some { pre:=True,val:=.fn f (fs.toList.map ρ) (cs.toList.map ρ) }
 | .makeMap _ r=>match r with
  |none=>some { pre:=True,val:=.mp nx,aT:=[(nx,some (.map []))],new:=1 }
  |some _=>none
 | .makeSlice t l c=>match ρ l,ρ c with
  | .s (.int .i64 n),.s (.int .i64 k)=>some { pre:=0<=n/\n=k/\n<=9223372036854775807/\P.bytesOf (av P t)*n<=281474976710656/\bm P t=true,val:=.rs nx 0 n.toNat,aT:=[(nx,some (.cells (dq n.toNat (aZ P (av P t))) (av P t)))],new:=1 }
  |_,_=>none
 | .lookup t x k ok=>ng P m t (ρ x) (ρ k) ok
 | .mapUpdate t x k v=>nh P m t (ρ x) (ρ k) (ρ v)
 | .insert t x k v=>nh P m t (ρ x) (ρ k) (ρ v)
 | .slice t x lo hi C=>ll P m t (ρ x) (lo.map ρ) (hi.map ρ) (C.map ρ)
 | .fieldAddr t x k=>match cH P t k,ρ x with
  |some (off,ft),.pt cs=>some { pre:=0<P.cellsOf ft,val:=.pt (cs.drop off) }
  |some (off,ft),.rp i o=>match m i with
   |some _=>some { pre:=0<P.cellsOf ft,val:=.rp i (o+off),rd:=[i] }
   |none=>none
  |_,_=>none
 | .field t x k=>match cH P t k,ρ x with
  |some (off,ft),.agg cs=>some { pre:=aG P ft=true/\off+P.cellsOf ft<=cs.length,val:=jo P ft (cs.drop off) }
  |_,_=>none
 | .indexAddr t x i=>match ρ x,ρ i with
  | .sl es n,.s (.int _ k)=>some { pre:=bm P t=true/\0<=k/\k<n/\(k.toNat+1)*P.cellsOf (av P t)<=es.length,val:=.pt (es.drop (k.toNat*P.cellsOf (av P t))) }
  | .rs j off n,.s (.int _ k)=>match m j with
   |some _=>some { pre:=bm P t=true/\0<=k/\k<n,val:=.rp j (off+k.toNat*P.cellsOf (av P t)),rd:=[j] }
   |none=>none
  | .rp j off,.s (.int _ k)=>match m j with
   |some _=>some { pre:=nM P t=true/\0<=k/\k<oz P t,val:=.rp j (off+k.toNat*P.cellsOf (av P t)),rd:=[j] }
   |none=>none
  |_,_=>none
 | .index t x i=>match ρ x,ρ i with
  | .s (.string b),.s (.int _ k)=>some { pre:=fG P t=true/\0<=k/\k<b.size,val:=.s (.int .u8 (b.data.toList.getD k.toNat 0).toNat) }
  | .agg cs,.s (.int _ k)=>some { pre:=nM P t=true/\0<=k/\k<oz P t/\(k.toNat+1)*P.cellsOf (av P t)<=cs.length,val:=jo P (av P t) (cs.drop (k.toNat*P.cellsOf (av P t))) }
  |_,_=>none
 | .extract x k=>match ρ x with
  | .bp cs=>some { pre:=k<cs.length,val:=cs.getD k .u }
  |_=>none
 | .call c=>match c.callee with
  | .builtin b=>if c.argTypes.size=c.args.size then eI P m nx b c.argTypes (c.args.toList.map ρ) else none
  |_=>none
 |_=>none
def A1(t:TypeId):Bool:=([158,160]:List Nat).contains t
def mkStr(l:List Int):ByteArray:=⟨(l.map fun n=>UInt8.ofNat n.toNat).toArray⟩
def n5(l:List Int):List D:=l.map fun n=>.s (.int .u8 n)
def yE(b:ByteArray):List D:=b.data.toList.map fun c=>.s (.int .u8 c.toNat)
def tu(P:Program)(t:TypeId):Prop:=bm P t=true/\P.underlying (av P t)=some (.int .u8)/\P.cellsOf (av P t)=1
def wO(P:Program)(t:TypeId):Bool:=match P.underlying t with
 |some (.interface _)=>false
 |some _=>true
 |none=>false
def M5:Value->Bool
 | .iface _ _ | .nilIface=>true
 |_=>false
def Vc:Value->D
 | .agg cs=>.agg (cs.toList.map .s)
 |v=>.s v
def AJ(P:Program)(t:TypeId):Value->D
 | .iface u v=>if u=t then .bp [Vc v,.s (.bool true)] else .bp [qZ P t,.s (.bool false)]
 |_=>.bp [qZ P t,.s (.bool false)]
inductive eQ(P:Program)(ρ:Operand->D)(m:Mem)(nx:Nat):Op->du->Prop
 |add (t p:TypeId) (x y:Operand) (a b:ByteArray) (hx:ρ x=.s (.string a)) (hy:ρ y=.s (.string b)) (h:a.size+b.size<=maxLen):eQ P ρ m nx (.binOp .add t x y p) { pre:=True,val:=.s (.string (a++b)) }
 |AK (src dst:TypeId) (x:Operand) (l:List Int) (hx:ρ x=.sl (n5 l) l.length) (hs:tu P src) (hd:fG P dst=true):eQ P ρ m nx (.convert src dst x) { pre:=True,val:=.s (.string (mkStr l)) }
 |AL (src dst:TypeId) (x:Operand) (l:List Int) (i off:Nat) (cs:List D) (e:TypeId) (hx:ρ x=.rs i off l.length) (hi:m i=some (.cells cs e)) (hl:(cs.drop off).take l.length=n5 l) (hs:tu P src) (hd:fG P dst=true):
  eQ P ρ m nx (.convert src dst x) { pre:=True,val:=.s (.string (mkStr l)),rd:=[i] }
 |rune (src dst:TypeId) (x:Operand) (k k':IntKind) (n:Int) (hx:ρ x=.s (.int k n)) (hs:P.underlying src=some (.int k')) (hd:fG P dst=true) (h0:0<=n) (h1:n<128):eQ P ρ m nx (.convert src dst x) { pre:=True,val:=.s (.string (mkStr [n])) }
 |cut (t:TypeId) (x h c:Operand) (es:List D) (n:Nat) (k:IntKind) (k':IntKind) (hx:ρ x=.sl es n) (hh:ρ h=.s (.int k n)) (hc:ρ c=.s (.int k' n)) (ht:bm P t=true) (hn:n*P.cellsOf (av P t)=es.length):
  eQ P ρ m nx (.slice t x none (some h) (some c)) { pre:=True,val:=.sc es n }
 |yj (c:Call) (s x:Operand) (t:TypeId) (es news:List D) (n k:Nat) (p:Prop) (rd:List Nat) (hc:c={ callee:=.builtin .append,args:= #[s,x],argTypes:= #[t,t] }) (hs:ρ s=.sc es n) (hx:iG m (P.cellsOf (av P t)) (ρ x)=some (p,rd,k,news)) (hp:p)
  (ht:bm P t=true) (hn:n*P.cellsOf (av P t)=es.length) (hk:0<k) (hz:0<P.cellsOf (av P t)) (hm:n+k<=maxLen) (hb:(n+k)*P.bytesOf (av P t)<=140737488355328):
  eQ P ρ m nx (.call c) { pre:=True,val:=.rs nx 0 (n+k),aT:=[(nx,some (.cells (es++news) (av P t)))],rd:=rd,new:=1 }
 |xL (c:Call) (s x:Operand) (t u:TypeId) (b:ByteArray) (hc:c={ callee:=.builtin .append,args:= #[s,x],argTypes:= #[t,u] }) (hs:ρ s=.z) (hx:ρ x=.s (.string b)) (ht:tu P t) (hu:fG P u=true) (hm:b.size<=maxLen) (hb:b.size*P.bytesOf (av P t)<=140737488355328):
  eQ P ρ m nx (.call c) { pre:=True,val:=.rs nx 0 b.size,aT:=[(nx,some (.cells (yE b) (av P t)))],new:=1 }
 |xV (c:Call) (s x:Operand) (t u:TypeId) (b:ByteArray) (i off n:Nat) (cs:List D) (hc:c={ callee:=.builtin .append,args:= #[s,x],argTypes:= #[t,u] }) (hs:ρ s=.rs i off n) (hx:ρ x=.s (.string b)) (hi:m i=some (.cells cs (av P t))) (ht:tu P t) (hu:fG P u=true)
  (hf:off+n=cs.length) (hm:n+b.size<=maxLen) (hb:(n+b.size)*P.bytesOf (av P t)<=140737488355328):
  eQ P ρ m nx (.call c) { pre:=True,val:=.rs nx 0 (n+b.size),aT:=[(i,none),(nx,some (.cells (cs.drop off++yE b) (av P t)))],rd:=[i],new:=1 }
 |yF (c:Call) (x:Operand) (t:TypeId) (i:Nat) (es:List (Value×D)) (hc:c={ callee:=.builtin .len,args:= #[x],argTypes:= #[t] }) (hx:ρ x=.mp i) (hi:m i=some (.map es)) (ht:jv P t=true):eQ P ρ m nx (.call c) { pre:=True,val:=.s (.int .i64 es.length),rd:=[i] }
 |yk (c:Call) (s:Operand) (t:TypeId) (i off n:Nat) (r:Row) (hc:c={ callee:=.builtin .unsafeSliceData,args:= #[s],argTypes:= #[t] }) (hs:ρ s=.rs i off n) (hi:m i=some r) (hn:0<n):eQ P ρ m nx (.call c) { pre:=True,val:=.rp i off,rd:=[i] }
 |yG (c:Call) (p n:Operand) (t u e:TypeId) (l:List Int) (i off:Nat) (cs:List D) (k:IntKind) (hc:c={ callee:=.builtin .unsafeString,args:= #[p,n],argTypes:= #[t,u] }) (hp:ρ p=.rp i off) (hn:ρ n=.s (.int k l.length)) (hi:m i=some (.cells cs e)) (hl:(cs.drop off).take l.length=n5 l) (h0:l≠[])
  (ht:P.underlying t=some (.pointer e)) (he:P.cellsOf e=1) (hm:l.length<=maxLen) (hr:∀ x∈l,0<=x/\x<256):eQ P ρ m nx (.call c) { pre:=True,val:=.s (.string (mkStr l)),aT:=[(i,none)],rd:=[i] }
 |Ax (t:TypeId) (hb:A1 t=true) (ht:aG P t=true) (hz:aZ P t=[.s (.pointer none),.z]):eQ P ρ m nx (.alloc t) { pre:=True,val:=.rp nx 0,aT:=[(nx,some (.bs false .z t))],new:=1 }
 |A2 (t:TypeId) (x:Operand) (d:D) (hb:A1 t=true) (hx:(ρ x).cells=[.s (.pointer none),d]) (hd:d.one=true) (hs:P.cellsOf t=2):eQ P ρ m nx (.box t x) { pre:=True,val:=.rp nx 0,aT:=[(nx,some (.bs false d t))],new:=1 }
 |Bm (t:TypeId) (x:Operand) (lo hi:Option Operand) (hx:ρ x=.z) (iD:eP (lo.map ρ) 0=some 0) (l9:eP (hi.map ρ) 0=some 0) (ht:bm P t=true):eQ P ρ m nx (.slice t x lo hi none) { pre:=True,val:=.z }
 |yH (b:Bool) (op:BinOp) (t p:TypeId) (x:Operand) (eD:op=if b then .eql else .neq) (hx:ρ x=.z) (ht:bm P t=true):eQ P ρ m nx (.binOp op t x (.const (.slice none 0 0)) p) { pre:=True,val:=.s (.bool (true==b)) }
 |yI (b:Bool) (op:BinOp) (t p:TypeId) (x:Operand) (i off n:Nat) (cs:List D) (e:TypeId) (eD:op=if b then .eql else .neq) (hx:ρ x=.rs i off n) (hi:m i=some (.cells cs e)) (hn:0<n) (ht:bm P t=true):
  eQ P ρ m nx (.binOp op t x (.const (.slice none 0 0)) p) { pre:=True,val:=.s (.bool (false==b)),rd:=[i] }
 |mkIf (t:TypeId) (x:Operand) (v:Value) (hx:nD (ρ x)=some v) (hv:plain (.iface t v)=true) (ht:wO P t=true):eQ P ρ m nx (.makeInterface t x) { pre:=True,val:=.s (.iface t v) }
 |A3 (x:Operand) (u t:TypeId) (v:Value) (hx:ρ x=.s v) (hv:M5 v=true) (ht:wO P t=true) (ho:aG P t=true) (hz:uP P t=true):eQ P ρ m nx (.typeAssert x u t true) { pre:=True,val:=AJ P t v }
 |copy (c:Call) (x y:Operand) (t:TypeId) (i off n k:Nat) (cs news:List D) (p:Prop) (rd:List Nat) (hc:c={ callee:=.builtin .copy,args:= #[x,y],argTypes:= #[t,t] }) (hx:ρ x=.rs i off n) (hi:m i=some (.cells cs (av P t)))
  (hy:iG m (P.cellsOf (av P t)) (ρ y)=some (p,rd,k,news)) (hp:p) (ht:bm P t=true) (hk:k<=n) (hl:off+n*P.cellsOf (av P t)<=cs.length):
  eQ P ρ m nx (.call c) { pre:=True,val:=.s (.int .i64 k),aT:=[(i,some (.cells (fj cs off news) (av P t)))],rd:=i::rd }
 |AM (t:TypeId) (a:Operand) (i:Nat) (u:Bool) (x:D) (T:TypeId) (ha:ρ a=.rp i 1) (hi:m i=some (.bs u x T)) (ht:aG P t=true) (hg:bG P t=false):eQ P ρ m nx (.load t a) { pre:=True,val:=x,rd:=[i] }
 |xW (t:TypeId) (a y:Operand) (i:Nat) (u:Bool) (x:D) (T:TypeId) (ha:ρ a=.rp i 1) (hi:m i=some (.bs u x T)) (ht:aG P t=true) (hg:bG P t=false) (hy:(ρ y).one=true):eQ P ρ m nx (.store t a y) { pre:=True,val:=.bp [],aT:=[(i,some (.bs u (ρ y) T))],rd:=[i] }
def dx(ρ:Operand->D):Op->Option (FuncId×List D)
 | .call c=>match c.callee with
  | .value f=>match ρ f with
   | .fn (.func k) fs cs=>some (k,fs++c.args.toList.map ρ++cs)
   |_=>none
  |_=>none
 |_=>none
def Rs(F:Nat->Prop)(β:az)(w:World)(ds:List D)(vs:Array Value):Prop:=
 vs.size=ds.length/\∀ (k:Nat) (d:D) (v:Value),ds[k]? =some d->vs[k]? =some v->R F β w d v
def gU:az:=fun _=>none
def owned(F:Nat->Prop)(β:az):Nat->Prop:=fun b=>F b\/¬ β.free b
def Tr(d:D):Prop:=∀ F β w v,R F β w d v->R (owned F β) gU w d v
def D.jK:D->Bool
 | .s _=>true
 | .ub=>true
 | .bp [.s _,.s _]=>true
 | .bp [.s _]=>true
 | .bp []=>true
 |_=>false
def Kept(w w':World):Prop:=w.heap.size<=w'.heap.size/\(∀ b,b<w.heap.size->w'.heap[b]? =w.heap[b]?)/\Out w w'
def lf(P:Program)(f:FuncId):Bool:=match P.funcs[f]? with
 |some fn=> !(fn.name=="runtime.NumGoroutine")&&fn.body.isSome
 |none=>false
def ax(P:Program)(f:FuncId)(args:List D)(r:D):Prop:=
 lf P f=true/\(∀ a∈args,Tr a)/\∀ F w vs,FB F w->Rs F gU w args vs->
  Calls P f vs w fun e w'=>∃ v,e=.returned v/\R F gU w' r v/\Kept w w'
def qY(P:Program)(f:FuncId)(args:List D)(es:List D)(n:Nat)(t:TypeId):Prop:=
 lf P f=true/\(∀ a∈args,Tr a)/\∀ F w vs,FB F w->Rs F gU w args vs->
  Calls P f vs w fun e w'=>∃ v p,e=.returned v/\p≠ .dead/\(∀ b,p.bJ=some b->w.heap.size<=b/\b<w'.heap.size)/\
   cO P (fun x=>F x\/p.bJ=some x) gU w' (.cells es t) p/\R F (up gU 0 (some p)) w' (.rs 0 0 n) v/\Kept w w'
def ji(P:Program)(f:FuncId)(args:List D)(m:Mem)(nx:Nat)(dd:D->Mem->Nat->Prop):Prop:=
 lf P f=true/\∀ F β w vs,aC P F m β w->(∀ i,nx<=i->β i=none)->Rs F β w args vs->
  Calls P f vs w fun e w'=>∃ v d m' aA β',e=.returned v/\dd d m' aA/\aC P F m' β' w'/\(∀ i,aA<=i->β' i=none)/\R F β' w' d v/\Step β w β' w'/\nx<=aA/\∀ i,i<nx->β i=none->β' i=none
def o6(P:Program)(F:Nat->Prop)(J:az)(C:World)(l:Nat)(args:List D)(m:Mem)(nx:Nat)(dd:D->Mem->Nat->Prop):Prop:=
 ∀ β w us,Step J C β w->aC P F m β w->(∀ i,nx<=i->β i=none)->Rs F β w args us->
  ∃ f tmps assign body,(Instr.yield l us).run P w=.ok (.round l f tmps assign body) w/\∀ n,RoundIn Fence.wide n P l f tmps assign body w fun e w'=>
   ∃ v d m' aA β',e=.returned v/\dd d m' aA/\aC P F m' β' w'/\(∀ i,aA<=i->β' i=none)/\R F β' w' d v/\Step β w β' w'/\nx<=aA/\∀ i,i<nx->β i=none->β' i=none
def CC(I:Mem->Nat->Prop):Prop:=∀ m nx m' aA,I m nx->nx<=aA->(∀ i,i<nx->m' i=m i)->I m' aA
def QW(I:Nat->Mem->Nat->Prop)(Stop:Mem->Nat->Prop)(k:Nat)(d:D)(m:Mem)(nx:Nat):Prop:=
 (d=.s (.bool true)/\I (k+1) m nx)\/(d=.s (.bool false)/\Stop m nx)
def yJ(P:Program)(f:FuncId)(fs cs:List D)(xs:List (List D)):Prop:=
 lf P f=true/\∀ (F:Nat->Prop) (l:Nat) (I:Nat->Mem->Nat->Prop) (Stop:Mem->Nat->Prop) (m:Mem) (nx:Nat) (β:az) (w:World) (vs:Array Value),(∀ k,CC (I k))->CC Stop->
  aC P F m β w->(∀ i,nx<=i->β i=none)->Rs F β w (fs++[.fn (.yield l) [] []]++cs) vs->
  (∀ k x m nx,xs[k]? =some x->I k m nx->o6 P F β w l x m nx (QW I Stop k))->I 0 m nx->
  Calls P f vs w fun e w'=>∃ v d m' aA β',e=.returned v/\(I xs.length m' aA\/Stop m' aA)/\aC P F m' β' w'/\(∀ i,aA<=i->β' i=none)/\R F β' w' d v/\Step β w β' w'/\nx<=aA/\∀ i,i<nx->β i=none->β' i=none
abbrev gd:=Nat->List D->Mem->Nat->(D->Mem->Nat->Prop)->Prop
def nL:gd:=fun _ _ _ _ _=>False
def n6(ρ:Operand->D):Op->Option (Nat×List D)
 | .call c=>match c.callee with
  | .value f=>match ρ f with
   | .fn (.yield l) [] []=>some (l,c.args.toList.map ρ)
   |_=>none
  |_=>none
 |_=>none
def Sn(P:Program)(bx:List Nat)(m:Mem)(a a':D):Prop:=
 ∀ F β w v,(∀ i∈bx,∀ r,m i=some r->∃ p,β i=some p/\cO P F β w r p/\∀ b,p.bJ=some b->¬ F b)->R F β w a v->R F gU w a' v
def nH(P:Program)(bx:List Nat)(m:Mem):List D->List D->Prop
 |[],[]=>True
 |a::aS,b::bs=>Sn P bx m a b/\nH P bx m aS bs
 |_,_=>False
def Fy(r:Row):Prop:=∃ cs e,r=.cells cs e/\∀ d∈cs,d.jK=true
def QY(m:Mem)(bx:List Nat)(aT:List (Nat×Option Row))(args:List D):Prop:=
 (∀ i∈bx,∃ r,m i=some r/\Fy r)/\(∀ x∈aT,x.1∈bx/\∀ r,x.2=some r->Fy r)/\∀ a∈args,Tr a\/∃ i off n,i∈bx/\a=.rs i off n
def only(bx:List Nat)(m:Mem):Mem:=fun i=>if i∈bx then m i else none
def vN(P:Program)(dr:Bool)(st:St)(f:FuncId)(args:List D)(K:D->Mem->Nat->List Nat->List Nat->Prop):Prop:=
 (∃ r,ax P f args r/\K r st.mem st.nx [] [])\/
 (∃ M bx r,nH P bx st.mem args M/\ax P f M r/\r.jK=true/\K r st.mem st.nx bx [])\/
 (∃ es n t,qY P f args es n t/\K (.rs st.nx 0 n) (up st.mem st.nx (some (.cells es t))) (st.nx+1) [] [st.nx])\/
 (dr=false/\ji P f args st.mem st.nx fun r m nx=>K r m nx [] [])\/
 (∃ r aT bx,(∀ J C,(∀ i∈bx,st.mem i≠none->J i=st.mem i)->ji P f args J C fun r' m' aA=>r'=r/\m'=cu J aT/\aA=C)/\(∀ i∈aT.map (·.1),i∈bx/\st.mem i≠none)/\K r (cu st.mem aT) st.nx bx (aT.map (·.1)))\/
 (∃ es n t aT bx,QY st.mem bx aT args/\(∀ d∈es,d.jK=true)/\(∀ C,ji P f args (only bx st.mem) C fun r' m' _=>∃ q,C<=q/\r'=.rs q 0 n/\m' q=some (.cells es t)/\∀ i∈bx,m' i=cu st.mem aT i)/\
  K (.rs st.nx 0 n) (up (cu st.mem aT) st.nx (some (.cells es t))) (st.nx+1) bx (aT.map (·.1)++[st.nx]))
def asks(env:Env)(o:Op):Prop:=match o with
 | .pick c _ _=>(opd env c).ask
 |o=>∀ x∈o.operands.toList,(opd env x).ask
def bC(env:Env)(o:Op):Operand->D:=match o with
 | .pick _ _ _=>opd env
 |_=>fun x=>(opd env x).core
def ku:D->Bool->Option Bool
 | .s (.bool g),b=>some (g==b)
 | .cG c d,b=>match d with
  | .s (.bool g)=>some (c&&(g==b))
  |_=>bif c then none else some false
 |_,_=>none
abbrev ma:=List (List Nat×List Nat)
def p9(tr:ma)(i j:Nat):Prop:=
 let a:=tr.getD i ([],[])
 let b:=tr.getD j ([],[])
 (∀ x∈a.2,x∉b.1/\x∉b.2)/\∀ x∈b.2,x∉a.1
def uk:D:=.cG false .u
def jU(P:Program)(Y:gd)(ops:Array Oper)(dr:Bool)(o:Oper)(st:St)(K:St->List Nat->List Nat->Prop):Prop:=
 match o.guard with
  |none=>asks st.env o.op/\match dx (bC st.env o.op) o.op with
   |some (f,args)=>vN P dr st f args fun r m nx rd wr=>K (St.put ⟨st.env,m,nx⟩ o.dst r) rd wr
   |none=>match n6 (bC st.env o.op) o.op with
    |some (l,args)=>dr=false/\Y l args st.mem st.nx fun r m nx=>K (St.put ⟨st.env,m,nx⟩ o.dst r) [] []
    |none=>match aQ P o.op (bC st.env o.op) st.mem st.nx with
     |some e=>e.pre/\K (St.put ⟨st.env,cu st.mem e.aT,st.nx+e.new⟩ o.dst e.val) e.rd (e.aT.map (·.1))
     |none=>False
  |some (j,b)=>match ((ops[j]?).bind (·.dst)).bind fun t=>ku (st.env t) b with
   |none=>False
   |some c=>match dx (bC st.env o.op) o.op with
    |some (f,args)=>
     (∃ r,(c=true->asks st.env o.op/\ax P f args r)/\K (st.put o.dst (.cG c r)) [] [])\/
     ((c=true->asks st.env o.op/\vN P dr st f args fun r m nx rd wr=>K (St.put ⟨st.env,m,nx⟩ o.dst r) rd wr)/\
      (c=false->K (st.put o.dst uk) [] []))
    |none=>match n6 (bC st.env o.op) o.op with
     |some (l,args)=>(c=true->asks st.env o.op/\dr=false/\Y l args st.mem st.nx fun r m nx=>K (St.put ⟨st.env,m,nx⟩ o.dst r) [] [])/\(c=false->K (st.put o.dst uk) [] [])
     |none=>match aQ P o.op (bC st.env o.op) st.mem st.nx with
      |some e=>if e.aT.isEmpty&&e.new==0 then(c=true->asks st.env o.op/\e.pre)/\K (st.put o.dst (.cG c e.val)) e.rd []
       else(c=true->asks st.env o.op/\e.pre/\K (St.put ⟨st.env,cu st.mem e.aT,st.nx+e.new⟩ o.dst e.val) e.rd (e.aT.map (·.1)))/\
        (c=false->K (st.put o.dst uk) [] [])
      |none=>c=false/\K (st.put o.dst uk) [] []
def goes(ops:Array Oper)(o:Oper)(st:St):Prop:=o.guard=none\/∃ j b,o.guard=some (j,b)/\(((ops[j]?).bind (·.dst)).bind fun t=>ku (st.env t) b)=some true
def Uh(P:Program)(ops:Array Oper)(o:Oper)(st:St)(K:St->List Nat->List Nat->Prop):Prop:=
 goes ops o st/\asks st.env o.op/\∃ e,eQ P (bC st.env o.op) st.mem st.nx o.op e/\K (St.put ⟨st.env,cu st.mem e.aT,st.nx+e.new⟩ o.dst e.val) e.rd (e.aT.map (·.1))
def aw(P:Program)(Y:gd)(ops:Array Oper)(dr:Bool)(cf:List (Nat×Nat))(Q:Exit->St->Prop):List Oper->St->ma->Prop
 |[],st,tr=>(∀ q∈cf,p9 tr q.1 q.2)/\Q .normal st
 |o::rest,st,tr=>jU P Y ops dr o st (fun st' rd wr=>aw P Y ops dr cf Q rest st' (tr++[(rd,wr)]))\/Uh P ops o st fun st' rd wr=>aw P Y ops dr cf Q rest st' (tr++[(rd,wr)])
def cD:Op->Nat
 | .call { callee:=.builtin .len,.. }=>1
 | .call { callee:=.builtin .min,.. }=>0
 | .store .. | .mapUpdate .. | .insert .. | .call _=>2
 | .load .. | .lookup .. | .fieldAddr .. | .indexAddr .. | .slice .. | .nilCheck _ | .convert .. =>1
 | .alloc _ | .box .. | .buildSlice .. | .makeSlice .. | .makeMap .. =>3
 | .binOp .eql .. | .binOp .neq .. =>1
 | .move _ | .assign _ | .pick .. | .build .. | .binOp .. | .unOp .. | .makeFunc .. | .field .. | .index .. | .extract .. =>0
 |_=>2
def AN(C:List Nat)(o:Oper):Nat:=o.after.toList.foldl (fun s e=>if Region.binds .any e then s||| 2 ^ e.on||| C.getD e.on 0 else s) 0
def dE:List Oper->List Nat->List Nat
 |[],acc=>acc
 |o::r,acc=>dE r (acc++[AN acc o])
def unordered(bs:List Nat)(n:Nat):List (Nat×Nat):=
 (List.range n).flatMap fun j=>((List.range j).filter fun i=> !(bs.getD j 0).testBit i).map fun i=>(i,j)
def EW(ops:Array Oper)(i j:Nat):Bool:=match ops[i]?,ops[j]? with
 |some x,some y=>x.apart ops y
 |_,_=>true
def Fz(ops:Array Oper)(i j:Nat):Bool:=match ops[i]?,ops[j]? with
 |some x,some y=>(cD y.op==1||cD y.op==2)&&cD x.op !=0&& !(cD x.op==1&&cD y.op==1)
 |_,_=>false
def cg(ops:Array Oper):Option (List (Nat×Nat)):=
 let u:=unordered (dE ops.toList []) ops.size
 if(ops.toList.zipIdx.all fun(o,i)=>o.after.toList.all fun e=> !Region.binds .any e||Nat.blt e.on i)&&u.all fun q=>EW ops q.1 q.2 then
  some (u.filter fun q=>Fz ops q.1 q.2)
 else none
def ym(ops:Array Oper):Bool:=Nat.blt 0 ops.size&&(List.range (ops.size - 1)).all fun i=>((dE ops.toList []).getD (ops.size - 1) 0).testBit i
def gE(K:St->Prop)(Q:Exit->St->Prop):Exit->St->Prop
 | .normal,st=>K st
 |e,st=>Q e st
def hZ(id:Nat)(Q:Exit->St->Prop):Exit->St->Prop
 | .exit i,st=>if i=id then Q .normal st else Q (.exit i) st
 |e,st=>Q e st
def Ko(Q:Exit->St->Prop):Exit->St->Prop
 | .goto _,_=>False
 |e,st=>Q e st
def dG(i:Nat)(cs:List D)(sz:Nat):D->D
 | .rs j off n=>if j=i then .sl ((cs.drop off).take (n*sz)) n else .rs j off n
 | .rp j off=>if j=i then .pt (cs.drop off) else .rp j off
 |d=>d
def yZ(i:Nat)(es:List (Value×D)):D->D
 | .mp j=>if j=i then .im es else .mp j
 |d=>d
def rk(σ:D->D):D->D
 | .agg ds=>.agg (ds.map σ)
 | .cG c d=>.cG c (σ d)
 |d=>σ d
def sub(σ:D->D):D->D
 | .bp ds=>.bp (ds.map (rk σ))
 | .fn f fs ds=>.fn f (fs.map (rk σ)) (ds.map (rk σ))
 |d=>rk σ d
def Row.sub(σ:D->D):Row->Row
 | .cells ds e=>.cells (ds.map (Abs.sub σ)) e
 | .map es=>.map (es.map fun x=>(x.1,Abs.sub σ x.2))
 | .bs u x T=>.bs u (Abs.sub σ x) T
 |r=>r
def Wk(d d':D):Prop:=∀ F β w v,R F β w d v->R F β w d' v
inductive aR(P:Program):St->St->Prop
 |refl (st:St):aR P st st
 |trans {a b c:St} (h:aR P a b) (k:aR P b c):aR P a c
 |forget (env env':Env) (m:Mem) (nx:Nat) (h:∀ t,env' t=env t\/env' t=.u):aR P ⟨env,m,nx⟩ ⟨env',m,nx⟩
 |drop (env:Env) (m m':Mem) (nx:Nat) (h:∀ i,m' i=m i\/m' i=none):aR P ⟨env,m,nx⟩ ⟨env,m',nx⟩
 |freeze (env:Env) (m:Mem) (nx i:Nat) (cs:List D) (e:TypeId) (h:m i=some (.cells cs e)):
  aR P ⟨env,m,nx⟩ ⟨fun t=>sub (dG i cs (P.cellsOf e)) (env t),fun j=>if j=i then none else(m j).map (Row.sub (dG i cs (P.cellsOf e))),nx⟩
 |QV (env:Env) (m:Mem) (nx i:Nat) (es:List (Value×D)) (h:m i=some (.map es)):
  aR P ⟨env,m,nx⟩ ⟨fun t=>sub (yZ i es) (env t),fun j=>if j=i then none else(m j).map (Row.sub (yZ i es)),nx⟩
 |CB (env:Env) (m:Mem) (nx t:Nat) (e:TypeId) (h:env t=.z):aR P ⟨env,m,nx⟩ ⟨up env t (.rs nx 0 0),up m nx (some (.cells [] e)),nx+1⟩
 |qi (env env':Env) (m m':Mem) (nx:Nat) (h:∀ t,Wk (env t) (env' t)) (hm:∀ i,m' i=m i\/∃ cs cs' e,m i=some (.cells cs e)/\m' i=some (.cells cs' e)/\cs'.length=cs.length/\∀ (k:Nat) (d d':D),cs[k]? =some d->cs'[k]? =some d'->Wk d d'):
  aR P ⟨env,m,nx⟩ ⟨env',m',nx⟩
def tZ(env:Env):List Tmp->List D->Env
 |t::ts,d::ds=>tZ (up env t d) ts ds
 |_,_=>env
def aaZ(K:St->Prop):Exit->St->Prop
 | .normal,st=>K st
 |_,_=>False
def ab2(env:Env)(C:Mem->Nat->Prop)(Q:Exit->St->Prop):Exit->St->Prop
 | .normal,st=>C st.mem st.nx
 | .ret,st=>Q .ret ⟨env,st.mem,st.nx⟩
 | .exit id,st=>Q (.exit id) ⟨env,st.mem,st.nx⟩
 |_,_=>False
def acV(P:Program)(ops:Array Oper)(Q:Exit->St->Prop):Exit->St->Prop:=fun e st=>e=.normal/\aw P nL ops false [] Q (ops.toList.drop (ops.size - 1)) st []
def Kp(P:Program)(Y:gd)(ops:Array Oper)(cf:List (Nat×Nat))(Q:Exit->St->Prop)(st:St):Prop:=
 aw P Y ops true cf Q ops.toList st []\/(ym ops=true/\aw P nL ops true cf (acV P ops Q) (ops.toList.take (ops.size - 1)) st [])
def AW(P:Program)(Y:gd)(rf:Bool):Code->(Exit->St->Prop)->St->Prop
 | .skip,Q,st=>Q .normal st
 | .region _ ops false,Q,st=>aw P Y ops false [] Q ops.toList st []
 | .region _ ops true,Q,st=>match cg ops with
  |some cf=>Kp P Y ops cf Q st
  |none=>False
 | .seq a b,Q,st=>AW P Y rf a (gE (fun st'=>∃ C,aR P st' C/\AW P Y rf b Q C) Q) st
 | .cond c a b,Q,st=>(opd st.env c).ask/\match (opd st.env c).core with
  | .s (.bool t)=>(t=true->AW P Y rf a Q st)/\(t=false->AW P Y rf b Q st)
  | .ub=>AW P Y rf a Q st/\AW P Y rf b Q st
  |_=>False
 | .block id b,Q,st=>AW P Y rf b (hZ id Q) st
 | .scope b,Q,st=>AW P Y rf b (Ko Q) st
 | .loop b,Q,st=>∃ (I:St->Prop) (μ:St->Nat),I st/\∀ st',I st'->AW P Y rf b (gE (fun C=>∃ J,aR P C J/\I J/\μ J<μ st') Q) st'
 | .rangeFunc g ps assign body,Q,st=>rf=true/\(opd st.env g).ask/\∃ f fs cs xs,∃ I:Nat->Mem->Nat->Prop,(opd st.env g).core=.fn (.func f) fs cs/\yJ P f fs cs xs/\(∀ x∈xs,x.length=ps.size/\∀ d∈x,Tr d)/\I 0 st.mem st.nx/\
   (∀ k m nx x,xs[k]? =some x->I k m nx->AW P nL false assign (aaZ fun s=>AW P nL false body (ab2 st.env (I (k+1)) Q) s) ⟨tZ st.env ps.toList x,m,nx⟩)/\
   ∀ m nx,I xs.length m nx->Q .normal ⟨st.env,m,nx⟩
 | .exit id,Q,st=>Q (.exit id) st
 | .label _,Q,st=>Q .normal st
 | .ret,Q,st=>Q .ret st
 |_,_,_=>False
def qk(P:Program)(st:St):ResultVar->Option (Prop×D)
 | .tmp t=>some (True,st.env t)
 | .cell a t=>match st.env a with
  | .rp i off=>match st.mem i with
   |some (.cells cs _)=>some (aG P t=true/\off+P.cellsOf t<=cs.length,jo P t (cs.drop off))
   |_=>none
  | .pt cs=>some (aG P t=true/\P.cellsOf t<=cs.length,jo P t cs)
  |_=>none
def pr(P:Program)(st:St):List ResultVar->List D->(List D->Prop)->Prop
 |[],acc,K=>K acc
 |r::rs,acc,K=>match qk P st r with
  |some (p,d)=>p/\pr P st rs (acc++[d]) K
  |none=>False
def rv:List D->D
 |[d]=>d
 |ds=>.bp ds
def lE(P:Program)(rs:List ResultVar)(K:D->St->Prop):Exit->St->Prop
 | .normal,st=>pr P st rs [] fun ds=>K (rv ds) st
 | .ret,st=>pr P st rs [] fun ds=>K (rv ds) st
 |_,_=>False
def kK(args:List D):Env:=fun t=>args.getD t .u
section inv
variable{F:Nat->Prop}{β:az}{w:World}{v:Value}
theorem R.cJ{x:Value}(h:R F β w (.s x) v):v=x/\plain x=true:=by cases h;exact⟨rfl,‹_›⟩
theorem R.Cy(h:R F β w .ub v):∃ b,v=.bool b:=by cases h;exact⟨_,rfl⟩
theorem R.yM(h:R F β w .z v):v=.slice none 0 0:=by cases h;rfl
theorem R.AE(h:R F β w .z v):∃ a,v=.slice a 0 0:=⟨_,h.yM⟩
theorem R.qM{cs:List D}(h:R F β w (.agg cs) v):∃ vs:List Value,v=.agg vs.toArray/\vs.length=cs.length/\∀ (k:Nat) (d:D) (u:Value),cs[k]? =some d->vs[k]? =some u->R F β w d u:=by
 cases h with|agg _ vs hl h=>exact⟨vs,rfl,hl,h⟩
theorem R.Ag{cs:List D}(h:R F β w (.bp cs) v):∃ vs:List Value,v=.tuple vs.toArray/\vs.length=cs.length/\∀ (k:Nat) (d:D) (u:Value),cs[k]? =some d->vs[k]? =some u->R F β w d u:=by
 cases h with|bp _ vs hl h=>exact⟨vs,rfl,hl,h⟩
theorem R.vI(d:D)(h:R F β w d v)(ha:d.ask):R F β w d.core v:=by
 cases h with
 |cG c d v h h'=>exact h ha
 |u v=>exact .u _
 |s v h=>exact .s _ h
 |ub b=>exact .ub _
 |agg cs vs h h'=>exact .agg _ _ h h'
 |bp cs vs h h'=>exact .bp _ _ h h'
 |z=>exact .z
 |yl i l h=>exact .yl _ _ h
 |Bk i v h hv=>exact .Bk _ _ h hv
 |iz a c=>exact .iz _ _
 |sc es n a h=>exact .sc _ _ _ h
 |sl es n b o cap us h1 h2 C J M O U=>exact .sl _ _ _ _ _ _ h1 h2 C J M O U
 |pt cs b o us h1 h2 C J M=>exact .pt _ _ _ _ h1 h2 C J M
 |lG i off n v h hv=>exact .lG _ _ _ _ h hv
 |jR i a h=>exact .jR _ _ h
 |kX i off a b o len room sz h=>exact .kX _ _ _ _ _ _ _ _ h
 |rs i off n cap b o len room sz h h1 h2 C J=>exact .rs _ _ _ _ _ _ _ _ _ h h1 h2 C J
 |rH i off v h hv=>exact .rH _ _ _ h hv
 |rp i off b o len room sz h=>exact .rp _ _ _ _ _ _ _ h
 |y6 i v h hv=>exact .y6 _ _ h hv
 |mp i r h=>exact .mp _ _ h
 |im es r ms c h1 h2 C J M O U=>exact .im _ _ _ _ h1 h2 C J M O U
 |fn f fs cs us vs h1 h2 C J=>exact .fn _ _ _ _ _ h1 h2 C J
theorem Yb{x:Value}(h:plain x=true):x.oneCell'=true:=by cases x<;>simp_all[plain,Value.oneCell']
theorem R.one{d:D}(h:R F β w d v)(hd:d.one=true):v.oneCell'=true:=by
 cases h<;>first|rfl|assumption|(simp[D.one] at hd;done)|(exact Yb ‹_›)
theorem R.cells{d:D}(h:R F β w d v)(hd:d.cells.all D.one=true):v.cells.size=d.cells.length/\(∀ (k:Nat) (e:D) (u:Value),d.cells[k]? =some e->v.cells[k]? =some u->R F β w e u/\u.oneCell'=true)/\(∀ u∈v.cells.toList,u.oneCell'=true):=by
 have single:d.cells=[d]->v.cells.size=d.cells.length/\(∀ (k:Nat) (e:D) (u:Value),d.cells[k]? =some e->v.cells[k]? =some u->R F β w e u/\u.oneCell'=true)/\(∀ u∈v.cells.toList,u.oneCell'=true):=fun hs=>by
  have h1:d.one=true:=by simpa[hs] using hd
  have h2:=h.one h1;have J:v.cells= #[v]:=by cases v<;>first|rfl|(simp[Value.oneCell'] at h2;done)
  rw[J,hs];refine⟨rfl,fun k e u hk hu=>?_,fun u hu=>?_⟩
  .cases k with
   |zero=>simp at hk hu;subst hk;subst hu;exact⟨h,h2⟩
   |succ k=>simp at hk
  .simp at hu;subst hu;exact h2
 cases d with
 |agg cs=>
  obtain⟨vs,rfl,hl,hr⟩:=h.qM
  have C:∀ (k:Nat) (u:Value),vs[k]? =some u->u.oneCell'=true:=fun k u hu=>by
   have hk:k<cs.length:=by
    have:=(bZ.1 hu).1;omega
   have h1:=hr k cs[k] u (by simp[hk]) hu;exact h1.one (b7.1 hd _ (df hk))
  refine⟨by simpa[Value.cells,D.cells] using hl,fun k e u hk hu=>?_,fun u hu=>?_⟩
  .simp[Value.cells] at hu;exact⟨hr k e u hk hu,C k u hu⟩
  .simp[Value.cells] at hu;obtain⟨k,hk⟩:=dY hu;exact C k u hk
 |_=>exact single rfl
end inv
section opd
variable{F:Nat->Prop}{β:az}{w:World}
theorem Kw(v:Value):R F β w (jM v) v:=by
 unfold jM;split<;>first|exact .u _|exact .s _ rfl|exact .z
theorem ac8(v:Value):R F β w (wN v) v:=by
 unfold wN;split
 .rename_i cs
  have:=R.agg (F:=F) (β:=β) (w:=w) (cs.toList.map jM) cs.toList oS (fun k d u hk hu=>by
   simp only[List.getElem?_map,hu,Option.map_some,aK] at hk;subst hk
   exact Kw u)
  simpa using this
 all_goals first|exact .u _|exact .s _ rfl|exact .z
def eZ(F:Nat->Prop)(β:az)(w:World)(env:Env)(a:Act):Prop:=∀ t,R F β w (env t) (a.tmps.getD t undef)
theorem eZ.opd{env:Env}{a:Act}(h:eZ F β w env a)(x:Operand):R F β w (opd env x) (a.eval x):=by
 cases x with
 |tmp t=>exact h t
 |const v=>exact ac8 v
 |global g=>exact .u _
 |func f=>exact .fn (.func f) [] [] [] [] rfl rfl oS oS
theorem eZ.step{β':az}{w':World}{env:Env}{a:Act}(h:eZ F β w env a)(hs:Step β w β' w'):eZ F β' w' env a:=fun t=>(h t).step hs
theorem eZ.put{env:Env}{a:Act}(h:eZ F β w env a)(dst:Option Nat)(d:D)(v:Value)(hr:R F β w d v)(hd:∀ t,dst=some t->t<a.tmps.size):
 eZ F β w (match dst with|some t=>up env t d|none=>env) (a.put dst v):=by
 cases dst with
 |none=>exact h
 |some t=>
  intro j;have ht:=hd t rfl;by_cases hj:j=t
  .subst hj;simp only[au,Act.put];simpa[Array.getD_eq_getD_getElem?,ht] using hr
  .simp only[bE _ _ hj,Act.put];have:=h j;simpa[Array.getD_eq_getD_getElem?,Array.getElem?_setIfInBounds_ne (Ne.symm hj)] using this
end opd
section types
variable{P:Program}(w:World)
theorem qI{t:TypeId}(h:aG P t=true):∃ i d z,P.info? t=some i/\P.underlying t=some d/\i.zero=some z/\(bG P t=false->P.cellsOf t=1)/\z.cells.size=P.cellsOf t/\
 aZ P t=z.cells.toList.map jM/\i.size=P.cellsOf t/\i.bytes=P.bytesOf t/\(∀ u∈z.cells.toList,(jM u).one=true):=by
 unfold aG at h;simp only[ay,Bool.or_eq_true,beq_iff_eq] at h;obtain⟨⟨h1,h2⟩,C⟩:=h;obtain⟨d,hd⟩:=Option.isSome_iff_exists.1 h1;cases hi:P.info? t with
 |none=>simp[hi] at C
 |some i=>
  cases hz:i.zero with
  |none=>simp[hi,hz] at C
  |some z=>
   simp only[hi,hz,Option.bind_some,ay,beq_iff_eq,b7] at C;refine⟨i,d,z,rfl,hd,hz,fun ha=>?_,C.2,?_,?_,?_,C.1⟩
   .rcases h2 with h2|h2
    .rw[h2] at ha;cases ha
    .exact h2
   .simp[aZ,hi,hz]
   .simp[Program.cellsOf,hi]
   .simp[Program.bytesOf,hi]
theorem B4{t:TypeId}(h:(P.underlying t).isSome=true):(isAgg t).run P w=.ok (bG P t) w:=by
 obtain⟨d,hd⟩:=Option.isSome_iff_exists.1 h;simp only[isAgg,Sem.run_bind,run_underlying hd,Result.andThen_ok,bG,hd];cases d<;>rfl
theorem ais{t:TypeId}(h:(P.info? t).isSome=true):(sizeOf t).run P w=.ok (P.cellsOf t) w:=by
 obtain⟨i,hi⟩:=Option.isSome_iff_exists.1 h;simp[sizeOf,typeInfo,Program.cellsOf,hi]
theorem iH{t:TypeId}(h:aG P t=true):(P.info? t).isSome=true:=by
 obtain⟨i,_,_,hi,_⟩:=qI h;simp[hi]
theorem z7{t:TypeId}(h:aG P t=true):(P.underlying t).isSome=true:=by
 obtain⟨_,d,_,_,hd,_⟩:=qI h;simp[hd]
theorem xy{t:TypeId}(h:aG P t=true):∃ z,(zeroValue t).run P w=.ok z w/\z.cells.size=P.cellsOf t/\aZ P t=z.cells.toList.map jM/\(∀ u∈z.cells.toList,(jM u).one=true):=by
 obtain⟨i,d,z,hi,_,hz,_,h1,h2,_,_,C⟩:=qI h;exact⟨z,by simp[zeroValue,typeInfo,hi,hz],h1,h2,C⟩
theorem je{t:TypeId}(h:bm P t=true):P.underlying t=some (.slice (av P t))/\aG P (av P t)=true:=by
 unfold bm at h;unfold av;split at h
 .rename_i e he;rw[he];exact⟨rfl,h⟩
 .cases h
theorem Js{t:TypeId}(h:nM P t=true):P.underlying t=some (.array (oz P t) (av P t))/\aG P (av P t)=true:=by
 unfold nM at h;unfold av oz;split at h
 .rename_i e he;rw[he];exact⟨rfl,h⟩
 .cases h
theorem vE{t:TypeId}(h:fG P t=true):P.underlying t=some .string:=by
 unfold fG at h;split at h
 .assumption
 .cases h
end types
def aN(P:Program)(F:Nat->Prop)(m:Mem)(nx:Nat)(β:az)(w:World)(e:du)(s:Sem Next):Prop:=
 ∃ n v w' β',s.run P w=.ok n w'/\(n=.value v\/(n=.skip/\v=undef))/\R F β' w' e.val v/\aC P F (cu m e.aT) β' w'/\Step β w β' w'/\∀ i,β i=none->(i<nx\/nx+e.new<=i)->β' i=none
section
variable{P:Program}{F:Nat->Prop}{m:Mem}{nx:Nat}{β:az}{w:World}
theorem aN.pure(hm:aC P F m β w){pre:Prop}{d:D}{rd:List Nat}{s:Sem Value}{v:Value}(hr:s.run P w=.ok v w)(h:R F β w d v):
 aN P F m nx β w { pre:=pre,val:=d,rd:=rd } (do Pure.pure (Next.value (<- s))):=
 ⟨.value v,v,w,β,by simp[hr],.inl rfl,h,hm,Step.refl β w,fun _ h _=>h⟩
def Rd(F:Nat->Prop)(β:az)(w:World)(b o:Nat)(cs:List D):Prop:=
 ∃ us:Nat->Value,(∀ k:Nat,k<cs.length->w.cell? ⟨b,o+k,none⟩=some (us k)/\(us k).oneCell'=true)/\∀ (k:Nat) (d:D),cs[k]? =some d->R F β w d (us k)
theorem Rd.drop{b o:Nat}{cs:List D}(h:Rd F β w b o cs)(k:Nat):Rd F β w b (o+k) (cs.drop k):=by
 obtain⟨us,h1,h2⟩:=h;refine⟨fun j=>us (k+j),fun j hj=>?_,fun j d hj=>?_⟩
 .have:=h1 (k+j) (by simp at hj;omega);rw[<- Nat.add_assoc] at this;exact this
 .exact h2 (k+j) d (by simpa[List.getElem?_drop] using hj)
theorem Rd.take{b o:Nat}{cs:List D}(h:Rd F β w b o cs)(k:Nat):Rd F β w b o (cs.take k):=by
 obtain⟨us,h1,h2⟩:=h;refine⟨us,fun j hj=>h1 j (by simp at hj;omega),fun j d hj=>h2 j d ?_⟩;rw[List.getElem?_take] at hj;split at hj
 .exact hj
 .cases hj
theorem cO.rd{cs:List D}{e:TypeId}{b o len room sz:Nat}(h:cO P F β w (.cells cs e) (.cells b o len room sz)):Rd F β w b o cs/\len=cs.length/\sz=P.cellsOf e/\len<=room:=by
 cases h with
 |cells _ _ _ _ _ _ c hc hr hlen bK hh=>
  refine⟨⟨fun k=>(c[o+k]?).getD undef,fun k hk=>?_,fun k d hk=>?_⟩,rfl,bK,hlen⟩
  .have:o+k<c.size:=by omega
   obtain⟨v,h1,_,C⟩:=hh k cs[k] (by simp[hk]);exact⟨by simp[World.cell?,hc,h1],by simpa[h1] using C⟩
  .obtain⟨v,h1,h2,_⟩:=hh k d hk;simpa[h1] using h2
theorem R.Gj{cs:List D}{v:Value}(h:R F β w (.pt cs) v):∃ b o,v=.pointer (some ⟨b,o,none⟩)/\¬ F b/\β.free b/\b<w.heap.size/\Rd F β w b o cs:=by
 cases h with|pt _ b o us h1 h2 h3 h4 h5=>exact⟨b,o,rfl,h1,h2,h3,us,h4,h5⟩
theorem R.Ti{cs:List D}{b o:Nat}(h1:¬ F b)(h2:β.free b)(C:b<w.heap.size)(h:Rd F β w b o cs):R F β w (.pt cs) (.pointer (some ⟨b,o,none⟩)):=by
 obtain⟨us,J,M⟩:=h;exact .pt cs b o us h1 h2 C J M
theorem R.Gi(hm:aC P F m β w){i off:Nat}{cs:List D}{e:TypeId}{v:Value}(h:R F β w (.rp i off) v)(hi:m i=some (.cells cs e)):
 ∃ b o room sz,β i=some (.cells b o cs.length room sz)/\v=.pointer (some ⟨b,o+off,none⟩)/\cO P F β w (.cells cs e) (.cells b o cs.length room sz):=by
 obtain⟨p,hp,aD⟩:=hm.row i _ hi;cases h with
 |rH _ _ _ h _=>
  rw[h] at hp;cases hp;cases aD
 |rp _ _ b o len room sz h=>
  rw[h] at hp;cases hp;obtain⟨_,h2,_,_⟩:=aD.rd;subst h2;exact⟨b,o,room,sz,h,rfl,aD⟩
theorem EO{t:TypeId}(ht:aG P t=true){b o:Nat}{cs:List D}(h:Rd F β w b o cs)(hl:P.cellsOf t<=cs.length):
 ∃ v,(loadVar t ⟨b,o,none⟩).run P w=.ok v w/\R F β w (jo P t cs) v:=by
 obtain⟨us,h1,h2⟩:=h;obtain⟨i,d,z,hi,hd,hz,C,_⟩:=qI ht;unfold loadVar jo;simp only[Sem.run_bind,B4 w (z7 ht),Result.andThen_ok];cases ha:bG P t with
 |true=>
  have hc:=run_loadCells (P:=P) w ⟨b,o,none⟩ (P.cellsOf t) us (fun j hj=>by rw[Addr.add_lit];exact(h1 j oG).1);refine⟨_,by simp[ais w (iH ht),hc];rfl,?_⟩;refine .agg _ _ oP fun k d v hk hv=>?_;simp only[List.getElem?_map] at hv;rw[List.getElem?_take] at hk;split at hk
  .rename_i aj;have:(List.range (P.cellsOf t))[k]? =some k:=by simp[aj]
   rw[this] at hv;simp at hv;subst hv;exact h2 k d hk
  .cases hk
 |false=>
  have J:=C ha;have h0:=(h1 0 oG).1;rw[Nat.add_zero] at h0;refine⟨us 0,by simp[h0],?_⟩;cases cs with
  |nil=>simp at hl;omega
  |cons d ds=>exact h2 0 d rfl
theorem WX(hm:aC P F m β w){t:TypeId}{cs:List D}{v:Value}{pre:Prop}(h:R F β w (.pt cs) v)(ht:aG P t=true)(hl:P.cellsOf t<=cs.length):
 aN P F m nx β w { pre:=pre,val:=jo P t cs } (do Pure.pure (Next.value (<- Instr.loadAt t v))):=by
 obtain⟨b,o,rfl,_,_,_,C⟩:=h.Gj;obtain⟨u,hu,hr⟩:=EO ht C hl;exact aN.pure hm (by simp[Instr.loadAt,Instr.sureAddr,hu]) hr
theorem WY(hm:aC P F m β w){t:TypeId}{i off:Nat}{cs:List D}{e:TypeId}{v:Value}{pre:Prop}{rd:List Nat}(h:R F β w (.rp i off) v)(hi:m i=some (.cells cs e))
 (ht:aG P t=true) (hl:off+P.cellsOf t<=cs.length):
 aN P F m nx β w { pre:=pre,val:=jo P t (cs.drop off),rd:=rd } (do Pure.pure (Next.value (<- Instr.loadAt t v))):=by
 obtain⟨b,o,room,sz,C,rfl,aD⟩:=h.Gi hm hi;obtain⟨u,hu,hr⟩:=EO ht (aD.rd.1.drop off) oP;exact aN.pure hm (by simp[Instr.loadAt,Instr.sureAddr,hu]) hr
theorem I6{cs:List D}{off:Nat}{xs:List D}(h:off+xs.length<=cs.length):fj cs off xs=cs.take off++xs++cs.drop (off+xs.length):=by
 unfold fj;split
 .rename_i x;simp at h;rw[List.set_eq_take_append_cons_drop,if_pos oG];simp
 .rfl
theorem Ir{cs:List D}{off:Nat}{xs:List D}(h:off+xs.length<=cs.length):(fj cs off xs).length=cs.length:=by
 rw[I6 h];simp;omega
theorem OS{cs:List D}{off:Nat}{xs:List D}(h:off+xs.length<=cs.length)(k:Nat):(fj cs off xs)[k]? =if k<off then cs[k]? else if k<off+xs.length then xs[k - off]? else cs[k]? :=by
 rw[I6 h];by_cases h1:k<off
 .rw[if_pos h1,List.append_assoc,List.getElem?_append_left oP,List.getElem?_take,if_pos h1]
 .rw[if_neg h1];by_cases h2:k<off+xs.length
  .rw[if_pos h2,List.append_assoc,List.getElem?_append_right oP,List.length_take,Nat.min_eq_left oG,List.getElem?_append_left oG]
  .rw[if_neg h2,List.getElem?_append_right oP,List.length_append,List.length_take,Nat.min_eq_left oG,List.getElem?_drop];congr 1;omega
theorem EQ(c:List Value)(off:Nat)(xs:List Value)(h:off+xs.length<=c.length)(k:Nat):(c.take off++xs++c.drop (off+xs.length))[k]? =if k<off then c[k]? else if k<off+xs.length then xs[k - off]? else c[k]? :=by
 by_cases h1:k<off
 .rw[if_pos h1,List.append_assoc,List.getElem?_append_left oP,List.getElem?_take,if_pos h1]
 .rw[if_neg h1];by_cases h2:k<off+xs.length
  .rw[if_pos h2,List.append_assoc,List.getElem?_append_right oP,List.length_take,Nat.min_eq_left oG,List.getElem?_append_left oG]
  .rw[if_neg h2,List.getElem?_append_right oP,List.length_append,List.length_take,Nat.min_eq_left oG,List.getElem?_drop];congr 1;omega
theorem Iy(hm:aC P F m β w){i off:Nat}{cs:List D}{e:TypeId}{b o room sz:Nat}(X:β i=some (.cells b o cs.length room sz))(aD:cO P F β w (.cells cs e) (.cells b o cs.length room sz))
 {ds:List D} {vs:List Value} (hlen:vs.length=ds.length) (nE:off+ds.length<=cs.length) (h1:∀ u∈vs,u.oneCell'=true) (hr:∀ (k:Nat) (d:D) (u:Value),ds[k]? =some d->vs[k]? =some u->R F β w d u):
 ∃ w',(storeCells ⟨b,o+off,none⟩ vs).run P w=.ok () w'/\aC P F (up m i (some (.cells (fj cs off ds) e))) β w'/\Step β w β w':=by
 cases aD with
 |cells _ _ _ _ _ _ c hc um hle bK hh=>
 have O:=run_storeCells_at P b (o+off) e vs 0 c w hc oG h1;simp only[Nat.add_zero] at O;have vY:=setRow_heap w b c (c.toList.take (o+off)++vs++c.toList.drop (o+off+vs.length)).toArray e (0,0) hc
 have hs:Step β w β (w.setRow b (c.toList.take (o+off)++vs++c.toList.drop (o+off+vs.length)).toArray):=
  B2 hm X rfl oS fun k hk=>setRow_other w b k _ hk
 refine⟨_,O,hm.write X rfl oS (fun k hk=>setRow_other w b k _ hk) _ ?_,hs⟩;have hl:=Ir (cs:=cs) (off:=off) (xs:=ds) oG
 have GL:(c.toList.take (o+off)++vs++c.toList.drop (o+off+vs.length)).toArray.size=c.size:=by
  simp only[List.size_toArray,List.length_append,List.length_take,List.length_drop,Array.length_toList];omega
 have key:=cO.cells (P:=P) (F:=F) (β:=β) (w:=w.setRow b (c.toList.take (o+off)++vs++c.toList.drop (o+off+vs.length)).toArray) (fj cs off ds) e b o room sz _ vY (by rw[GL];exact um) oG bK (fun k d hk=>by
  rw[OS oG] at hk;have hv:=EQ c.toList (o+off) vs oP (o+k);simp only[List.getElem?_toArray];by_cases h2:k<off
  .rw[if_pos h2] at hk;rw[if_pos oG] at hv;obtain⟨u,C,J,M⟩:=hh k d hk;exact⟨u,by rw[hv];simpa using C,J.step hs,M⟩
  .rw[if_neg h2] at hk;rw[if_neg oG] at hv;by_cases U:k<off+ds.length
   .rw[if_pos U] at hk;rw[if_pos oG] at hv;have aj:k - off<vs.length:=by omega
    refine⟨vs[k - off],by rw[hv,show o+k - (o+off)=k - off from by omega];simp[aj],?_,h1 _ (df aj)⟩;exact(hr (k - off) d vs[k - off] hk (by simp[aj])).step hs
   .rw[if_neg U] at hk;rw[if_neg oG] at hv;obtain⟨u,C,J,M⟩:=hh k d hk
    exact⟨u,by rw[hv];simpa using C,J.step hs,M⟩)
 rw[hl] at key;exact key
theorem Yc(hm:aC P F m β w){t:TypeId}{i off:Nat}{cs:List D}{e:TypeId}{a x:Value}{d:D}{pre:Prop}{rd:List Nat}(h:R F β w (.rp i off) a)(hx:R F β w d x)(hi:m i=some (.cells cs e))
 (ht:aG P t=true) (hlen:d.cells.length=P.cellsOf t) (hl:off+P.cellsOf t<=cs.length) (h1:d.cells.all D.one=true):
 aN P F m nx β w { pre:=pre,val:=.bp [],aT:=[(i,some (.cells (fj cs off d.cells) e))],rd:=rd } (do Instr.storeAt t a x;Pure.pure Next.skip):=by
 obtain⟨b,o,room,sz,O,rfl,aD⟩:=h.Gi hm hi;obtain⟨J,M,c3⟩:=hx.cells h1;obtain⟨w',C,U,hs⟩:=Iy (P:=P) hm O aD (off:=off) (ds:=d.cells) (vs:=x.cells.toList) (by simpa using J) oG c3 (fun k d' u hk hu=>(M k d' u hk (by simpa using hu)).1);refine⟨.skip,undef,w',β,?_,.inr ⟨rfl,rfl⟩,.bp [] [] rfl oS,U,hs,fun _ h _=>h⟩;have bK:x.cells.size=P.cellsOf t:=by omega
 simp[Instr.storeAt,Instr.sureAddr,storeVar,ais w (iH ht),bK,C]
theorem Cp(hm:aC P F m β w)(hn:β nx=none){cs:List D}{c:List Value}{e:TypeId}(hl:c.length=cs.length)(h1:∀ (k:Nat) (d:D) (u:Value),cs[k]? =some d->c[k]? =some u->R F β w d u/\u.oneCell'=true)(C:List Value):
 aC P F (up m nx (some (.cells cs e))) (up β nx (some (.cells w.heap.size 0 cs.length (cs.length+C.length) (P.cellsOf e)))) (w.alloc (.cells (c++C).toArray e))/\
 Step β w (up β nx (some (.cells w.heap.size 0 cs.length (cs.length+C.length) (P.cellsOf e)))) (w.alloc (.cells (c++C).toArray e)):=by
 have hs:=zM hm (.cells (c++C).toArray e) hn (.cells w.heap.size 0 cs.length (cs.length+C.length) (P.cellsOf e)) (fun b hb=>by simp[Pl.bJ] at hb;exact hb.symm);refine⟨hm.alloc hn _ _ _ (fun b hb=>by simp[Pl.bJ] at hb;exact hb.symm) ?_,hs⟩;refine .cells cs e w.heap.size 0 _ _ (c++C).toArray (heap_alloc_new w _) oP oG rfl fun k d hk=>?_;have O:k<cs.length:=(bZ.1 hk).1;have J:k<c.length:=by omega
 obtain⟨h2,M⟩:=h1 k d c[k] hk (by simp[J]);refine⟨c[k],?_,h2.step hs,M⟩;rw[Nat.zero_add,List.getElem?_toArray,List.getElem?_append_left J];simp[J]
theorem vF{p:Pl}:∀ i,β i=none->(i<nx\/nx+1<=i)->up β nx (some p) i=none:=fun i h hi=>by
 rw[bE _ _ oG];exact h
theorem B5(t:TypeId)(v:Value):(newVar t v).run P w=.ok ⟨w.heap.size,0,none⟩ (w.alloc (.cells v.cells t)):=by
 simp[newVar,newRow]
theorem aa9(hm:aC P F m β w)(hn:β nx=none){t:TypeId}{d:D}{v:Value}{pre:Prop}(h:R F β w d v)(h1:d.cells.all D.one=true):
 aN P F m nx β w { pre:=pre,val:=.rp nx 0,aT:=[(nx,some (.cells d.cells t))],new:=1 } (do Pure.pure (Next.value (<- Instr.box t v))):=by
 obtain⟨J,M,c3⟩:=h.cells h1;obtain⟨h2,C⟩:=Cp hm hn (cs:=d.cells) (c:=v.cells.toList) (e:=t) (by simpa using J) (fun k e u hk hu=>M k e u hk (by simpa using hu)) [];simp only[List.append_nil,Array.toArray_toList] at h2 C;refine⟨_,_,_,_,by simp[Instr.box,B5];rfl,.inl rfl,?_,h2,C,vF⟩;exact .rp nx 0 w.heap.size 0 _ _ _ (au _ _ _)
theorem xY{z:Value}{t:TypeId}(hz:aZ P t=z.cells.toList.map jM)(C:∀ u∈z.cells.toList,(jM u).one=true):
 z.cells.toList.length=(aZ P t).length/\∀ (k:Nat) (d:D) (u:Value),(aZ P t)[k]? =some d->z.cells.toList[k]? =some u->R F β w d u/\u.oneCell'=true:=by
 rw[hz];refine⟨oS,fun k d u hk hu=>?_⟩;rw[List.getElem?_map,hu] at hk;simp only[Option.map_some,aK] at hk;subst hk;have:=Kw (F:=F) (β:=β) (w:=w) u;exact⟨this,this.one (C u (cX hu))⟩
theorem Yd(hm:aC P F m β w)(hn:β nx=none){t:TypeId}{pre:Prop}(ht:aG P t=true):
 aN P F m nx β w { pre:=pre,val:=.rp nx 0,aT:=[(nx,some (.cells (aZ P t) t))],new:=1 } (do Pure.pure (Next.value (<- Instr.alloc t true (.tuple #[])))):=by
 obtain⟨z,hz,_,U,X⟩:=xy (P:=P) w ht;obtain⟨M,O⟩:=xY (F:=F) (β:=β) (w:=w) U X;obtain⟨C,J⟩:=Cp hm hn (cs:=aZ P t) (c:=z.cells.toList) (e:=t) M O [];simp only[List.append_nil,Array.toArray_toList] at C J;refine⟨_,_,_,_,by simp[Instr.alloc,hz,B5];rfl,.inl rfl,?_,C,J,vF⟩;exact .rp nx 0 w.heap.size 0 _ _ _ (au _ _ _)
end
section
variable{P:Program}{F:Nat->Prop}{m:Mem}{nx:Nat}{β:az}{w:World}
def Rl(F:Nat->Prop)(β:az)(w:World)(cs:List D)(c:List Value):Prop:=
 c.length=cs.length/\∀ (k:Nat) (d:D) (u:Value),cs[k]? =some d->c[k]? =some u->R F β w d u/\u.oneCell'=true
theorem Pf(off:Nat):∀ (l:List Value) (j:Nat) (cells:Array Value) (k:Nat),off+j+l.length<=cells.size->
 ((l.zipIdx j).foldl (fun cs (c,j)=>cs.setIfInBounds (off+j) c) cells)[k]? =if k<off+j then cells[k]? else if k<off+j+l.length then l[k - (off+j)]? else cells[k]?
 |[],j,cells,k,_=>by
  simp only[List.zipIdx_nil,List.foldl_nil,List.length_nil,Nat.add_zero];split
  .rfl
  .rfl
 |v::l,j,cells,k,h=>by
  simp only[List.zipIdx_cons,List.foldl_cons];simp at h;rw[Pf off l (j+1) _ k oP];simp only[List.length_cons];by_cases h1:k<off+j
  .rw[if_pos oG,if_pos h1,Array.getElem?_setIfInBounds_ne oG]
  .rw[if_neg h1];by_cases h2:k=off+j
   .subst h2;rw[if_pos oG,if_pos oG];have:off+j<cells.size:=by omega
    simp[this]
   .rw[if_neg oG];by_cases C:k<off+(j+1)+l.length
    .rw[if_pos C,if_pos oG,show k - (off+j)=(k - (off+(j+1)))+1 from by omega];simp
    .rw[if_neg C,if_neg oG,Array.getElem?_setIfInBounds_ne oG]
theorem WZ(off:Nat)(l:List Value)(cells:Array Value)(h:off+l.length<=cells.size):
 (l.zipIdx.foldl (fun cs (c,j)=>cs.setIfInBounds (off+j) c) cells).toList=cells.toList.take off++l++cells.toList.drop (off+l.length):=by
 apply List.ext_getElem?;intro k;rw[EQ _ _ _ (by simpa using h) k];have:=Pf off l 0 cells k (by simpa using h);simpa using this
theorem Gl(place:Nat->Option (Nat×Nat)):∀ (ps:List (Nat×D)) (C:List (Nat×Value)) (cs:List D) (c:Array Value) (cs':List D),Rl F β w cs c.toList->ps.length=C.length->
 (∀ (k:Nat) (p:Nat×D) (q:Nat×Value),ps[k]? =some p->C[k]? =some q->p.1=q.1/\R F β w p.2 q.2)->jq place cs ps=some cs'->∃ c',Instr.fill place c C=some c'/\Rl F β w cs' c'.toList
 |[],[],cs,c,cs',h,_,_,hf=>by
  simp only[jq,aK] at hf;subst hf;exact⟨c,rfl,h⟩
 |[],_::_,_,_,_,_,hl,_,_=>by simp at hl
 |_::_,[],_,_,_,_,hl,_,_=>by simp at hl
 |(i,d)::ps,(i',v)::C,cs,c,cs',h,hl,hp,hf=>by
  obtain⟨h1,h2⟩:=hp 0 _ _ rfl rfl;simp only at h1 h2;subst h1;simp only[jq] at hf;cases U:place i with
  |none=>simp[U] at hf
  |some q=>
   obtain⟨off,size⟩:=q;simp only[U] at hf;split at hf
   .rename_i hc;obtain⟨uW,pF,O⟩:=hc;obtain⟨k1,k2,k3⟩:=h2.cells O;have cF:=h.1;simp at cF
    have M:¬ (v.cells.size≠size||off+v.cells.size>c.size)=true:=by
     simp;omega
    simp only[Instr.fill,U];rw[if_neg M];have J:=WZ off v.cells.toList c oP
    have mG:v.cells.zipIdx.foldl (fun cs (c,j)=>cs.setIfInBounds (off+j) c) c=(v.cells.toList.zipIdx.foldl (fun cs (c,j)=>cs.setIfInBounds (off+j) c) c):=by
     rw[<- Array.foldl_toList];simp
    rw[mG];refine Gl place ps C (fj cs off d.cells) _ cs' ?_ (by simpa using hl) (fun k p q hk hq=>hp (k+1) p q hk hq) hf;rw[J];refine⟨?_,fun k e u hk hu=>?_⟩
    .rw[Ir oG];simp;omega
    .rw[OS oG] at hk;rw[EQ _ _ _ oP] at hu;simp only[Array.length_toList] at hu;by_cases X:k<off
     .rw[if_pos X] at hk hu;exact h.2 k e u hk hu
     .rw[if_neg X] at hk hu;by_cases g2:k<off+d.cells.length
      .rw[if_pos g2] at hk;rw[if_pos oG] at hu;exact k2 (k - off) e u hk (by simpa using hu)
      .rw[if_neg g2] at hk;rw[if_neg oG] at hu;exact h.2 k e u hk hu
   .cases hf
theorem Qd(z:List D)(hz:0<z.length):∀ (n k:Nat),k<n*z.length->(dq n z)[k]? =z[k % z.length]?
 |0,k,h=>by simp at h
 |n+1,k,h=>by
  have e:dq (n+1) z=z++dq n z:=by simp[dq,List.replicate_succ]
  rw[e];by_cases hk:k<z.length
  .rw[List.getElem?_append_left hk,Nat.mod_eq_of_lt hk]
  .rw[List.getElem?_append_right oG,Qd z hz n (k - z.length) (by rw[Nat.add_mul] at h;omega)];rw[<- Nat.mod_eq_sub_mod oG]
theorem BY(n:Nat)(z:List D):(dq n z).length=n*z.length:=by
 simp[dq,List.length_flatten]
theorem J0{t:TypeId}{z:Value}(hs:z.cells.size=P.cellsOf t)(hz:aZ P t=z.cells.toList.map jM)(X:∀ u∈z.cells.toList,(jM u).one=true)(n N:Nat)(J:N=n*P.cellsOf t)(zero:Array Value)(hzero:0<N->zero=z.cells):
 Rl F β w (dq n (aZ P t)) ((Array.range N).map (zero[· % zero.size]!)).toList:=by
 obtain⟨M,O⟩:=xY (F:=F) (β:=β) (w:=w) hz X;have hlen:(aZ P t).length=P.cellsOf t:=by rw[<- M];simpa using hs
 refine⟨by simp[BY,hlen,J],fun k d u hk hu=>?_⟩
 have aj:k<N:=by
  have:=(bZ.1 hk).1;rw[BY,hlen] at this;omega
 have U:0<N:=by omega
 have C:=hzero U;subst C
 have h0:0<P.cellsOf t:=by
  rcases Nat.eq_zero_or_pos (P.cellsOf t) with h|h
  .rw[h] at J;omega
  .exact h
 rw[Qd _ oG n k (by rw[hlen];omega),hlen] at hk;simp[aj] at hu;have hm:k % P.cellsOf t<z.cells.size:=by rw[hs];exact Nat.mod_lt _ h0
 refine O (k % P.cellsOf t) d u hk ?_;rw[<- hu,hs];simp[hm]
theorem Wd(hm:aC P F m β w){t:TypeId}{fs:Array Field}{ps:List (Nat×D)}{C:Array (Nat×Value)}{cs':List D}{pre:Prop}(ht:aG P t=true)(hu:P.underlying t=some (.struct fs))(M:fs.toList.all (fun f=>(P.info? f.type).isSome)=true)
 (hl:ps.length=C.size) (hp:∀ (k:Nat) (p:Nat×D) (q:Nat×Value),ps[k]? =some p->C[k]? =some q->p.1=q.1/\R F β w p.2 q.2)
 (hf:jq (fun i=>(fs[i]?).map fun f=>(f.offset,P.cellsOf f.type)) (aZ P t) ps=some cs'):
 aN P F m nx β w { pre:=pre,val:=.agg cs' } (do Pure.pure (Next.value (<- Instr.build t C))):=by
 obtain⟨z,hz,jA,X,h4⟩:=xy (P:=P) w ht;obtain⟨O,U⟩:=xY (F:=F) (β:=β) (w:=w) X h4
 have J:(fs.mapM fun f=>(do pure (f.offset, <- sizeOf f.type):Sem (Nat×Nat))).run P w=.ok (fs.map fun f=>(f.offset,P.cellsOf f.type)) w:=by
  rw[Array.mapM_eq_mapM_toList]
  have key:∀ l:List Field,l.all (fun f=>(P.info? f.type).isSome)=true->(l.mapM fun f=>(Prod.mk f.offset<$>sizeOf f.type:Sem (Nat×Nat))).run P w=.ok (l.map fun f=>(f.offset,P.cellsOf f.type)) w:=by
   intro l
   induction l with
   |nil=>intro _;simp
   |cons f l ih=>
    intro hl;simp only[List.all_cons,ay] at hl;simp[List.mapM_cons,ais w hl.1,ih hl.2]
  simp[key fs.toList M, <- Array.toList_map]
 obtain⟨c',wa,hR⟩:=Gl (F:=F) (β:=β) (w:=w) (fun i=>(fs.map fun f=>(f.offset,P.cellsOf f.type))[i]?) ps C.toList (aZ P t) z.cells cs' ⟨O,U⟩ (by simpa using hl) (fun k p q hk hq=>hp k p q hk (by simpa using hq)) (by
  rw[<- hf];congr 1;funext i
  simp[Array.getElem?_map])
 refine aN.pure hm (v:=.agg c') ?_ ?_
 .simp only[Instr.build,Sem.run_bind,hz,Result.andThen_ok,run_underlying hu,J,wa,Sem.run_pure]
 .have:=R.agg (F:=F) (β:=β) (w:=w) cs' c'.toList hR.1 (fun k d v hk hv=>(hR.2 k d v hk hv).1);simpa using this
theorem Wl(hm:aC P F m β w){t e:TypeId}{n:Nat}{ps:List (Nat×D)}{C:Array (Nat×Value)}{cs':List D}{pre:Prop}(ht:aG P t=true)(hu:P.underlying t=some (.array n e))(he:aG P e=true)
 (hl:ps.length=C.size) (hp:∀ (k:Nat) (p:Nat×D) (q:Nat×Value),ps[k]? =some p->C[k]? =some q->p.1=q.1/\R F β w p.2 q.2)
 (hf:jq (fun i=>some (i*P.cellsOf e,P.cellsOf e)) (aZ P t) ps=some cs'):
 aN P F m nx β w { pre:=pre,val:=.agg cs' } (do Pure.pure (Next.value (<- Instr.build t C))):=by
 obtain⟨z,hz,jA,O,U⟩:=xy (P:=P) w ht;obtain⟨J,M⟩:=xY (F:=F) (β:=β) (w:=w) O U;obtain⟨c',X,hR⟩:=Gl (F:=F) (β:=β) (w:=w) _ ps C.toList (aZ P t) z.cells cs' ⟨J,M⟩ (by simpa using hl) (fun k p q hk hq=>hp k p q hk (by simpa using hq)) hf;refine aN.pure hm (v:=.agg c') ?_ ?_
 .simp only[Instr.build,Sem.run_bind,hz,Result.andThen_ok,run_underlying hu,ais w (iH he),X,Sem.run_pure]
 .have:=R.agg (F:=F) (β:=β) (w:=w) cs' c'.toList hR.1 (fun k d v hk hv=>(hR.2 k d v hk hv).1);simpa using this
theorem Wp(hm:aC P F m β w)(hn:β nx=none){t:TypeId}{n:Nat}{ps:List (Nat×D)}{C:Array (Nat×Value)}{cs':List D}{pre:Prop}(ht:bm P t=true)(h24:n*P.cellsOf (av P t)<=2 ^ 24)(dt:n<=maxLen)
 (hl:ps.length=C.size) (hp:∀ (k:Nat) (p:Nat×D) (q:Nat×Value),ps[k]? =some p->C[k]? =some q->p.1=q.1/\R F β w p.2 q.2)
 (hf:jq (fun i=>some (i*P.cellsOf (av P t),P.cellsOf (av P t))) (dq n (aZ P (av P t))) ps=some cs'):
 aN P F m nx β w { pre:=pre,val:=.rs nx 0 n,aT:=[(nx,some (.cells cs' (av P t)))],new:=1 } (do Pure.pure (Next.value (<- Instr.buildSlice t n C))):=by
 obtain⟨hu,he⟩:=je ht;obtain⟨z,hz,X,M,h4⟩:=xy (P:=P) w he;have D2:=J0 (F:=F) (β:=β) (w:=w) (P:=P) X M h4 n (n*P.cellsOf (av P t)) rfl (if n*P.cellsOf (av P t)=0 then #[] else z.cells) (fun h=>by rw[if_neg oG]);obtain⟨c',J,hR⟩:=Gl (F:=F) (β:=β) (w:=w) _ ps C.toList _ _ cs' D2 (by simpa using hl) (fun k p q hk hq=>hp k p q hk (by simpa using hq)) hf;obtain⟨O,U⟩:=Cp hm hn (cs:=cs') (c:=c'.toList) (e:=av P t) hR.1 hR.2 [];simp only[List.append_nil,Array.toArray_toList,List.length_nil,Nat.add_zero] at O U
 have qC:(if n*P.cellsOf (av P t)=0 then Result.ok #[] w else Result.ok z.cells w)=.ok (if n*P.cellsOf (av P t)=0 then #[] else z.cells) w:=by
  split<;>rfl
 have dc:(Instr.buildSlice t n C).run P w=.ok (.slice (some ⟨w.heap.size,0,none⟩) n n) (w.alloc (.cells c' (av P t))):=by
  unfold Instr.buildSlice;simp only[Sem.run_bind,run_underlying hu,Result.andThen_ok,ais w (iH he),Sem.run_ite,if_neg (show ¬ n*P.cellsOf (av P t)>2 ^ 24 by omega)];by_cases tx:n*P.cellsOf (av P t)=0
  .simp only[tx,↓reduceIte] at J ⊢;simp only[Sem.run_bind,Sem.run_pure,Result.andThen_ok,J];simp[newRow]
  .simp only[tx,↓reduceIte] at J ⊢;simp[J,newRow,hz]
 have cF:cs'.length=n*P.cellsOf (av P t):=by
  have D3:∀ (place:Nat->Option (Nat×Nat)) (ps:List (Nat×D)) (cs cs':List D),jq place cs ps=some cs'->cs'.length=cs.length:=by
   intro place ps
   induction ps with
   |nil=>intro cs cs' h;simp only[jq,aK] at h;rw[h]
   |cons p ps ih=>
    intro cs cs' h;obtain⟨i,d⟩:=p;simp only[jq] at h;split at h
    .cases h
    .split at h
     .rename_i hc;rw[ih _ _ h,Ir oG]
     .cases h
  rw[D3 _ _ _ _ hf,BY,M];simp[X]
 refine⟨_,_,_,_,by simp only[Sem.run_bind,dc,Result.andThen_ok,Sem.run_pure];rfl,.inl rfl,?_,O,U,vF⟩;exact .rs nx 0 n n w.heap.size 0 _ _ _ (au _ _ _) (bO _) dt oG oG
theorem Wv(hm:aC P F m β w)(hn:β nx=none){t:TypeId}{n:Int}{pre:Prop}(h0:0<=n)(h1:n<=9223372036854775807)(h2:P.bytesOf (av P t)*n<=281474976710656)(ht:bm P t=true):
 aN P F m nx β w { pre:=pre,val:=.rs nx 0 n.toNat,aT:=[(nx,some (.cells (dq n.toNat (aZ P (av P t))) (av P t)))],new:=1 } (do Pure.pure (Next.value (<- Instr.makeSlice t (.int .i64 n) (.int .i64 n)))):=by
 obtain⟨hu,he⟩:=je ht;obtain⟨i,d,z,hi,hd,hz,_,jA,O,bK,kF,h4⟩:=qI he;have rQ:(zeroValue (av P t)).run P w=.ok z w:=by simp[zeroValue,typeInfo,hi,hz]
 have C:=J0 (F:=F) (β:=β) (w:=w) (P:=P) jA O h4 n.toNat (n.toNat*P.cellsOf (av P t)) rfl (if n.toNat*P.cellsOf (av P t)=0 then #[] else z.cells) (fun h=>by rw[if_neg oG]);generalize hc:((Array.range (n.toNat*P.cellsOf (av P t))).map ((if n.toNat*P.cellsOf (av P t)=0 then #[] else z.cells)[· % (if n.toNat*P.cellsOf (av P t)=0 then #[] else z.cells).size]!))=c at C;obtain⟨U,X⟩:=Cp hm hn (cs:=dq n.toNat (aZ P (av P t))) (c:=c.toList) (e:=av P t) C.1 C.2 [];simp only[List.append_nil,Array.toArray_toList,List.length_nil,Nat.add_zero] at U X
 have qC:(if n.toNat*P.cellsOf (av P t)=0 then Result.ok #[] w else Result.ok z.cells w)=.ok (if n.toNat*P.cellsOf (av P t)=0 then #[] else z.cells) w:=by
  split<;>rfl
 have J:IntKind.i64.wrap n=n:=Go.IntWalk.i64_in n ⟨oG,h1⟩;have Ma:¬ n<0:=by omega
 have M:¬ (P.bytesOf (av P t):Int)*n>2 ^ 48:=by omega
 have dc:(Instr.makeSlice t (.int .i64 n) (.int .i64 n)).run P w=.ok (.slice (some ⟨w.heap.size,0,none⟩) n.toNat n.toNat) (w.alloc (.cells c (av P t))):=by
  unfold Instr.makeSlice
  simp only[Sem.run_bind,run_underlying hu,Result.andThen_ok,asInt,asIntOf,Sem.run_pure,typeInfo,run_program,hi,J,kF,Ma,M,decide_false,Bool.or_false,Bool.false_or,Bool.false_eq_true,if_false,Sem.run_ite,run_askRoom,ais w (iH he),
   show ¬ n>n from by omega]
  by_cases tx:n.toNat*P.cellsOf (av P t)=0
  .simp only[tx,↓reduceIte] at hc ⊢;simp only[Sem.run_bind,Sem.run_pure,Result.andThen_ok,hc];simp[newRow]
  .simp only[tx,↓reduceIte] at hc ⊢;simp only[Sem.run_bind,Sem.run_pure,rQ,Result.andThen_ok,hc];simp[newRow]
 have hlen:(dq n.toNat (aZ P (av P t))).length=n.toNat*P.cellsOf (av P t):=by rw[BY,O];simp[jA]
 refine⟨_,_,_,_,by simp only[Sem.run_bind,dc,Result.andThen_ok,Sem.run_pure];rfl,.inl rfl,?_,U,X,vF⟩;exact .rs nx 0 n.toNat n.toNat w.heap.size 0 _ _ _ (au _ _ _) (bO _) (by simp only[maxLen];omega) oG oG
end
section
variable{P:Program}{F:Nat->Prop}{m:Mem}{nx:Nat}{β:az}{w:World}
theorem aN.val(hm:aC P F m β w){pre:Prop}{d:D}{rd:List Nat}{s:Sem Next}{v:Value}(hr:s.run P w=.ok (.value v) w)(h:R F β w d v):aN P F m nx β w { pre:=pre,val:=d,rd:=rd } s:=
 ⟨.value v,v,w,β,hr,.inl rfl,h,hm,Step.refl β w,fun _ h _=>h⟩
theorem tH(op:BinOp)(t:TypeId)(x y:Operand)(a b:Value)(h1:∀ u,a≠ .agg u)(h2:a≠ .nilIface):(eqGuard op t x y a b).run P w=.ok () w:=by
 unfold eqGuard;generalize (!(op matches .eql | .neq))=c;cases c
 .cases a<;>first|rfl|exact absurd rfl h2|exact absurd rfl (h1 _)
 .rfl
theorem I7{t:TypeId}{x y:Value}{b:Bool}(h:∀ d,(Op.equalIn (d+1) t x y).run P w=.ok b w):(Op.equal t x y).run P w=.ok b w:=h 9999
theorem Jt{t:TypeId}{x y:Value}{b:Bool}(h:(Op.equal t x y).run P w=.ok b w):
 (do pure (Value.bool (<- Op.equal t x y)):Sem Value).run P w=.ok (.bool b) w/\(do pure (Value.bool (!(<- Op.equal t x y))):Sem Value).run P w=.ok (.bool !b) w:=by
 constructor<;>simp only[Sem.run_bind,h,Result.andThen_ok,Sem.run_pure]
theorem ZB(op:BinOp)(t:TypeId)(x y v:Value)(p:Prop)(h:nC op x y=some (p,v))(hp:p):(binOp op t x y).run P w=.ok v w:=by
 cases x<;>cases y<;>cases op<;>simp only[nC,aK,cq,reduceCtorEq] at h<;>
  (obtain⟨rfl,rfl⟩:=h)<;>
  first
  |(subst hp;simp[binOp,Op.intArith,Op.intCmp,Op.intBits,lb];done)
  |(obtain⟨rfl,hb⟩:=hp;simp[binOp,Op.intDiv,hb];done)
  |(simp[binOp,Op.shift,show ¬ _<(0:Int) from Int.not_lt.2 hp];done)
  |(simp[binOp,Op.stringOp];done)
theorem Xp{op:BinOp}{x y v:Value}{p:Prop}(h:nC op x y=some (p,v)):plain v=true/\(∀ u,x≠ .agg u)/\x≠ .nilIface:=by
 cases x<;>cases y<;>cases op<;>simp only[nC,aK,cq,reduceCtorEq] at h<;>(obtain⟨rfl,rfl⟩:=h)<;>simp[plain]
theorem ZD(hm:aC P F m β w)(op:BinOp)(t:TypeId)(ox oy:Operand){a b x y v:Value}{p pre:Prop}(hx:R F β w (.s a) x)(hy:R F β w (.s b) y)(h:nC op a b=some (p,v))(hp:p):
 aN P F m nx β w { pre:=pre,val:=.s v } ((do eqGuard op t ox oy x y;binOp op t x y)>>=fun r=>Pure.pure (Next.value r)):=by
 obtain⟨rfl,_⟩:=hx.cJ;obtain⟨rfl,_⟩:=hy.cJ;obtain⟨h1,h2,C⟩:=Xp h;refine aN.val hm (v:=v) ?_ (.s v h1);simp only[Sem.run_bind,tH op t ox oy x y h2 C,Result.andThen_ok,ZB op t x y v p h hp,Sem.run_pure]
theorem ZE{t:TypeId}(h:tm P t=true):P.underlying t=some .bool:=by
 unfold tm at h;split at h
 .assumption
 .cases h
theorem ZF{t:TypeId}(h:y7 P t=true):∃ e,P.underlying t=some (.pointer e):=by
 unfold y7 at h;split at h
 .exact⟨_,‹_›⟩
 .cases h
theorem Ox{t:TypeId}(h:tm P t=true)(a b:Bool):(binOp .eql t (.bool a) (.bool b)).run P w=.ok (.bool (a==b)) w/\(binOp .neq t (.bool a) (.bool b)).run P w=.ok (.bool !(a==b)) w:=by
 have hu:=ZE h;exact Jt (I7 fun d=>by simp[Op.equalIn,run_underlying hu])
theorem OT{t:TypeId}(h:y7 P t=true)(a:Addr):(binOp .eql t (.pointer (some a)) (.pointer none)).run P w=.ok (.bool false) w/\(binOp .neq t (.pointer (some a)) (.pointer none)).run P w=.ok (.bool true) w:=by
 obtain⟨e,hu⟩:=ZF h;exact Jt (I7 fun d=>by simp[Op.equalIn,run_underlying hu])
theorem Oy{t:TypeId}(h:bm P t=true)(a:Option Addr)(l c:Nat):(binOp .eql t (.slice a l c) (.slice none 0 0)).run P w=.ok (.bool a.isNone) w/\(binOp .neq t (.slice a l c) (.slice none 0 0)).run P w=.ok (.bool !a.isNone) w:=by
 obtain⟨hu,_⟩:=je h;exact Jt (I7 fun d=>by cases a<;>simp[Op.equalIn,run_underlying hu])
theorem Xq{t:TypeId}(h:bm P t=true)(a:Option Addr)(l c:Nat):(binOp .eql t (.slice a l c) (.slice none 0 0)).run P w=.ok (.bool a.isNone) w:=(Oy h a l c).1
theorem Pe(hm:aC P F m β w){op:BinOp}{b:Bool}{t:TypeId}{ox oy:Operand}{a:Option Addr}{l c:Nat}{pre:Prop}{rd:List Nat}(ht:bm P t=true)(h:op=if b then .eql else .neq):
 aN P F m nx β w { pre:=pre,val:=.s (.bool (a.isNone==b)),rd:=rd } ((do eqGuard op t ox oy (.slice a l c) (.slice none 0 0);binOp op t (.slice a l c) (.slice none 0 0))>>=fun r=>Pure.pure (Next.value r)):=by
 obtain⟨h1,h2⟩:=Oy (P:=P) (w:=w) ht a l c;refine aN.val hm (v:=.bool (a.isNone==b)) ?_ (.s _ rfl);simp only[Sem.run_bind,tH op t ox oy (.slice a l c) _ oS oS,Result.andThen_ok];cases b with
 |true=>simp only[if_true] at h;subst h;rw[h1];cases a<;>rfl
 |false=>simp only[Bool.false_eq_true,if_false] at h;subst h;rw[h2];cases a<;>rfl
theorem Oz(hm:aC P F m β w)(op:BinOp)(t:TypeId)(ox oy:Operand){a b:Bool}{x y:Value}{d:D}{pre:Prop}(hx:R F β w (.s (.bool a)) x)(hy:R F β w (.s (.bool b)) y)(ht:tm P t=true)
 (h:(op=.eql/\d=.s (.bool (a==b)))\/(op=.neq/\d=.s (.bool !(a==b)))):
 aN P F m nx β w { pre:=pre,val:=d } ((do eqGuard op t ox oy x y;binOp op t x y)>>=fun r=>Pure.pure (Next.value r)):=by
 obtain⟨rfl,_⟩:=hx.cJ;obtain⟨rfl,_⟩:=hy.cJ;rcases h with⟨rfl,rfl⟩|⟨rfl,rfl⟩
 .refine aN.val hm (v:=.bool (a==b)) ?_ (.s _ rfl);simp only[Sem.run_bind,tH _ t ox oy (.bool a) _ oS oS,Result.andThen_ok,(Ox ht a b).1,Sem.run_pure]
 .refine aN.val hm (v:=.bool !(a==b)) ?_ (.s _ rfl);simp only[Sem.run_bind,tH _ t ox oy (.bool a) _ oS oS,Result.andThen_ok,(Ox ht a b).2,Sem.run_pure]
theorem R.acb{i off:Nat}{v:Value}(h:R F β w (.rp i off) v)(hl:β i≠some .dead):∃ a,v=.pointer (some a):=by
 cases h with
 |rH _ _ _ h _=>exact absurd h hl
 |rp=>exact⟨_,rfl⟩
theorem OU(hm:aC P F m β w)(op:BinOp)(t:TypeId)(ox oy:Operand){i off:Nat}{x y:Value}{d:D}{pre:Prop}{rd:List Nat}{r:Row}(hx:R F β w (.rp i off) x)(hi:m i=some r)(hy:R F β w (.s (.pointer none)) y)(ht:y7 P t=true)
 (h:(op=.eql/\d=.s (.bool false))\/(op=.neq/\d=.s (.bool true))):
 aN P F m nx β w { pre:=pre,val:=d,rd:=rd } ((do eqGuard op t ox oy x y;binOp op t x y)>>=fun r=>Pure.pure (Next.value r)):=by
 obtain⟨p,hp,aD⟩:=hm.row i _ hi;obtain⟨a,rfl⟩:=hx.acb (fun e=>by rw[e] at hp;cases hp;exact aD.live rfl);obtain⟨rfl,_⟩:=hy.cJ;rcases h with⟨rfl,rfl⟩|⟨rfl,rfl⟩
 .refine aN.val hm (v:=.bool false) ?_ (.s _ rfl);simp only[Sem.run_bind,tH _ t ox oy (.pointer (some a)) _ oS oS,Result.andThen_ok,(OT ht a).1,Sem.run_pure]
 .refine aN.val hm (v:=.bool true) ?_ (.s _ rfl);simp only[Sem.run_bind,tH _ t ox oy (.pointer (some a)) _ oS oS,Result.andThen_ok,(OT ht a).2,Sem.run_pure]
theorem Xr(hm:aC P F m β w)(t:TypeId)(ox oy:Operand){es:List D}{n:Nat}{x:Value}{pre:Prop}(hx:R F β w (.sl es n) x)(ht:bm P t=true):
 aN P F m nx β w { pre:=pre,val:=if n=0 then .ub else .s (.bool false) } ((do eqGuard .eql t ox oy x (.slice none 0 0);binOp .eql t x (.slice none 0 0))>>=fun r=>Pure.pure (Next.value r)):=by
 have C:=fun a l c=>Xq (P:=P) (w:=w) ht a l c;cases hx with
 |iz a cap=>
  refine aN.val hm (v:=.bool a.isNone) ?_ (by simpa using R.ub _);simp only[Sem.run_bind,tH _ t ox oy (.slice a 0 cap) _ oS oS,Result.andThen_ok,C,Sem.run_pure]
 |sl _ _ b o cap us h1 h2 J M O U X=>
  refine aN.val hm (v:=.bool false) ?_ ?_
  .simp only[Sem.run_bind,tH _ t ox oy (.slice (some ⟨b,o,none⟩) n cap) _ oS oS,Result.andThen_ok,C,Sem.run_pure];rfl
  .split
   .exact .ub _
   .exact .s _ rfl
theorem aba(hm:aC P F m β w)(op:UnOp){a x v:Value}{pre:Prop}(hx:R F β w (.s a) x)(h:Bl op a=some v):
 aN P F m nx β w { pre:=pre,val:=.s v } (do Pure.pure (Next.value (<- Op.unary op x))):=by
 obtain⟨rfl,_⟩:=hx.cJ
 have:(Op.unary op x).run P w=.ok v w/\plain v=true:=by
  cases x<;>cases op<;>simp only[Bl,aK,reduceCtorEq] at h<;>subst h<;>simp[Op.unary,Op.intArith,Op.intBits,lb,plain]
 exact aN.val hm (by simp[this.1]) (.s _ this.2)
theorem WE(hm:aC P F m β w)(src dst:TypeId){k k':IntKind}{n:Int}{x:Value}{pre:Prop}(hx:R F β w (.s (.int k' n)) x)(hd:P.underlying dst=some (.int k))(hs:(P.underlying src).isSome=true):
 aN P F m nx β w { pre:=pre,val:=.s (.int k (k.wrap n)) } (do Pure.pure (Next.value (<- convert src dst x))):=by
 obtain⟨rfl,_⟩:=hx.cJ;obtain⟨d,hs⟩:=Option.isSome_iff_exists.1 hs;refine aN.val hm (v:=.int k (k.wrap n)) ?_ (.s _ rfl);cases d<;>simp[convert,run_underlying hd,run_underlying hs,Conv.intToInt]
theorem OV{t:TypeId}(h:0<P.cellsOf t):(P.info? t).isSome=true:=by
 cases hi:P.info? t with
 |none=>simp[Program.cellsOf,hi] at h
 |some i=>rfl
theorem We(hm:aC P F m β w){t:TypeId}{cs:List D}{x:Value}{k off:Nat}{C:TypeId}{pre:Prop}(hx:R F β w (.pt cs) x)(hf:cH P t k=some (off,C))(h0:0<P.cellsOf C):
 aN P F m nx β w { pre:=pre,val:=.pt (cs.drop off) } (do Pure.pure (Next.value (<- Instr.fieldAt t x k))):=by
 obtain⟨b,o,rfl,h1,h2,M,J⟩:=hx.Gj;unfold cH at hf;split at hf
 .rename_i fs hu;cases hk:fs[k]? with
  |none=>simp[hk] at hf
  |some f=>
   simp[hk] at hf;obtain⟨rfl,rfl⟩:=hf;refine aN.val hm (v:=.pointer (some ⟨b,o+f.offset,none⟩)) ?_ (R.Ti h1 h2 M (J.drop _));simp[Instr.fieldAt,run_underlying hu,hk,Instr.sureAddr,fieldPlace,ais w (OV h0),Nat.ne_of_gt h0,Addr.add_lit]
 .cases hf
end
section
variable{P:Program}{F:Nat->Prop}{m:Mem}{nx:Nat}{β:az}{w:World}
theorem R.Ky{i off:Nat}{v:Value}(h:R F β w (.rp i off) v){r:Row}{p:Pl}(hp:β i=some p)(aD:cO P F β w r p):
 ∃ b o len room sz,β i=some (.cells b o len room sz)/\v=.pointer (some ⟨b,o+off,none⟩):=by
 cases h with
 |rH _ _ _ h _=>rw[h] at hp;cases hp;exact absurd rfl aD.live
 |rp _ _ b o len room sz h=>exact⟨b,o,len,room,sz,h,rfl⟩
theorem Wf(hm:aC P F m β w){t:TypeId}{i o:Nat}{x:Value}{k off:Nat}{C:TypeId}{pre:Prop}{rd:List Nat}{r:Row}(hx:R F β w (.rp i o) x)(hi:m i=some r)(hf:cH P t k=some (off,C))(h0:0<P.cellsOf C):
 aN P F m nx β w { pre:=pre,val:=.rp i (o+off),rd:=rd } (do Pure.pure (Next.value (<- Instr.fieldAt t x k))):=by
 obtain⟨p,hp,aD⟩:=hm.row i _ hi;obtain⟨b,bo,len,room,sz,J,rfl⟩:=hx.Ky hp aD;unfold cH at hf;split at hf
 .rename_i fs hu;cases hk:fs[k]? with
  |none=>simp[hk] at hf
  |some f=>
   simp[hk] at hf;obtain⟨rfl,rfl⟩:=hf;refine aN.val hm (v:=.pointer (some ⟨b,bo+(o+f.offset),none⟩)) ?_ (.rp i (o+f.offset) b bo len room sz J);simp[Instr.fieldAt,run_underlying hu,hk,Instr.sureAddr,fieldPlace,ais w (OV h0),Nat.ne_of_gt h0,Addr.add_lit,Nat.add_assoc]
 .cases hf
theorem Qe{t:TypeId}(ht:aG P t=true){cs:List D}{vs:List Value}{off:Nat}(hl:vs.length=cs.length)(h:∀ (k:Nat) (d:D) (u:Value),cs[k]? =some d->vs[k]? =some u->R F β w d u)(M:off+P.cellsOf t<=cs.length):
 ∃ v,(part t vs.toArray off).run P w=.ok v w/\R F β w (jo P t (cs.drop off)) v:=by
 obtain⟨i,d,z,hi,hd,hz,J,_⟩:=qI ht;unfold part jo;simp only[Sem.run_bind,B4 w (z7 ht),Result.andThen_ok];cases ha:bG P t with
 |true=>
  refine⟨.agg ((vs.drop off).take (P.cellsOf t)).toArray,?_,?_⟩
  .simp[ais w (iH ht)]
  .refine .agg _ _ oP fun k d v hk hv=>?_;rw[List.getElem?_take] at hk hv;split at hk
   .rename_i aj;rw[if_pos aj] at hv;rw[List.getElem?_drop] at hk hv;exact h _ d v hk hv
   .cases hk
 |false=>
  have:=J ha;have aj:off<vs.length:=by omega
  refine⟨vs[off],by simp[aj],?_⟩;have C:off<cs.length:=by omega
  have e:(cs.drop off).headD .u=cs[off]:=by simp[List.headD_eq_head?_getD,List.head?_drop,C]
  simp only[Bool.false_eq_true,if_false,e];exact h off _ _ (by simp[C]) (by simp[aj])
theorem Ye(hm:aC P F m β w){t:TypeId}{cs:List D}{x:Value}{k off:Nat}{C:TypeId}{pre:Prop}(hx:R F β w (.agg cs) x)(hf:cH P t k=some (off,C))(ht:aG P C=true)(J:off+P.cellsOf C<=cs.length):
 aN P F m nx β w { pre:=pre,val:=jo P C (cs.drop off) } (do Pure.pure (Next.value (<- Instr.field t x k))):=by
 obtain⟨vs,rfl,hl,h⟩:=hx.qM;obtain⟨v,hr,hR⟩:=Qe (P:=P) ht hl h J;unfold cH at hf;split at hf
 .rename_i fs hu;cases hk:fs[k]? with
  |none=>simp[hk] at hf
  |some f=>
   simp[hk] at hf;obtain⟨rfl,rfl⟩:=hf;exact aN.val hm (v:=v) (by simp[Instr.field,run_underlying hu,hk,asAgg,hr]) hR
 .cases hf
theorem W0(hm:aC P F m β w){cs:List D}{x:Value}{k:Nat}{pre:Prop}(hx:R F β w (.bp cs) x)(hk:k<cs.length):
 aN P F m nx β w { pre:=pre,val:=cs.getD k .u } (do Pure.pure (Next.value (<- Instr.extract x k))):=by
 obtain⟨vs,rfl,hl,h⟩:=hx.Ag;have C:k<vs.length:=by omega
 refine aN.val hm (v:=vs[k]) (by simp[Instr.extract,C]) ?_;have e:cs.getD k .u=cs[k]:=by simp[eg,hk]
 rw[e];exact h k _ _ (by simp[hk]) (by simp[C])
theorem R.ud{es:List D}{n:Nat}{v:Value}(h:R F β w (.sl es n) v):(es=[]/\n=0/\∃ a cap,v=.slice a 0 cap)\/
 ∃ b o cap,v=.slice (some ⟨b,o,none⟩) n cap/\n<=cap/\cap<=maxLen/\¬ F b/\β.free b/\b<w.heap.size/\Rd F β w b o es:=by
 cases h with
 |iz a cap=>exact .inl ⟨rfl,rfl,a,cap,rfl⟩
 |sl _ _ b o cap us h1 h2 C J M O U=>exact .inr ⟨b,o,cap,rfl,J,M,h1,h2,C,us,O,U⟩
theorem Wg(hm:aC P F m β w){t:TypeId}{es:List D}{n:Nat}{x y:Value}{U:IntKind}{k:Int}{pre:Prop}(hx:R F β w (.sl es n) x)(hy:R F β w (.s (.int U k)) y)(ht:bm P t=true)(h0:0<=k)(h1:k<n):
 aN P F m nx β w { pre:=pre,val:=.pt (es.drop (k.toNat*P.cellsOf (av P t))) } (do Pure.pure (Next.value (<- Instr.indexAt t x y))):=by
 obtain⟨hu,he⟩:=je ht;obtain⟨rfl,_⟩:=hy.cJ;rcases hx.ud with⟨_,rfl,_⟩|⟨b,o,cap,rfl,h2,X,J,M,O,C⟩
 .omega
 .refine aN.val hm (v:=.pointer (some ⟨b,o+k.toNat*P.cellsOf (av P t),none⟩)) ?_ (R.Ti J M O (C.drop _));simp[Instr.indexAt,asIntOf,run_underlying hu,h0,h1,ais w (iH he),Addr.add_lit]
theorem R.xZ{i off n:Nat}{v:Value}(h:R F β w (.rs i off n) v){cs:List D}{e:TypeId}(hm:aC P F m β w)(hi:m i=some (.cells cs e)):
 (cs=[]/\off=0/\n=0/\β i=some .nil/\∃ a,v=.slice a 0 0)\/
 ∃ b o room,β i=some (.cells b o cs.length room (P.cellsOf e))/\cO P F β w (.cells cs e) (.cells b o cs.length room (P.cellsOf e))/\
  ((n=0/\∃ a,v=.slice a 0 0)\/∃ cap,v=.slice (some ⟨b,o+off,none⟩) n cap/\n<=cap/\cap<=maxLen/\cs.length<=off+cap*P.cellsOf e/\off+cap*P.cellsOf e<=room):=by
 obtain⟨p,hp,aD⟩:=hm.row i _ hi;cases h with
 |lG _ _ _ _ h _=>rw[h] at hp;cases hp;cases aD
 |jR _ a h=>
  rw[h] at hp;cases hp;cases aD;exact .inl ⟨rfl,rfl,rfl,h,a,rfl⟩
 |kX _ _ a b o len room sz h=>
  rw[h] at hp;cases hp;obtain⟨_,h2,C,_⟩:=aD.rd;subst h2;subst C;exact .inr ⟨b,o,room,h,aD,.inl ⟨rfl,a,rfl⟩⟩
 |rs _ _ _ cap b o len room sz h hn dt h1 h2=>
  rw[h] at hp;cases hp;obtain⟨_,C,J,_⟩:=aD.rd;subst C;subst J;exact .inr ⟨b,o,room,h,aD,.inr ⟨cap,rfl,hn,dt,h1,h2⟩⟩
theorem R.ZG{i off n:Nat}{v:Value}(h:R F β w (.rs i off n) v)(hl:∃ p,β i=some p/\p≠ .dead):∃ a cap,v=.slice a n cap:=by
 cases h with
 |lG _ _ _ _ h _=>obtain⟨p,h1,h2⟩:=hl;rw[h] at h1;cases h1;exact absurd rfl h2
 |jR _ a h=>exact⟨a,0,rfl⟩
 |kX _ _ a=>exact⟨a,0,rfl⟩
 |rs=>exact⟨_,_,rfl⟩
theorem Qf{r:Row}{p:Pl}(h:cO P F β w r p):p≠ .dead:=h.live
theorem Wh(hm:aC P F m β w){t:TypeId}{i off n:Nat}{x y:Value}{C:IntKind}{k:Int}{pre:Prop}{rd:List Nat}{r:Row}(hx:R F β w (.rs i off n) x)(hi:m i=some r)(hy:R F β w (.s (.int C k)) y)(ht:bm P t=true)(h0:0<=k)(h1:k<n):
 aN P F m nx β w { pre:=pre,val:=.rp i (off+k.toNat*P.cellsOf (av P t)),rd:=rd } (do Pure.pure (Next.value (<- Instr.indexAt t x y))):=by
 obtain⟨hu,he⟩:=je ht;obtain⟨rfl,_⟩:=hy.cJ;obtain⟨p,hp,aD⟩:=hm.row i _ hi;cases hx with
 |lG _ _ _ _ h _=>rw[h] at hp;cases hp;exact absurd rfl (Qf aD)
 |jR _ a h=>omega
 |kX _ _ a b o len room sz h=>omega
 |rs _ _ _ cap b o len room sz h hn dt J M=>
  refine aN.val hm (v:=.pointer (some ⟨b,o+(off+k.toNat*P.cellsOf (av P t)),none⟩)) ?_ (.rp i _ b o len room sz h);simp[Instr.indexAt,asIntOf,run_underlying hu,h0,h1,ais w (iH he),Addr.add_lit,Nat.add_assoc]
theorem Wc(hm:aC P F m β w){t:TypeId}{i off:Nat}{x y:Value}{J:IntKind}{k:Int}{pre:Prop}{rd:List Nat}{r:Row}(hx:R F β w (.rp i off) x)(hi:m i=some r)(hy:R F β w (.s (.int J k)) y)(ht:nM P t=true)(h0:0<=k)(h1:k<oz P t):
 aN P F m nx β w { pre:=pre,val:=.rp i (off+k.toNat*P.cellsOf (av P t)),rd:=rd } (do Pure.pure (Next.value (<- Instr.indexAt t x y))):=by
 obtain⟨hu,he⟩:=Js ht;obtain⟨rfl,_⟩:=hy.cJ;obtain⟨p,hp,aD⟩:=hm.row i _ hi;obtain⟨b,bo,len,room,sz,C,rfl⟩:=hx.Ky hp aD;refine aN.val hm (v:=.pointer (some ⟨b,bo+(off+k.toNat*P.cellsOf (av P t)),none⟩)) ?_ (.rp i _ b bo len room sz C);simp[Instr.indexAt,asIntOf,run_underlying hu,h0,h1,ais w (iH he),Addr.add_lit,Nat.add_assoc,Instr.sureAddr]
theorem Ww(hm:aC P F m β w){t:TypeId}{b:ByteArray}{x y:Value}{M:IntKind}{k:Int}{pre:Prop}(hx:R F β w (.s (.string b)) x)(hy:R F β w (.s (.int M k)) y)(ht:fG P t=true)(h0:0<=k)(h1:k<b.size):
 aN P F m nx β w { pre:=pre,val:=.s (.int .u8 (b.data.toList.getD k.toNat 0).toNat) } (do Pure.pure (Next.value (<- Instr.index t x y))):=by
 have hu:=vE ht;obtain⟨rfl,_⟩:=hy.cJ;obtain⟨rfl,_⟩:=hx.cJ;have hk:k.toNat<b.size:=by omega
 have J:k.toNat<b.data.size:=hk;refine aN.val hm (v:=.int .u8 (b.data.toList.getD k.toNat 0).toNat) ?_ (.s _ rfl)
 have e:b[k.toNat]? =some (b.data.toList.getD k.toNat 0):=by
  have C:b[k.toNat]? =some b[k.toNat]:=getElem?_pos b k.toNat hk;rw[C];congr 1;show b.data[k.toNat]=_;rw[eg,Array.getElem?_toList,Array.getElem?_eq_getElem J];rfl
 simp only[Instr.index,Sem.run_bind,asIntOf,Sem.run_pure,Result.andThen_ok,run_underlying hu,h0,if_true,e]
theorem Wx(hm:aC P F m β w){t:TypeId}{cs:List D}{x y:Value}{C:IntKind}{k:Int}{pre:Prop}(hx:R F β w (.agg cs) x)(hy:R F β w (.s (.int C k)) y)(ht:nM P t=true)(h0:0<=k)(h1:k<oz P t)
 (kY:(k.toNat+1)*P.cellsOf (av P t)<=cs.length):
 aN P F m nx β w { pre:=pre,val:=jo P (av P t) (cs.drop (k.toNat*P.cellsOf (av P t))) } (do Pure.pure (Next.value (<- Instr.index t x y))):=by
 obtain⟨hu,he⟩:=Js ht;obtain⟨rfl,_⟩:=hy.cJ;obtain⟨vs,rfl,hl,h⟩:=hx.qM;obtain⟨v,hr,hR⟩:=Qe (P:=P) he hl h (off:=k.toNat*P.cellsOf (av P t)) (by rw[Nat.add_mul] at kY;omega);exact aN.val hm (v:=v) (by simp[Instr.index,asIntOf,run_underlying hu,h0,h1,ais w (iH he),hr]) hR
theorem WG(hm:aC P F m β w)(f:Fn){fs cs:List D}{us vs:List Value}{pre:Prop}(hl:us.length=fs.length)(kY:vs.length=cs.length)(h:∀ (k:Nat) (d:D) (v:Value),fs[k]? =some d->us[k]? =some v->R F β w d v)
 (h':∀ (k:Nat) (d:D) (v:Value),cs[k]? =some d->vs[k]? =some v->R F β w d v):
 aN P F m nx β w { pre:=pre,val:=.fn f fs cs } (do Pure.pure (Next.value (<- Instr.makeFunc f us.toArray vs.toArray))):=
 aN.val hm (v:=.func f us.toArray vs.toArray) (by simp[Instr.makeFunc]) (.fn f fs cs us vs hl kY h h')
theorem xz(b:Int)(C:IntKind)(y:Nat)(code:BoundsCode)(h0:0<=b)(h1:b<=y):(Instr.sliceBound (.int C b) y code).run P w=.ok b.toNat w:=by
 simp[Instr.sliceBound,asIntOf,h0,h1]
theorem xA(isSlice:Bool)(len cap:Nat){lo hi:Option Value}{l h:Int}(iD:(lo=none/\l=0)\/∃ C,lo=some (.int C l))(l9:(hi=none/\h=len)\/∃ C,hi=some (.int C h))(h0:0<=l)(h1:l<=h)(h2:h<=cap):
 (Instr.sliceBounds isSlice len cap lo hi none).run P w=.ok (l.toNat,h.toNat,cap) w:=by
 unfold Instr.sliceBounds;simp only[Sem.run_bind,Sem.run_pure,Result.andThen_ok];rcases l9 with⟨rfl,rfl⟩|⟨C,rfl⟩<;>rcases iD with⟨rfl,rfl⟩|⟨kl,rfl⟩
 .simp
 .simp[xz (P:=P) (w:=w) l kl len _ h0 oG]
 .simp[xz (P:=P) (w:=w) h C cap _ oG oG]
 .have:=xz (P:=P) (w:=w) h C cap (if isSlice then .sliceAcap else .sliceAlen) oG oG;simp[this,xz (P:=P) (w:=w) l kl h.toNat _ h0 oG]
theorem ER(len cap:Nat){lo:Option Value}{kh km:IntKind}{l h k:Int}(iD:(lo=none/\l=0)\/∃ M,lo=some (.int M l))(h0:0<=l)(h1:l<=h)(h2:h<=k)(J:k<=cap):
 (Instr.sliceBounds true len cap lo (some (.int kh h)) (some (.int km k))).run P w=.ok (l.toNat,h.toNat,k.toNat) w:=by
 unfold Instr.sliceBounds;have C:=xz (P:=P) (w:=w) k km cap .slice3Acap oG J;have e2:=xz (P:=P) (w:=w) h kh k.toNat .slice3B oG oG;simp only[Sem.run_bind,C,e2,Result.andThen_ok,if_true];rcases iD with⟨rfl,rfl⟩|⟨O,rfl⟩
 .simp
 .simp[xz (P:=P) (w:=w) l O h.toNat _ h0 oG]
theorem D.Rb{d:D}{b:Int}(h:d.int? =some b):∃ C,d=.s (.int C b):=by
 unfold D.int? at h;split at h
 .cases h;exact⟨_,rfl⟩
 .cases h
def Ro(F:Nat->Prop)(β:az)(w:World)(d:Option D)(v:Option Value):Prop:=
 (d=none/\v=none)\/∃ q u,d=some q/\v=some u/\R F β w q u
theorem Ro.tw{d:Option D}{v:Option Value}{C b:Int}(h:Ro F β w d v)(hb:eP d C=some b):(v=none/\b=C/\d=none)\/∃ J,v=some (.int J b)/\d.isSome=true:=by
 rcases h with⟨rfl,rfl⟩|⟨q,u,rfl,rfl,hR⟩
 .simp[eP] at hb;exact .inl ⟨rfl,hb.symm,rfl⟩
 .simp only[eP] at hb;obtain⟨J,rfl⟩:=D.Rb hb;obtain⟨rfl,_⟩:=hR.cJ;exact .inr ⟨_,rfl,rfl⟩
theorem sa{t e:TypeId}(hu:P.underlying t=some (.slice e))(v:Value)(lo hi C:Option Value):(Instr.sliceAt t v lo hi C).run P w=(Instr.slice t v lo hi C).run P w:=by
 simp[Instr.sliceAt,run_underlying hu]
theorem Qg{es:List D}{n l h sz:Nat}{a:Option Addr}{b o cap m':Nat}(h1:¬ F b)(h2:β.free b)(O:b<w.heap.size)(C:Rd F β w b o es)(U:l<=h)(hn:h<=n)(hm:h<=m')(ow:m'<=cap)(dt:cap<=maxLen)
 (ha:a=(if m'=l then some ⟨b,o,none⟩ else some ⟨b,o+l*sz,none⟩)):R F β w (.sl ((es.drop (l*sz)).take ((h - l)*sz)) (h - l)) (.slice a (h - l) (m' - l)):=by
 subst ha;by_cases X:m'=l
 .have:h=l:=by omega
  subst this;simp only[Nat.sub_self,Nat.zero_mul,List.take_zero];exact .iz _ _
 .rw[if_neg X];obtain⟨us,J,M⟩:=(C.drop (l*sz)).take ((h - l)*sz);exact .sl _ _ _ _ _ us h1 h2 O oG oG J M
theorem Yf(hm:aC P F m β w){t:TypeId}{x:D}{v:Value}{lo hi mx:Option D}{wV X Vm:Option Value}{e:du}(hx:R F β w x v)(iD:Ro F β w lo wV)(l9:Ro F β w hi X)(fZ:Ro F β w mx Vm)
 (hs:ll P m t x lo hi mx=some e) (hp:e.pre):e.aT=[]/\e.new=0/\aN P F m nx β w e (do Pure.pure (Next.value (<- Instr.sliceAt t v wV X Vm))):=by
 cases x with
 |sl es n=>
  simp only[ll] at hs;cases J:eP lo 0 with
  |none=>simp[J] at hs
  |some l=>
  cases M:eP hi n with
  |none=>simp[J,M] at hs
  |some h=>
  have U:(wV=none/\l=0)\/∃ C,wV=some (.int C l):=by
   rcases iD.tw J with⟨a,b,_⟩|⟨C,a,_⟩
   .exact .inl ⟨a,b⟩
   .exact .inr ⟨C,a⟩
  rcases fZ with⟨rfl,rfl⟩|⟨q,u,rfl,rfl,hq⟩
  .simp only[J,M,aK] at hs;subst hs;obtain⟨ht,h0,h1,h2⟩:=hp;obtain⟨hu,he⟩:=je ht
   have wu:(X=none/\h=(n:Int))\/∃ C,X=some (.int C h):=by
    rcases l9.tw M with⟨a,b,_⟩|⟨C,a,_⟩
    .exact .inl ⟨a,b⟩
    .exact .inr ⟨C,a⟩
   refine⟨rfl,rfl,?_⟩;rcases hx.ud with⟨rfl,rfl,a,cap,rfl⟩|⟨b,o,cap,rfl,g1,g2,g3,g4,g5,bU⟩
   .have hb:=xA (P:=P) (w:=w) true 0 cap U (by simpa using wu) h0 h1 oG;have mS:l=0:=by omega
    have uX:h=0:=by omega
    subst mS;subst uX;refine aN.val hm (v:=.slice (if cap=0 then a else a.map (·.add (0*P.cellsOf (av P t)))) 0 cap) ?_ (by simpa using R.iz _ _);simp[sa hu,Instr.slice,run_underlying hu,hb,ais w (iH he)]
   .have hb:=xA (P:=P) (w:=w) true n cap U wu h0 h1 oG;refine aN.val hm (v:=.slice (if cap=l.toNat then some ⟨b,o,none⟩ else some ⟨b,o+l.toNat*P.cellsOf (av P t),none⟩) (h.toNat - l.toNat) (cap - l.toNat)) ?_ ?_
    .simp[sa hu,Instr.slice,run_underlying hu,hb,ais w (iH he),Addr.add_lit]
    .have:=Qg (F:=F) (β:=β) (w:=w) (es:=es) (n:=n) (l:=l.toNat) (h:=h.toNat) (sz:=P.cellsOf (av P t)) (cap:=cap) (m':=cap) g3 g4 g5 bU oG oG oG (bO _) g2 rfl;rw[show(h - l).toNat=h.toNat - l.toNat from by omega];exact this
  .simp only[J,M] at hs;cases pG:q.int? with
   |none=>simp[pG] at hs
   |some k=>
   simp only[pG,aK] at hs;subst hs;obtain⟨ht,GM,h0,h1,h2,h3⟩:=hp;obtain⟨hu,he⟩:=je ht;obtain⟨km,rfl⟩:=D.Rb pG;obtain⟨rfl,_⟩:=hq.cJ
   obtain⟨kh,rfl⟩:∃ C,X=some (.int C h):=by
    rcases l9.tw M with⟨_,_,c⟩|⟨C,a,_⟩
    .rw[c] at GM;cases GM
    .exact⟨C,a⟩
   refine⟨rfl,rfl,?_⟩;rcases hx.ud with⟨rfl,rfl,a,cap,rfl⟩|⟨b,o,cap,rfl,g1,g2,g3,g4,g5,bU⟩
   .have hb:=ER (P:=P) (w:=w) 0 cap (kh:=kh) (km:=km) U h0 h1 h2 oG;have mS:l=0:=by omega
    have uX:h=0:=by omega
    have Bp:k=0:=by omega
    subst mS;subst uX;subst Bp;refine aN.val hm (v:=.slice a 0 0) ?_ (by simpa using R.iz _ _);simp[sa hu,Instr.slice,run_underlying hu,hb,ais w (iH he)]
   .have hb:=ER (P:=P) (w:=w) n cap (kh:=kh) (km:=km) U h0 h1 h2 oG;refine aN.val hm (v:=.slice (if k.toNat=l.toNat then some ⟨b,o,none⟩ else some ⟨b,o+l.toNat*P.cellsOf (av P t),none⟩) (h.toNat - l.toNat) (k.toNat - l.toNat)) ?_ ?_
    .simp[sa hu,Instr.slice,run_underlying hu,hb,ais w (iH he),Addr.add_lit]
    .have:=Qg (F:=F) (β:=β) (w:=w) (es:=es) (n:=n) (l:=l.toNat) (h:=h.toNat) (sz:=P.cellsOf (av P t)) (cap:=cap) (m':=k.toNat) g3 g4 g5 bU oG oG oG oG g2 rfl;rw[show(h - l).toNat=h.toNat - l.toNat from by omega];exact this
 |rs i off n=>
  simp only[ll] at hs;cases O:m i with
  |none=>simp[O] at hs
  |some r=>
  cases r with
  |map es=>simp[O] at hs
  |raw es=>simp[O] at hs
  |bs u x T=>simp[O] at hs
  |lp k=>simp[O] at hs
  |iA f r=>simp[O] at hs
  |cells cs ee=>
  cases J:eP lo 0 with
  |none=>simp[O,J] at hs
  |some l=>
  cases M:eP hi n with
  |none=>simp[O,J,M] at hs
  |some h=>
  rcases fZ with⟨rfl,rfl⟩|⟨q,u,rfl,rfl,hq⟩
  .simp only[O,J,M,aK] at hs;subst hs;obtain⟨⟨ht,bK⟩,h0,h1,h2⟩:=hp;obtain⟨hu,he⟩:=je ht
   have U:(wV=none/\l=0)\/∃ C,wV=some (.int C l):=by
    rcases iD.tw J with⟨a,b,_⟩|⟨C,a,_⟩
    .exact .inl ⟨a,b⟩
    .exact .inr ⟨C,a⟩
   have wu:(X=none/\h=(n:Int))\/∃ C,X=some (.int C h):=by
    rcases l9.tw M with⟨a,b,_⟩|⟨C,a,_⟩
    .exact .inl ⟨a,b⟩
    .exact .inr ⟨C,a⟩
   refine⟨rfl,rfl,?_⟩;rcases hx.xZ hm O with⟨_,rfl,rfl,kB,a,rfl⟩|⟨b,o,room,hβ,aD,oi⟩
   .have hb:=xA (P:=P) (w:=w) true 0 0 U (by simpa using wu) h0 h1 oG;have mS:l=0:=by omega
    have uX:h=0:=by omega
    subst mS;subst uX;refine aN.val hm (v:=.slice a 0 0) ?_ (by simpa using R.jR i a kB);simp[sa hu,Instr.slice,run_underlying hu,hb,ais w (iH he)]
   .rcases oi with⟨rfl,a,rfl⟩|⟨cap,rfl,g1,g2,g3,g4⟩
    .have hb:=xA (P:=P) (w:=w) true 0 0 U (by simpa using wu) h0 h1 oG;have mS:l=0:=by omega
     have uX:h=0:=by omega
     subst mS;subst uX;refine aN.val hm (v:=.slice a 0 0) ?_ (by simpa using R.kX i off a b o _ room _ hβ);simp[sa hu,Instr.slice,run_underlying hu,hb,ais w (iH he)]
    .have hb:=xA (P:=P) (w:=w) true n cap U wu h0 h1 oG;refine aN.val hm (v:=.slice (if cap=l.toNat then some ⟨b,o+off,none⟩ else some ⟨b,o+off+l.toNat*P.cellsOf (av P t),none⟩) (h.toNat - l.toNat) (cap - l.toNat)) ?_ ?_
     .simp[sa hu,Instr.slice,run_underlying hu,hb,ais w (iH he),Addr.add_lit]
     .rw[show(h - l).toNat=h.toNat - l.toNat from by omega];by_cases cF:cap=l.toNat
      .have:h.toNat=l.toNat:=by omega
       rw[this,cF,Nat.sub_self];exact .kX i _ _ b o _ room _ hβ
      .rw[if_neg cF,Nat.add_assoc];have hmul:(cap - l.toNat)*P.cellsOf ee+l.toNat*P.cellsOf ee=cap*P.cellsOf ee:=by rw[<- Nat.add_mul];congr 1;omega
       exact .rs i _ _ _ b o _ room _ hβ oG oG (by rw[<- bK];omega) (by rw[<- bK];omega)
  .simp only[O,J,M,reduceCtorEq] at hs
 |s x=>
  cases x with
  |string b=>
   simp only[ll] at hs;cases J:eP lo 0 with
   |none=>simp[J] at hs
   |some l=>
   cases M:eP hi b.size with
   |none=>simp[J,M] at hs
   |some h=>
   rcases fZ with⟨rfl,rfl⟩|⟨q,u,rfl,rfl,hq⟩
   .simp only[J,M,aK] at hs;subst hs;obtain⟨ht,h0,h1,h2⟩:=hp;have hu:=vE ht;obtain⟨rfl,_⟩:=hx.cJ
    have U:(wV=none/\l=0)\/∃ C,wV=some (.int C l):=by
     rcases iD.tw J with⟨a,b,_⟩|⟨C,a,_⟩
     .exact .inl ⟨a,b⟩
     .exact .inr ⟨C,a⟩
    have wu:(X=none/\h=(b.size:Int))\/∃ C,X=some (.int C h):=by
     rcases l9.tw M with⟨a,b,_⟩|⟨C,a,_⟩
     .exact .inl ⟨a,b⟩
     .exact .inr ⟨C,a⟩
    have hb:=xA (P:=P) (w:=w) false b.size b.size U wu h0 h1 oG;refine⟨rfl,rfl,aN.val hm (v:=.string (b.extract l.toNat h.toNat)) ?_ (.s _ rfl)⟩;simp[Instr.sliceAt,Instr.slice,run_underlying hu,hb]
   .simp only[J,M,reduceCtorEq] at hs
  |_=>simp[ll] at hs
 |_=>simp[ll] at hs
end
section
variable{P:Program}{F:Nat->Prop}{m:Mem}{nx:Nat}{β:az}{w w':World}
theorem xG(hs:w.heap.size<=w'.heap.size)(h:∀ b,b<w.heap.size->w'.heap[b]? =w.heap[b]?)(C:Out w w':=by first|exact⟨rfl,rfl⟩|assumption):Step β w β w':=
 ⟨hs,fun b hb hf=>⟨h b hb,hf⟩,fun _ _ hp=>.inl hp,C,fun _ r _ _=>JR (h r)⟩
theorem aC.ext(hm:aC P F m β w)(hs:w.heap.size<=w'.heap.size)(h:∀ b,b<w.heap.size->w'.heap[b]? =w.heap[b]?)(J:Out w w':=by first|exact⟨rfl,rfl⟩|assumption):aC P F m β w':=
 ⟨fun i r hi=>by
  obtain⟨p,hp,aD⟩:=hm.row i r hi;exact⟨p,hp,aD.step (xG hs h) fun b hb=>h b (hm.lt i p b hp hb)⟩,
  hm.inj,fun i p b hp hb=>Nat.lt_of_lt_of_le (hm.lt i p b hp hb) hs,hm.nf,hm.fb.next (fun b hb=>Nat.lt_of_lt_of_le (hm.fb.lt b hb) hs) (fun _ h=>h) fun t _ C=>h _ (hm.fb.lt _ C)⟩
theorem aC.drew(hm:aC P F m β w):aC P F m β w.drew:=hm.ext (bO _) (fun _ _=>rfl)
theorem Pg:Step β w β w.drew:=xG (bO _) (fun _ _=>rfl)
theorem Yg(hm:aC P F m β w){src dst e:TypeId}{b:ByteArray}{x:Value}{pre:Prop}(hx:R F β w (.s (.string b)) x)(hs:fG P src=true)(hd:P.underlying dst=some (.slice e))(he:P.underlying e=some (.int .u8))(dt:b.size<=maxLen):
 aN P F m nx β w { pre:=pre,val:=.sl (b.data.toList.map fun c=>.s (.int .u8 c.toNat)) b.size } (do Pure.pure (Next.value (<- convert src dst x))):=by
 obtain⟨rfl,_⟩:=hx.cJ;have hu:=vE hs;generalize ow:(Question.appendCap b.size 0 e).cut (w.tape w.drawn (.appendCap b.size 0 e))=cap
 have J:b.size<=cap/\cap<=maxLen:=by
  have h1:=grownCap_ge w b.size 0 e;have h2:=grownCap_le_maxLen w b.size 0 e dt;unfold grownCap at h1 h2;rw[ow] at h1 h2;exact⟨h1,h2⟩
 generalize hc:b.data.map (fun c=>Value.int .u8 c.toNat)++Array.replicate (cap - b.size) (Value.int .u8 0)=cells
 have O:(convert src dst (.string b)).run P w=.ok (.slice (some ⟨w.heap.size,0,none⟩) b.size cap) ((w.drew.alloc (.cells cells e)).freeze ⟨w.heap.size,cells.size,none⟩ 1):=by
  simp only[convert,Sem.run_bind,run_underlying hu,run_underlying hd,run_underlying he,Result.andThen_ok];unfold Conv.stringToBytes;simp only[Sem.run_bind,run_choose,Question.forced,Bool.false_eq_true,if_false,Result.andThen_ok,ow,hc];simp only[newRow,Sem.run_bind,run_newObj,Result.andThen_ok,Sem.run_pure,markStringish];simp[World.shape?,freeze,Sem.run];rfl
 have X:((w.drew.alloc (.cells cells e)).freeze ⟨w.heap.size,cells.size,none⟩ 1).heap.size=w.heap.size+1:=by simp[World.freeze]
 have hold:∀ k,k<w.heap.size->((w.drew.alloc (.cells cells e)).freeze ⟨w.heap.size,cells.size,none⟩ 1).heap[k]? =w.heap[k]? :=fun k hk=>by
  simp only[World.freeze,Nat.one_ne_zero,if_false,Array.getElem?_modify,if_neg (show ¬ w.heap.size=k by omega)];exact heap_alloc_old w.drew _ hk
 have M:∀ k:Nat,((w.drew.alloc (.cells cells e)).freeze ⟨w.heap.size,cells.size,none⟩ 1).cell? ⟨w.heap.size,k,none⟩=cells[k]? :=fun k=>by
  have:=heap_alloc_new w.drew (.cells cells e);simp only[World.size_drew] at this;simp only[World.cell?,World.freeze,Nat.one_ne_zero,if_false,Array.getElem?_modify,if_true,this,Option.map_some,Option.isSome_none,Bool.false_eq_true]
 refine⟨_,_,_,β,by simp only[Sem.run_bind,O,Result.andThen_ok,Sem.run_pure];rfl,.inl rfl,?_,hm.ext oG hold,xG oG hold,fun _ h _=>h⟩;have hlen:b.data.toList.length=b.size:=by simp
 refine .sl _ _ _ _ _ (fun k=>.int .u8 (b.data.toList.getD k 0).toNat) (fun U=>?_) (fun i p hp e=>?_) oG J.1 J.2 (fun k hk=>?_) (fun k d hk=>?_)
 .have:=hm.fb.lt _ U;omega
 .have:=hm.lt i p _ hp e;omega
 .rw[Nat.zero_add,M];simp at hk;refine⟨?_,rfl⟩;rw[<- hc,Array.getElem?_append_left (by simpa using hk)];simp[hk]
 .rw[List.getElem?_map] at hk;cases C:b.data.toList[k]? with
  |none=>simp[C] at hk
  |some c=>
   simp[C] at hk;subst hk;have:b.data.toList.getD k 0=c:=by simp only[eg,C,Option.getD_some]
   simp only[this];exact .s _ rfl
theorem abb(hm:aC P F m β w){ts:Array TypeId}{d:D}{x:Value}{e:du}{ty:TypeId}(M:ts.size≠0)(hx:R F β w d x)(h:lD P m (ts.getD 0 0) d=some e)(hp:e.pre):
 e.aT=[]/\e.new=0/\aN P F m nx β w e (do Pure.pure (Next.value (<- Builtin.len_ ts ty #[x]))):=by
 obtain⟨t,C⟩:∃ t,ts[0]? =some t:=⟨ts[0]'oG,oS⟩
 have ht:ts.getD 0 0=t:=by simp[Array.getD_eq_getD_getElem?,C]
 rw[ht] at h
 have sl:∀ {a:Option Addr} {k c:Nat},bm P t=true->x=.slice a k c->(Builtin.len_ ts ty #[x]).run P w=.ok (.int .i64 k) w:=by
  rintro a k c hs rfl;simp[Builtin.len_,C,run_underlying (je hs).1,goInt]
 cases d with
 |sl es n=>
  simp only[lD,aK] at h;subst h;refine⟨rfl,rfl,aN.val hm (v:=.int .i64 n) ?_ (.s _ rfl)⟩;rcases hx.ud with⟨_,rfl,a,cap,hv⟩|⟨b,o,cap,hv,_⟩<;>simp only[Sem.run_bind,sl hp hv,Result.andThen_ok,Sem.run_pure]
 |z=>
  simp only[lD,aK] at h;subst h;refine⟨rfl,rfl,aN.val hm (v:=.int .i64 0) ?_ (.s _ rfl)⟩;obtain⟨a,hv⟩:=hx.AE;simp only[Sem.run_bind,sl hp hv,Result.andThen_ok,Sem.run_pure];rfl
 |rs i off n=>
  simp only[lD] at h;cases hi:m i with
  |none=>simp[hi] at h
  |some r=>
  simp only[hi,aK] at h;subst h;obtain⟨p,J,aD⟩:=hm.row i _ hi;obtain⟨a,cap,hv⟩:=hx.ZG ⟨p,J,Qf aD⟩;refine⟨rfl,rfl,aN.val hm (v:=.int .i64 n) ?_ (.s _ rfl)⟩;simp only[Sem.run_bind,sl hp hv,Result.andThen_ok,Sem.run_pure]
 |agg cs=>
  simp only[lD,aK] at h;subst h;refine⟨rfl,rfl,aN.val hm (v:=.int .i64 (oz P t)) ?_ (.s _ rfl)⟩;simp[Builtin.len_,C,run_underlying (Js hp).1,goInt]
 |s v=>
  cases v with
  |string b=>
   simp only[lD,aK] at h;subst h;obtain⟨rfl,_⟩:=hx.cJ;refine⟨rfl,rfl,aN.val hm (v:=.int .i64 b.size) ?_ (.s _ rfl)⟩;simp[Builtin.len_,C,run_underlying (vE hp),goInt]
  |_=>simp[lD] at h
 |_=>simp[lD] at h
theorem Rc(hm:aC P F m β w){ts:Array TypeId}{ty:TypeId}{k:IntKind}{a b:Int}{x y:Value}{pre:Prop}(hx:R F β w (.s (.int k a)) x)(hy:R F β w (.s (.int k b)) y):
 aN P F m nx β w { pre:=pre,val:=.s (.int k (if b<a then b else a)) } (do Pure.pure (Next.value (<- Builtin.min_ ts ty #[x,y]))):=by
 obtain⟨rfl,_⟩:=hx.cJ;obtain⟨rfl,_⟩:=hy.cJ;exact aN.val hm (v:=.int k (if b<a then b else a)) (by simp[Builtin.min_,Builtin.min2]) (.s _ rfl)
theorem Yh(hm:aC P F m β w){ts:Array TypeId}{ty:TypeId}{i off n:Nat}{x:Value}{cs:List D}{e:TypeId}{pre:Prop}{rd:List Nat}(lJ:ts.size≠0)(hx:R F β w (.rs i off n) x)(hi:m i=some (.cells cs e))(ht:bm P (ts.getD 0 0)=true)
 (hl:off+n*P.cellsOf e<=cs.length) (he:e=av P (ts.getD 0 0)):
 aN P F m nx β w { pre:=pre,val:=.bp [],aT:=[(i,some (.cells (fj cs off (dq n (aZ P e))) e))],rd:=rd } (do Pure.pure (Next.value (<- Builtin.clear_ ts ty #[x]))):=by
 obtain⟨t,O⟩:∃ t,ts[0]? =some t:=⟨ts[0]'oG,oS⟩
 have HL:ts.getD 0 0=t:=by simp[Array.getD_eq_getD_getElem?,O]
 rw[HL] at ht he;obtain⟨hu,U⟩:=je ht;rw[<- he] at hu U;obtain⟨z,hz,C,X,h4⟩:=xy (P:=P) w U;have zk:(aZ P e).length=P.cellsOf e:=by rw[X];simp[C]
 have self:fj cs off (dq 0 (aZ P e))=cs:=by
  rw[I6 (by simp[dq];omega)];simp[dq]
 have GI:up m i (some (.cells cs e))=m:=by
  funext j;by_cases hj:j=i
  .subst hj;rw[au,hi]
  .rw[bE _ _ hj]
 have zero:n=0->(∃ a c,x=.slice a 0 c)->aN P F m nx β w { pre:=pre,val:=.bp [],aT:=[(i,some (.cells (fj cs off (dq n (aZ P e))) e))],rd:=rd } (do Pure.pure (Next.value (<- Builtin.clear_ ts ty #[x]))):=by
  rintro rfl ⟨a,c,rfl⟩;refine⟨.value (.tuple #[]),.tuple #[],w,β,?_,.inl rfl,.bp [] [] rfl oS,?_,Step.refl β w,fun _ h _=>h⟩
  .cases a<;>simp[Builtin.clear_,O,run_underlying hu]
  .simp only[cu,self,GI];exact hm
 rcases hx.xZ hm hi with⟨_,rfl,rfl,kB,a,rfl⟩|⟨b,o,room,hβ,aD,oi⟩
 .exact zero rfl ⟨a,0,rfl⟩
 .rcases oi with⟨rfl,a,rfl⟩|⟨cap,rfl,g1,g2,g3,g4⟩
  .exact zero rfl ⟨a,0,rfl⟩
  .cases n with
   |zero=>exact zero rfl ⟨_,cap,rfl⟩
   |succ n=>
    have J:=J0 (F:=F) (β:=β) (w:=w) (P:=P) C X h4 (n+1) ((n+1)*P.cellsOf e) rfl z.cells (fun _=>rfl)
    obtain⟨w',bt,iy,hs⟩:=Iy (P:=P) hm hβ aD (off:=off) (ds:=dq (n+1) (aZ P e)) (vs:=(Builtin.zeroCells z.cells (n+1)).toList) (by
     have:=J.1
     simpa[Builtin.zeroCells,C] using this) (by rw[BY,zk];exact hl) (fun u hu=>by
     have M:(Builtin.zeroCells z.cells (n+1)).toList=((Array.range ((n+1)*P.cellsOf e)).map (z.cells[· % z.cells.size]!)).toList:=by simp[Builtin.zeroCells,C]
     rw[M] at hu;obtain⟨k,hk⟩:=dY hu;have aj:=(bZ.1 hk).1;have:k<(dq (n+1) (aZ P e)).length:=by rw[<- J.1];exact aj
     exact(J.2 k _ u (by simp[this];rfl) hk).2) (fun k d u hk hu=>by
     have M:(Builtin.zeroCells z.cells (n+1)).toList=((Array.range ((n+1)*P.cellsOf e)).map (z.cells[· % z.cells.size]!)).toList:=by simp[Builtin.zeroCells,C]
     rw[M] at hu
     exact(J.2 k d u hk hu).1)
    refine⟨.value (.tuple #[]),.tuple #[],w',β,?_,.inl rfl,.bp [] [] rfl oS,iy,hs,fun _ h _=>h⟩;simp[Builtin.clear_,O,run_underlying hu,hz,bt]
theorem Wm(hm:aC P F m β w){cs:List D}{x:Value}{pre:Prop}(hx:R F β w (.pt cs) x):∃ a,x=.pointer (some a)/\aN P F m nx β w { pre:=pre,val:=.pt cs } (Pure.pure (Next.value x)):=by
 obtain⟨b,o,rfl,_⟩:=hx.Gj;exact⟨_,rfl,aN.val hm rfl hx⟩
theorem Wn(hm:aC P F m β w){i off:Nat}{x:Value}{pre:Prop}{rd:List Nat}{r:Row}(hx:R F β w (.rp i off) x)(hi:m i=some r):∃ a,x=.pointer (some a)/\aN P F m nx β w { pre:=pre,val:=.rp i off,rd:=rd } (Pure.pure (Next.value x)):=by
 obtain⟨p,hp,aD⟩:=hm.row i _ hi;obtain⟨b,bo,len,room,sz,C,rfl⟩:=hx.Ky hp aD;exact⟨_,rfl,aN.val hm rfl hx⟩
theorem W2(hm:aC P F m β w)(hn:β nx=none){t:TypeId}{pre:Prop}:
 aN P F m nx β w { pre:=pre,val:=.mp nx,aT:=[(nx,some (.map []))],new:=1 } (do Pure.pure (Next.value (<- Instr.makeMap t none))):=by
 have hp:∀ b,(Pl.map w.heap.size).bJ=some b->b=w.heap.size:=fun b hb=>by simp[Pl.bJ] at hb;exact hb.symm
 refine⟨.value (.map (some w.heap.size)),_,w.alloc (.map #[] 0),up β nx (some (.map w.heap.size)),?_,.inl rfl,.mp nx _ (au _ _ _),hm.alloc hn _ _ _ hp ?_,zM hm _ hn _ hp,vF⟩
 .simp[Instr.makeMap]
 .exact .map [] w.heap.size #[] 0 (heap_alloc_new w _) rfl oS oS
theorem ZH(hm:aC P F m β w){t:Bool}{U M O:Value}{C J:D}{pre:Prop}(hc:U=.bool t)(ha:R F β w C M)(hb:R F β w J O)(h1:t=true->C.ask/\C.core.fA.isSome=true)(h2:t=false->J.ask/\J.core.fA.isSome=true):
 aN P F m nx β w { pre:=pre,val:=.s (.bool (if t then C.core.fA.getD false else J.core.fA.getD false)) } (do Pure.pure (Next.value (if<- asBool U then M else O))):=by
 subst hc
 have inv:∀ {d:D} {v:Value},R F β w d v->d.ask/\d.core.fA.isSome=true->v=.bool (d.core.fA.getD false):=fun {d v} h hk=>by
  have:=h.vI d hk.1;have hb:=hk.2;unfold D.fA at hb ⊢;split at hb
  .rename_i b he;rw[he] at this;rw[this.cJ.1];rfl
  .cases hb
 cases t with
 |true=>
  have:=inv ha (h1 rfl);rw[this];exact aN.val hm (v:=.bool (C.core.fA.getD false)) (by simp[asBool]) (.s _ rfl)
 |false=>
  have:=inv hb (h2 rfl);rw[this];exact aN.val hm (v:=.bool (J.core.fA.getD false)) (by simp[asBool]) (.s _ rfl)
end
end Go.Abs
