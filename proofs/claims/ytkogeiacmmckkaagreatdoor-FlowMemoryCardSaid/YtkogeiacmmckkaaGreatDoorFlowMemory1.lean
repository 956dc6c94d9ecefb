/- Part 1. -/
import Derived.DeepKeys3
import Derived.KernelRfl
import Derived.RangeFuncLeaves
import Derived.WalkKit
import Derived.WideKeyMaps
set_option linter.all false
theorem kr {α:Sort _} {a b:α} (h:a=b:=by kernel_rfl):a=b:=h
theorem bx{α : Type _}{l : List α}{i : Nat}(h : i < l.length) : l[i]? = some l[i] := List.getElem?_eq_getElem h
theorem dN{α : Type _}{l : List α}{i : Nat}{a : α} : l.getD i a = l[i]?.getD a := List.getD_eq_getElem?_getD
theorem aH{α : Type _}(a b : α) : (some a = some b) = (a = b) := Option.some.injEq a b
theorem bU{α : Type _}{l : List α}{i : Nat}{a : α} : l[i]? = some a ↔ ∃ h : i < l.length, l[i] = a := List.getElem?_eq_some_iff
theorem aw(a b : Bool) : ((a && b) = true) = (a = true ∧ b = true) := Bool.and_eq_true a b
theorem bf{n m : Nat}(h : Nat.ble n m = true) : n ≤ m := Nat.le_of_ble_eq_true h
theorem iv(n : Nat) : ((n : Int)).toNat = n := Int.toNat_natCast n
theorem eE{α : Type _}{l : List α}{n : Nat}(h : n < l.length) : l[n] ∈ l := List.getElem_mem h
theorem gd{a : Int}(h : 0 ≤ a) : ∃ n : Nat, a = n := Int.eq_ofNat_of_zero_le h
theorem cX{α : Type _}{l : List α}{i : Nat}{a : α}(e : l[i]? = some a) : a ∈ l := List.mem_of_getElem? e
theorem dR{α : Type _}{l : List α}{i : Nat}(h : l.length ≤ i) : List.take i l = l := List.take_of_length_le h
theorem cN{α β : Type _}{f : α → β}{x : Option α}{b : β} : x.map f = some b ↔ ∃ a, x = some a ∧ f a = b := Option.map_eq_some_iff
theorem fI{α : Type _}{a : α}{l : List α}(h : a ∈ l) : ∃ i : Nat, l[i]? = some a := List.getElem?_of_mem h
theorem cv{α : Type _}{p : α → Bool}{l : List α} : l.all p = true ↔ ∀ x ∈ l, p x = true := List.all_eq_true
theorem bR{α β : Type _}(a : α)(b : β)(c : α)(d : β) : ((a, b) = (c, d)) = (a = c ∧ b = d) := Prod.mk.injEq a b c d
theorem a6(n : Nat) : n ≤ n := Nat.le_refl n
theorem oS{p : Prop}(h : p:=by simp) : p:=h
theorem oM{p : Prop}(h : p:=by dsimp only;omega) : p:=h
theorem oC{p : Prop}(h : p:=by decide) : p:=h
theorem oN{p : Prop}(h : p:=by assumption) : p:=h
theorem oP{p : Prop}(h : p:=by simp;omega) : p:=h
theorem oH{p : Prop}(h : p:=by cases h) : p:=h
theorem aO{p : Prop}(h : p:=by repeat' (first|exact trivial|exact rfl|refine And.intro ?_ ?_)) : p:=h
theorem cP{p : Prop}(h : p:=by simp[mF]) : p:=h
theorem bB{p : Prop}(h : p:=by simp[Op.operands]) : p:=h
theorem aml{p : Prop}(h : p:=by first|(simp;done)|exact⟨rfl,bf rfl⟩|(simp;omega)) : p:=h
theorem amm{p : Prop}(h : p:=by first|(simp;done)|omega|exact bf rfl) : p:=h
theorem amn{p : Prop}(h : p:=by first|rfl|exact bf rfl|(simp;done)|(simp;omega)|omega) : p:=h
theorem oG{p:Prop}(h:p:=by omega):p:=h
theorem eG{p:Prop}(h:p:=by repeat' (first|exact trivial|exact rfl|refine And.intro ?_ ?_)):p:=h
namespace Go.Abs
inductive D where
 |u
 |s (v:Value)
 |ub
 |cu (c:Bool) (d:D)
 |agg (cs:List D)
 |aT (cs:List D)
 |z
 |sl (es:List D) (n:Nat)
 |sc (es:List D) (n:Nat)
 |pt (cs:List D)
 |rs (i off n:Nat)
 |rp (i off:Nat)
 |mp (i:Nat)
 |im (es:List (Value×D))
 |fn (f:Fn) (fs cs:List D)
 |yl (i:Nat)
 deriving Inhabited
inductive Pl where
 |dead
 |nil
 |cells (b o len room sz:Nat)
 |map (r:Nat)
 |raw (r:Nat)
 |lp (r:Nat)
def Pl.bA:Pl->Option Nat
 | .cells b _ _ _ _=>some b
 | .map r=>some r
 | .raw r=>some r
 | .lp r=>some r
 |_=>none
@[simp] def B7 : Value -> Bool
 | .bool _ | .int _ _ | .string _ | .pointer none | .nilFunc | .nilIface | .map none=>true
 |_=>false
def plain:Value->Bool
 | .iface _ (.agg cs)=>cs.toList.all B7
 | .iface _ v=>B7 v
 |v=>B7 v
abbrev av:=Nat->Option Pl
def av.free(β:av)(b:Nat):Prop:=∀ i p,β i=some p->p.bA≠some b
inductive R(F:Nat->Prop)(β:av)(w:World):D->Value->Prop
 |u (v:Value):R F β w .u v
 |s (v:Value) (h:plain v=true):R F β w (.s v) v
 |ub (b:Bool):R F β w .ub (.bool b)
 |cu (c:Bool) (d:D) (v:Value) (h:c=true->R F β w d v) (h':c=false->v=undef):R F β w (.cu c d) v
 |agg (cs:List D) (vs:List Value) (hl:vs.length=cs.length) (h:∀ (k:Nat) (d:D) (v:Value),cs[k]? =some d->vs[k]? =some v->R F β w d v):R F β w (.agg cs) (.agg vs.toArray)
 |aT (cs:List D) (vs:List Value) (hl:vs.length=cs.length) (h:∀ (k:Nat) (d:D) (v:Value),cs[k]? =some d->vs[k]? =some v->R F β w d v):R F β w (.aT cs) (.tuple vs.toArray)
 |z:R F β w .z (.slice none 0 0)
 |yl (i l:Nat) (h:β i=some (.lp l)):R F β w (.yl i) (.func (.yield l) #[] #[])
 |AU (i:Nat) (v:Value) (h:β i=some .dead) (hv:v.oneCell'=true):R F β w (.yl i) v
 |gR (a:Option Addr) (cap:Nat):R F β w (.sl [] 0) (.slice a 0 cap)
 |sl (es:List D) (n b o cap:Nat) (us:Nat->Value) (hf:¬ F b) (hb:β.free b) (ag:b<w.heap.size) (nL:n<=cap) (cW:cap<=maxLen)
  (hc:∀ k:Nat,k<es.length->w.cell? ⟨b,o+k,none⟩=some (us k)/\(us k).oneCell'=true) (h:∀ (k:Nat) (d:D),es[k]? =some d->R F β w d (us k)):R F β w (.sl es n) (.slice (some ⟨b,o,none⟩) n cap)
 |sc (es:List D) (n:Nat) (a:Option Addr) (h:R F β w (.sl es n) (.slice a n n)):R F β w (.sc es n) (.slice a n n)
 |pt (cs:List D) (b o:Nat) (us:Nat->Value) (hf:¬ F b) (hb:β.free b) (ag:b<w.heap.size)
  (hc:∀ k:Nat,k<cs.length->w.cell? ⟨b,o+k,none⟩=some (us k)/\(us k).oneCell'=true) (h:∀ (k:Nat) (d:D),cs[k]? =some d->R F β w d (us k)):R F β w (.pt cs) (.pointer (some ⟨b,o,none⟩))
 |js (i off n:Nat) (v:Value) (h:β i=some .dead) (hv:v.oneCell'=true):R F β w (.rs i off n) v
 |gu (i:Nat) (a:Option Addr) (h:β i=some .nil):R F β w (.rs i 0 0) (.slice a 0 0)
 |ir (i off:Nat) (a:Option Addr) (b o len room sz:Nat) (h:β i=some (.cells b o len room sz)):R F β w (.rs i off 0) (.slice a 0 0)
 |rs (i off n cap b o len room sz:Nat) (h:β i=some (.cells b o len room sz)) (hn:n<=cap) (cW:cap<=maxLen)
  (h1:len<=off+cap*sz) (h2:off+cap*sz<=room):R F β w (.rs i off n) (.slice (some ⟨b,o+off,none⟩) n cap)
 |qM (i off:Nat) (v:Value) (h:β i=some .dead) (hv:v.oneCell'=true):R F β w (.rp i off) v
 |rp (i off b o len room sz:Nat) (h:β i=some (.cells b o len room sz)):R F β w (.rp i off) (.pointer (some ⟨b,o+off,none⟩))
 |yF (i:Nat) (v:Value) (h:β i=some .dead) (hv:v.oneCell'=true):R F β w (.mp i) v
 |mp (i r:Nat) (h:β i=some (.map r)):R F β w (.mp i) (.map (some r))
 |im (es:List (Value×D)) (r:Nat) (ms:Array MapEntry) (clock:Nat) (hf:¬ F r) (hb:β.free r) (hc:w.heap[r]? =some (.map ms clock)) (hl:ms.size=es.length) (dE:(es.map (·.1)).Nodup)
  (hk:∀ (k:Nat) (x:Value×D) (m:MapEntry),es[k]? =some x->ms[k]? =some m->m.key=x.1) (h:∀ (k:Nat) (x:Value×D) (m:MapEntry),es[k]? =some x->ms[k]? =some m->R F β w x.2 m.val):R F β w (.im es) (.map (some r))
 |fn (f:Fn) (fs cs:List D) (us vs:List Value) (hl:us.length=fs.length) (jt:vs.length=cs.length)
  (h:∀ (k:Nat) (d:D) (v:Value),fs[k]? =some d->us[k]? =some v->R F β w d v) (h':∀ (k:Nat) (d:D) (v:Value),cs[k]? =some d->vs[k]? =some v->R F β w d v):R F β w (.fn f fs cs) (.func f us.toArray vs.toArray)
abbrev Out(w w':World):Prop:=w'.os=w.os/\w'.output=w.output
theorem Out.trans{C J O:World}(h:Out C J)(k:Out J O):Out C O:=⟨k.1.trans h.1,k.2.trans h.2⟩
def Skel(w w':World)(r:Nat):Prop:=∀ L,w.heap[r]? =some (.loop L)->∃ st pe,w'.heap[r]? =some (.loop { L with state:=st,pending:=pe })
theorem mA{w w':World}{r:Nat}(h:w'.heap[r]? =w.heap[r]?):Skel w w' r:=fun L C=>⟨L.state,L.pending,h.trans C⟩
theorem BR{w w':World}{r:Nat}(h:r<w.heap.size->w'.heap[r]? =w.heap[r]?):Skel w w' r:=fun L C=>⟨L.state,L.pending,(h (Array.getElem?_eq_some_iff.1 C).1).trans C⟩
theorem Skel.trans{w C J:World}{r:Nat}(h:Skel w C r)(k:Skel C J r):Skel w J r:=fun L O=>by
 obtain⟨a,b,h1⟩:=h L O;obtain⟨c,d,h2⟩:=k _ h1;exact⟨c,d,h2⟩
structure Step(β:av)(w:World)(β':av)(w':World):Prop where
 size:w.heap.size<=w'.heap.size
 du:∀ b,b<w.heap.size->β.free b->w'.heap[b]? =w.heap[b]? /\β'.free b
 fG:∀ i p,β i=some p->β' i=some p\/β' i=some .dead
 out:Out w w'
 lp:∀ i r,β i=some (.lp r)->β' i=some (.lp r)->Skel w w' r
theorem Step.refl(β:av)(w:World):Step β w β w:=⟨a6 _,fun _ _ h=>⟨rfl,h⟩,fun _ _ h=>.inl h,⟨rfl,rfl⟩,fun _ _ _ _=>mA rfl⟩
theorem Step.trans{X β₂ β₃:av}{J O U:World}(h:Step X J β₂ O)(k:Step β₂ O β₃ U):Step X J β₃ U:=by
 refine⟨Nat.le_trans h.size k.size,fun b hb hf=>?_,fun i p hp=>?_,h.out.trans k.out,fun i r hp C=>?_⟩
 .obtain⟨h1,h2⟩:=h.du b hb hf;obtain⟨k1,k2⟩:=k.du b (Nat.lt_of_lt_of_le hb h.size) h2;exact⟨k1.trans h1,k2⟩
 .rcases h.fG i p hp with h1|h1
  .exact k.fG i p h1
  .right;rcases k.fG i _ h1 with h2|h2<;>exact h2
 .rcases h.fG i _ hp with h1|h1
  .exact(h.lp i r hp h1).trans (k.lp i r h1 C)
  .rcases k.fG i _ h1 with h2|h2<;>(rw[h2] at C;cases C)
theorem cell_of_heap{w w':World}{b o:Nat}(h:w'.heap[b]? =w.heap[b]?):w'.cell? ⟨b,o,none⟩=w.cell? ⟨b,o,none⟩:=by
 simp[World.cell?,h]
def ll(w w':World)(b:Nat):Prop:=(∀ o u,w.cell? ⟨b,o,none⟩=some u->w'.cell? ⟨b,o,none⟩=some u)/\∀ ms c,w.heap[b]? =some (.map ms c)->w'.heap[b]? =some (.map ms c)
theorem sY{w w':World}{b:Nat}(h:w'.heap[b]? =w.heap[b]?):ll w w' b:=⟨fun _ _ hu=>(cell_of_heap h).trans hu,fun _ _ hm=>h.trans hm⟩
theorem ll.refl(w:World)(b:Nat):ll w w b:=⟨fun _ _ h=>h,fun _ _ h=>h⟩
theorem R.gen{F F':Nat->Prop}{β β':av}{w w':World}(br:w.heap.size<=w'.heap.size)
 (U:∀ b,b<w.heap.size->¬ F b->β.free b->ll w w' b/\β'.free b/\¬ F' b)
 (C:∀ i p,(∀ r,p≠ .raw r)->β i=some p->β' i=some p\/β' i=some .dead) {d:D} {v:Value} (h:R F β w d v):R F' β' w' d v:=by
 induction h with
 |u v=>exact .u v
 |s v h=>exact .s v h
 |ub b=>exact .ub b
 |cu c d v _ h' ih=>exact .cu c d v ih h'
 |agg cs vs hl _ ih=>exact .agg cs vs hl ih
 |aT cs vs hl _ ih=>exact .aT cs vs hl ih
 |z=>exact .z
 |yl i l h=>
  rcases C i _ oS h with h1|h1
  .exact .yl i l h1
  .exact .AU i _ h1 rfl
 |AU i v h hv=>exact .AU i v (by rcases C i _ oS h with h1|h1<;>exact h1) hv
 |gR a cap=>exact .gR a cap
 |sl es n b o cap us hf hb ag nL cW hc _ ih=>
  obtain⟨h1,h2,J⟩:=U b ag hf hb;exact .sl es n b o cap us J h2 (Nat.lt_of_lt_of_le ag br) nL cW (fun k hk=>⟨h1.1 _ _ (hc k hk).1,(hc k hk).2⟩) ih
 |sc es n a _ ih=>exact .sc es n a ih
 |pt cs b o us hf hb ag hc _ ih=>
  obtain⟨h1,h2,J⟩:=U b ag hf hb;exact .pt cs b o us J h2 (Nat.lt_of_lt_of_le ag br) (fun k hk=>⟨h1.1 _ _ (hc k hk).1,(hc k hk).2⟩) ih
 |js i off n v h hv=>exact .js i off n v (by rcases C i _ oS h with h1|h1<;>exact h1) hv
 |gu i a h=>
  rcases C i _ oS h with h1|h1
  .exact .gu i a h1
  .exact .js i 0 0 _ h1 rfl
 |ir i off a b o len room sz h=>
  rcases C i _ oS h with h1|h1
  .exact .ir i off a b o len room sz h1
  .exact .js i off 0 _ h1 rfl
 |rs i off n cap b o len room sz h hn cW h1 h2=>
  rcases C i _ oS h with J|J
  .exact .rs i off n cap b o len room sz J hn cW h1 h2
  .exact .js i off n _ J rfl
 |qM i off v h hv=>exact .qM i off v (by rcases C i _ oS h with h1|h1<;>exact h1) hv
 |rp i off b o len room sz h=>
  rcases C i _ oS h with h1|h1
  .exact .rp i off b o len room sz h1
  .exact .qM i off _ h1 rfl
 |yF i v h hv=>exact .yF i v (by rcases C i _ oS h with h1|h1<;>exact h1) hv
 |mp i r h=>
  rcases C i _ oS h with h1|h1
  .exact .mp i r h1
  .exact .yF i _ h1 rfl
 |im es r ms clock hf hb hc hl dE hk _ ih=>
  obtain⟨h1,h2,J⟩:=U r (Array.getElem?_eq_some_iff.1 hc).1 hf hb;exact .im es r ms clock J h2 (h1.2 _ _ hc) hl dE hk ih
 |fn f fs cs us vs hl jt _ _ ih O=>exact .fn f fs cs us vs hl jt ih O
theorem R.step{F:Nat->Prop}{β β':av}{w w':World}(hs:Step β w β' w'){d:D}{v:Value}(h:R F β w d v):R F β' w' d v:=
 h.gen hs.size (fun b hb hf C=>⟨sY (hs.du b hb C).1,(hs.du b hb C).2,hf⟩) fun i p _=>hs.fG i p
inductive RS where
 |ready
 |busy
 |done (e:Exit)
def aeb:Exit->Option Code
 | .ret=>some .ret
 | .exit id=>some (.exit id)
 |_=>none
def RS.Is(L:Loop):RS->Prop
 | .ready=>L.state=.ready/\L.pending=none
 | .busy=>L.state=.busy/\L.pending=none
 | .done e=>L.state=.done/\L.pending=aeb e
inductive Row where
 |cells (cs:List D) (e:TypeId)
 |map (es:List (Value×D))
 |raw (r:Nat) (o:Obj)
 |bs (u:Bool) (x:D) (T:TypeId)
 |eZ (f:Nat->Option Nat) (r:Row)
 |lp (k:RS)
abbrev Mem:=Nat->Option Row
inductive jY(P:Program)(F:Nat->Prop)(β:av)(w:World):Row->Pl->Prop
 |nil (e:TypeId):jY P F β w (.cells [] e) .nil
 |cells (cs:List D) (e:TypeId) (b o room sz:Nat) (c:Array Value) (hb:w.heap[b]? =some (.cells c e (0,0))) (hr:o+room<=c.size) (hlen:cs.length<=room) (br:sz=P.cellsOf e)
  (h:∀ (k:Nat) (d:D),cs[k]? =some d->∃ v,c[o+k]? =some v/\R F β w d v/\v.oneCell'=true):jY P F β w (.cells cs e) (.cells b o cs.length room sz)
 |map (es:List (Value×D)) (r:Nat) (ms:Array MapEntry) (clock:Nat) (hb:w.heap[r]? =some (.map ms clock)) (hl:ms.size=es.length) (dE:(es.map (·.1)).Nodup)
  (h:∀ (k:Nat) (x:Value×D) (m:MapEntry),es[k]? =some x->ms[k]? =some m->m.key=x.1/\R F β w x.2 m.val):jY P F β w (.map es) (.map r)
 |raw (r:Nat) (o:Obj) (hb:w.heap[r]? =some o):jY P F β w (.raw r o) (.raw r)
 |lp (k:RS) (r:Nat) (L:Loop) (hb:w.heap[r]? =some (.loop L)) (hk:RS.Is L k):jY P F β w (.lp k) (.lp r)
 |bs (u:Bool) (x:D) (T:TypeId) (b:Nat) (v:Value) (hb:w.heap[b]? =some (.cells #[.pointer (if u then some ⟨b,0,none⟩ else none),v] T (0,0))) (br:P.cellsOf T=2) (h:R F β w x v) (h1:v.oneCell'=true):jY P F β w (.bs u x T) (.cells b 0 2 2 2)
def av.via(β:av)(f:Nat->Option Nat):av:=fun i=>(f i).bind β
inductive cx(P:Program)(F:Nat->Prop)(β:av)(w:World):Row->Pl->Prop
 |nil (e:TypeId):cx P F β w (.cells [] e) .nil
 |cells (cs:List D) (e:TypeId) (b o room sz:Nat) (c:Array Value) (hb:w.heap[b]? =some (.cells c e (0,0))) (hr:o+room<=c.size) (hlen:cs.length<=room) (br:sz=P.cellsOf e)
  (h:∀ (k:Nat) (d:D),cs[k]? =some d->∃ v,c[o+k]? =some v/\R F β w d v/\v.oneCell'=true):cx P F β w (.cells cs e) (.cells b o cs.length room sz)
 |map (es:List (Value×D)) (r:Nat) (ms:Array MapEntry) (clock:Nat) (hb:w.heap[r]? =some (.map ms clock)) (hl:ms.size=es.length) (dE:(es.map (·.1)).Nodup)
  (h:∀ (k:Nat) (x:Value×D) (m:MapEntry),es[k]? =some x->ms[k]? =some m->m.key=x.1/\R F β w x.2 m.val):cx P F β w (.map es) (.map r)
 |raw (r:Nat) (o:Obj) (hb:w.heap[r]? =some o):cx P F β w (.raw r o) (.raw r)
 |lp (k:RS) (r:Nat) (L:Loop) (hb:w.heap[r]? =some (.loop L)) (hk:RS.Is L k):cx P F β w (.lp k) (.lp r)
 |bs (u:Bool) (x:D) (T:TypeId) (b:Nat) (v:Value) (hb:w.heap[b]? =some (.cells #[.pointer (if u then some ⟨b,0,none⟩ else none),v] T (0,0))) (br:P.cellsOf T=2) (h:R F β w x v) (h1:v.oneCell'=true):cx P F β w (.bs u x T) (.cells b 0 2 2 2)
 |eZ (f:Nat->Option Nat) (r:Row) (p:Pl) (F₂:Nat->Prop) (h1:∀ b,F b->F₂ b) (h2:∀ b,¬ β.free b->(β.via f).free b->F₂ b) (h:jY P F₂ (β.via f) w r p):cx P F β w (.eZ f r) p
def vD:List (Nat×Array Value):=[(0, #[.int .u64 1,.int .u64 10,.int .u64 100,.int .u64 1000,.int .u64 10000,.int .u64 100000,.int .u64 1000000,.int .u64 10000000,.int .u64 100000000,.int .u64 1000000000,.int .u64 10000000000,.int .u64 100000000000,.int .u64 1000000000000,.int .u64 10000000000000,.int .u64 100000000000000,.int .u64 1000000000000000,.int .u64 10000000000000000,.int .u64 100000000000000000,.int .u64 1000000000000000000,.int .u64 10000000000000000000])]
def Ae(w:World)(t:Nat×Array Value):Prop:=∃ e k,w.heap[t.1]? =some (.cells t.2 e k)
theorem Ae.of{w w':World}{t:Nat×Array Value}(h:Ae w t)(hk:w'.heap[t.1]? =w.heap[t.1]?):Ae w' t:=by
 obtain⟨e,k,h⟩:=h;exact⟨e,k,hk.trans h⟩
structure FB(F:Nat->Prop)(w:World):Prop where
 lt:∀ b,F b->b<w.heap.size
 fH:∀ t∈vD,F t.1/\Ae w t
theorem FB.next{F F':Nat->Prop}{w w':World}(h:FB F w)(ag:∀ b,F' b->b<w'.heap.size)(C:∀ b,F b->F' b)(hk:∀ t∈vD,F t.1->w'.heap[t.1]? =w.heap[t.1]?):FB F' w':=
 ⟨ag,fun t ht=>⟨C _ (h.fH t ht).1,(h.fH t ht).2.of (hk t ht (h.fH t ht).1)⟩⟩
theorem ab1{w:World}{t:Nat×Array Value}(h:Ae w t)(x:Option (List Deferred)):w.heap[t.1]? ≠some (.deferred x):=by
 obtain⟨e,k,h⟩:=h;rw[h];simp
structure ax(P:Program)(F:Nat->Prop)(m:Mem)(β:av)(w:World):Prop where
 row:∀ i r,m i=some r->∃ p,β i=some p/\cx P F β w r p
 inj:∀ i j p q b,β i=some p->β j=some q->p.bA=some b->q.bA=some b->i=j
 lt:∀ i p b,β i=some p->p.bA=some b->b<w.heap.size
 nf:∀ i p b,β i=some p->p.bA=some b->¬ F b
 fb:FB F w
def up{α:Type}(f:Nat->α)(k:Nat)(v:α):Nat->α:=fun j=>if j=k then v else f j
theorem uE{α:Type}(f:Nat->α)(k:Nat)(v:α)(j:Nat):up f k v j=if j=k then v else f j:=rfl
theorem ai{α:Type}(f:Nat->α)(k:Nat)(v:α):up f k v k=v:=by simp[up]
theorem aA{α:Type}(f:Nat->α){k:Nat}(v:α){j:Nat}(h:j≠k):up f k v j=f j:=by simp[up,h]
section
variable{P:Program}{F:Nat->Prop}{β β':av}{w w':World}{m:Mem}
theorem jY.gen{F':Nat->Prop}(br:w.heap.size<=w'.heap.size)
 (J:∀ b,b<w.heap.size->¬ F b->β.free b->ll w w' b/\β'.free b/\¬ F' b)
 (C:∀ i p,(∀ r,p≠ .raw r)->β i=some p->β' i=some p\/β' i=some .dead) {r:Row} {p:Pl} (hb:∀ b,p.bA=some b->w'.heap[b]? =w.heap[b]?) (h:jY P F β w r p):jY P F' β' w' r p:=by
 cases h with
 |nil e=>exact .nil e
 |cells cs e b o room sz c hc hr hlen hs hh=>
  refine .cells cs e b o room sz c ((hb b rfl).trans hc) hr hlen hs fun k d hk=>?_;obtain⟨v,h1,h2,O⟩:=hh k d hk;exact⟨v,h1,h2.gen br J C,O⟩
 |map es r ms clock hc hl dE hh=>
  refine .map es r ms clock ((hb r rfl).trans hc) hl dE fun k x U hk hm=>?_;obtain⟨h1,h2⟩:=hh k x U hk hm;exact⟨h1,h2.gen br J C⟩
 |raw r o hc=>exact .raw r o ((hb r rfl).trans hc)
 |lp k r L hc hk=>exact .lp k r L ((hb r rfl).trans hc) hk
 |bs u x T b v hc hs hx h1=>exact .bs u x T b v ((hb b rfl).trans hc) hs (hx.gen br J C) h1
theorem av.uD{β:av}{b:Nat}(h:β.free b)(f:Nat->Option Nat):(β.via f).free b:=fun i p hp=>by
 unfold av.via at hp;obtain⟨j,_,hj⟩:=Option.bind_eq_some_iff.1 hp;exact h j p hj
theorem cx.gen{F':Nat->Prop}(br:w.heap.size<=w'.heap.size)
 (O:∀ b,b<w.heap.size->¬ F b->β.free b->ll w w' b/\β'.free b/\¬ F' b)
 (J:∀ i p,(∀ r,p≠ .raw r)->β i=some p->β' i=some p\/β' i=some .dead) {r:Row} {p:Pl} (hb:∀ b,p.bA=some b->w'.heap[b]? =w.heap[b]?) (h:cx P F β w r p):cx P F' β' w' r p:=by
 cases h with
 |nil e=>exact .nil e
 |cells cs e b o room sz c hc hr hlen hs hh=>
  refine .cells cs e b o room sz c ((hb b rfl).trans hc) hr hlen hs fun k d hk=>?_;obtain⟨v,h1,h2,h3⟩:=hh k d hk;exact⟨v,h1,h2.gen br O J,h3⟩
 |map es r ms clock hc hl dE hh=>
  refine .map es r ms clock ((hb r rfl).trans hc) hl dE fun k x mm hk hm=>?_;obtain⟨h1,h2⟩:=hh k x mm hk hm;exact⟨h1,h2.gen br O J⟩
 |raw r o hc=>exact .raw r o ((hb r rfl).trans hc)
 |lp k r L hc hk=>exact .lp k r L ((hb r rfl).trans hc) hk
 |bs u x T b v hc hs hx h1=>exact .bs u x T b v ((hb b rfl).trans hc) hs (hx.gen br O J) h1
 |eZ f r _ F₂ h1 h2 h=>
  refine .eZ f r p (fun b=>F' b\/(¬ β'.free b/\(β'.via f).free b)) (fun b hb=>.inl hb) (fun b C U=>.inr ⟨C,U⟩) (h.gen br (fun b ag C U=>?_) (fun i q hq hi=>?_) hb)
  .have g3:β.free b:=Classical.byContradiction fun hn=>C (h2 b hn U);obtain⟨k1,X,k3⟩:=O b ag (fun e=>C (h1 b e)) g3;exact⟨k1,av.uD X f,fun e=>e.elim k3 fun e=>e.1 X⟩
  .unfold av.via at hi ⊢;obtain⟨j,hj,hβ⟩:=Option.bind_eq_some_iff.1 hi;rw[hj];exact J j q hq hβ
theorem cx.step{r:Row}{p:Pl}(hs:Step β w β' w')(hb:∀ b,p.bA=some b->w'.heap[b]? =w.heap[b]?)(h:cx P F β w r p):cx P F β' w' r p:=
 h.gen hs.size (fun b hb hf C=>⟨sY (hs.du b hb C).1,(hs.du b hb C).2,hf⟩) (fun i p _=>hs.fG i p) hb
theorem jY.live{r:Row}{p:Pl}(h:jY P F β w r p):p≠ .dead:=by cases h<;>simp
theorem cx.live{r:Row}{p:Pl}(h:cx P F β w r p):p≠ .dead:=by
 cases h with
 |eZ _ _ _ _ _ _ h=>exact h.live
 |_=>simp
def Row.rY(f:Nat->Option Nat):Row->Row
 | .eZ g r=>.eZ (fun i=>(g i).bind f) r
 |r=>.eZ f r
theorem cx.base{r:Row}{p:Pl}(hq:∀ f r',r≠ .eZ f r')(h:cx P F β w r p):jY P F β w r p:=by
 cases h with
 |nil e=>exact .nil e
 |cells cs e b o room sz c hc hr hlen hs hh=>exact .cells cs e b o room sz c hc hr hlen hs hh
 |map es r ms clock hc hl dE hh=>exact .map es r ms clock hc hl dE hh
 |raw r o hc=>exact .raw r o hc
 |lp k r L hc hk=>exact .lp k r L hc hk
 |bs u x T b v hc hs hx h1=>exact .bs u x T b v hc hs hx h1
 |eZ f r _ _ _ _ _=>exact absurd rfl (hq f r)
theorem jY.row{r:Row}{p:Pl}(h:jY P F β w r p):cx P F β w r p:=by
 cases h with
 |nil e=>exact .nil e
 |cells cs e b o room sz c hc hr hlen hs hh=>exact .cells cs e b o room sz c hc hr hlen hs hh
 |map es r ms clock hc hl dE hh=>exact .map es r ms clock hc hl dE hh
 |raw r o hc=>exact .raw r o hc
 |lp k r L hc hk=>exact .lp k r L hc hk
 |bs u x T b v hc hs hx h1=>exact .bs u x T b v hc hs hx h1
theorem jY.pL{F':Nat->Prop}{r:Row}{p:Pl}(C:∀ b,b<w.heap.size->β.free b->F' b->F b)(h:jY P F β w r p):jY P F' β w r p:=
 h.gen (a6 _) (fun b hb h1 h2=>⟨ll.refl w b,h2,fun e=>h1 (C b hb h2 e)⟩) (fun _ _ _ h=>.inl h) fun _ _=>rfl
def hidden(F:Nat->Prop)(β:av)(f:Nat->Option Nat):Nat->Prop:=fun b=>F b\/(¬ β.free b/\(β.via f).free b)
theorem BS(β:av)(f g:Nat->Option Nat):(β.via f).via g=β.via fun i=>(g i).bind f:=by
 funext i;simp only[av.via];cases g i<;>rfl
theorem cx.seen{f:Nat->Option Nat}{r:Row}{p:Pl}(h:cx P F β w (r.rY f) p):cx P (hidden F β f) (β.via f) w r p:=by
 have key:∀ r',cx P F β w (.eZ f r') p->jY P (hidden F β f) (β.via f) w r' p:=fun r' h=>by
  cases h with
  |eZ _ _ _ F₂ h1 h2 h=>exact h.pL fun b _ _ hb=>hb.elim (h1 b) fun e=>h2 b e.1 e.2
 cases r with
 |eZ g r=>
  simp only[Row.rY] at h;cases h with
  |eZ _ _ _ F₂ h1 h2 h=>
  refine .eZ g r p F₂ (fun b hb=>?_) (fun b C J=>?_) (by rw[BS];exact h)
  .rcases hb with hb|⟨C,J⟩
   .exact h1 b hb
   .exact h2 b C (by rw[<- BS];exact av.uD J g)
  .exact h2 b (fun e=>C (av.uD e f)) (by rw[<- BS];exact J)
 |_=>exact(key _ h).row
theorem cx.Ui{F':Nat->Prop}{f:Nat->Option Nat}{r:Row}{p:Pl}(h:cx P F' (β.via f) w r p)(h1:∀ b,F b->F' b)(h2:∀ b,¬ β.free b->(β.via f).free b->F' b):cx P F β w (r.rY f) p:=by
 cases r with
 |eZ g r=>
  simp only[Row.rY];cases h with
  |eZ _ _ _ F₂ C J h=>
  refine .eZ _ r p F₂ (fun b hb=>C b (h1 b hb)) (fun b k1 O=>?_) (by rw[<- BS];exact h);by_cases hb:(β.via f).free b
  .exact C b (h2 b k1 hb)
  .exact J b hb (by rw[BS];exact O)
 |_=>exact .eZ f _ p F' h1 h2 (h.base oS)
theorem ax.og(h:ax P F m β w){i:Nat}{p:Pl}{b:Nat}(hp:β i=some p)(hb:p.bA=some b){j:Nat}{q:Pl}(hq:β j=some q)(C:j≠i):q.bA≠some b:=
 fun e=>C (h.inj j i q p b hq hp e hb)
theorem zh(h:ax P F m β w)(o:Obj){nx:Nat}(hn:β nx=none)(p:Pl)(hp:∀ b,p.bA=some b->b=w.heap.size):Step β w (up β nx (some p)) (w.alloc o):=by
 refine⟨oS,fun b hb hf=>⟨heap_alloc_old w o hb,fun i q hq=>?_⟩,fun i q hq=>?_,⟨rfl,rfl⟩,fun i r _ _=>BR fun hr=>heap_alloc_old w o hr⟩
 .by_cases hi:i=nx
  .subst hi;rw[ai] at hq;cases hq;intro e;have:=hp b e;omega
  .rw[aA _ _ hi] at hq;exact hf i q hq
 .left;rw[aA _ _ (fun e=>by rw[e,hn] at hq;cases hq)];exact hq
theorem ax.alloc(h:ax P F m β w){nx:Nat}(hn:β nx=none)(o:Obj)(r:Row)(p:Pl)(hp:∀ b,p.bA=some b->b=w.heap.size)
 (hr:cx P F (up β nx (some p)) (w.alloc o) r p):ax P F (up m nx (some r)) (up β nx (some p)) (w.alloc o):=by
 have hs:=zh h o hn p hp;refine⟨fun i r' hi=>?_,fun i j q X b hq C e O=>?_,fun i q b hq e=>?_,fun i q b hq e=>?_,?_⟩
 .by_cases J:i=nx
  .subst J;rw[ai] at hi;cases hi;exact⟨p,ai _ _ _,hr⟩
  .rw[aA _ _ J] at hi;obtain⟨q,hq,af⟩:=h.row i r' hi;exact⟨q,by rw[aA _ _ J];exact hq,af.step hs fun b hb=>heap_alloc_old w o (h.lt i q b hq hb)⟩
 .by_cases hi:i=nx<;>by_cases hj:j=nx
  .rw[hi,hj]
  .subst hi;rw[ai] at hq;rw[aA _ _ hj] at C;cases hq;have h1:=hp b e;have h2:=h.lt j X b C O;omega
  .subst hj;rw[ai] at C;rw[aA _ _ hi] at hq;cases C;have h1:=hp b O;have h2:=h.lt i q b hq e;omega
  .rw[aA _ _ hi] at hq;rw[aA _ _ hj] at C;exact h.inj i j q X b hq C e O
 .by_cases hi:i=nx
  .subst hi;rw[ai] at hq;cases hq;have:=hp b e;simp;omega
  .rw[aA _ _ hi] at hq;have:=h.lt i q b hq e;simp;omega
 .by_cases hi:i=nx
  .subst hi;rw[ai] at hq;cases hq;intro U;have h1:=hp b e;have h2:=h.fb.lt b U;omega
  .rw[aA _ _ hi] at hq;exact h.nf i q b hq e
 .exact h.fb.next (fun b hb=>by have:=h.fb.lt b hb;simp;omega) (fun _ h=>h) fun t _ U=>heap_alloc_old w o (h.fb.lt _ U)
theorem zj(β:av)(w:World)(i:Nat):Step β w (up β i (some .dead)) w:=by
 refine⟨a6 _,fun b _ hf=>⟨rfl,fun j q hq=>?_⟩,fun j q hq=>?_,⟨rfl,rfl⟩,fun _ _ _ _=>mA rfl⟩
 .by_cases hj:j=i
  .subst hj;rw[ai] at hq;cases hq;simp[Pl.bA]
  .rw[aA _ _ hj] at hq;exact hf j q hq
 .by_cases hj:j=i
  .subst hj;exact .inr (ai _ _ _)
  .exact .inl (by rw[aA _ _ hj];exact hq)
theorem ax.dead(h:ax P F m β w)(i:Nat):ax P F (up m i none) (up β i (some .dead)) w:=by
 have hs:=zj β w i
 have C:∀ j q b,up β i (some .dead) j=some q->q.bA=some b->j≠i/\β j=some q:=fun j q b hq e=>by
  by_cases hj:j=i
  .subst hj;rw[ai] at hq;cases hq;simp[Pl.bA] at e
  .rw[aA _ _ hj] at hq;exact⟨hj,hq⟩
 refine⟨fun j r' hj=>?_,fun j k q U b hq X e O=>?_,fun j q b hq e=>h.lt j q b (C j q b hq e).2 e,fun j q b hq e=>h.nf j q b (C j q b hq e).2 e,h.fb⟩
 .by_cases J:j=i
  .subst J;rw[ai] at hj;cases hj
  .rw[aA _ _ J] at hj;obtain⟨q,hq,af⟩:=h.row j r' hj;exact⟨q,by rw[aA _ _ J];exact hq,af.step hs fun b _=>rfl⟩
 .exact h.inj j k q U b (C j q b hq e).2 (C k U b X O).2 e O
theorem Bv(h:ax P F m β w){i:Nat}{p:Pl}{b:Nat}(hp:β i=some p)(hb:p.bA=some b)(J:w.heap.size<=w'.heap.size)
 (ho:∀ k,k≠b->w'.heap[k]? =w.heap[k]?) (O:Out w w':=by first|exact⟨rfl,rfl⟩|assumption) (C:∀ r,p≠ .lp r:=by intro _ h;cases h):Step β w β w':=
 ⟨J,fun k _ hf=>⟨ho k fun e=>hf i p hp (e▸hb),hf⟩,fun _ _ hq=>.inl hq,O,fun j r hj _=>mA (ho r fun e=>by
  have:=h.inj j i _ p b hj hp (by simp[Pl.bA,e]) hb;subst this;rw[hp] at hj
  exact C r (Option.some.inj hj))⟩
theorem ax.write(h:ax P F m β w){i:Nat}{p:Pl}{b:Nat}(hp:β i=some p)(hb:p.bA=some b)(J:w'.heap.size=w.heap.size)
 (ho:∀ k,k≠b->w'.heap[k]? =w.heap[k]?) (r:Row) (hr:cx P F β w' r p) (X:Out w w':=by first|exact⟨rfl,rfl⟩|assumption) (O:∀ r,p≠ .lp r:=by intro _ h;cases h):ax P F (up m i (some r)) β w':=by
 have hs:=Bv h hp hb oG ho X O;refine⟨fun j r' hj=>?_,h.inj,fun j q c hq e=>by rw[J];exact h.lt j q c hq e,h.nf,h.fb.next (fun c hc=>by rw[J];exact h.fb.lt c hc) (fun _ h=>h) fun t _ U=>ho _ fun e=>h.nf _ _ _ hp hb (e▸U)⟩;by_cases C:j=i
 .subst C;rw[ai] at hj;cases hj;exact⟨p,hp,hr⟩
 .rw[aA _ _ C] at hj;obtain⟨q,hq,af⟩:=h.row j r' hj;exact⟨q,hq,af.step hs fun c hc=>ho c fun e=>h.og hp hb hq C (e▸hc)⟩
theorem ax.move(h:ax P F m β w){i nx:Nat}{p p':Pl}{b:Nat}(hp:β i=some p)(hb:p.bA=some b)(X:p'.bA=some b)(hn:β nx=none)(hw:w'.heap.size=w.heap.size)
 (ho:∀ k,k≠b->w'.heap[k]? =w.heap[k]?) (r:Row) (hr:Step β w (up (up β i (some .dead)) nx (some p')) w'->cx P F (up (up β i (some .dead)) nx (some p')) w' r p') (vG:Out w w':=by first|exact⟨rfl,rfl⟩|assumption):
 ax P F (up (up m i none) nx (some r)) (up (up β i (some .dead)) nx (some p')) w'/\Step β w (up (up β i (some .dead)) nx (some p')) w':=by
 have cE:i≠nx:=fun e=>by rw[e,hn] at hp;cases hp
 have U:∀ j q,up (up β i (some .dead)) nx (some p') j=some q->(j=nx/\q=p')\/(j=i/\q=.dead)\/(j≠nx/\j≠i/\β j=some q):=fun j q hq=>by
  by_cases hj:j=nx
  .subst hj;rw[ai] at hq;cases hq;exact .inl ⟨rfl,rfl⟩
  .rw[aA _ _ hj] at hq;by_cases C:j=i
   .subst C;rw[ai] at hq;cases hq;exact .inr (.inl ⟨rfl,rfl⟩)
   .rw[aA _ _ C] at hq;exact .inr (.inr ⟨hj,C,hq⟩)
 have hs:Step β w (up (up β i (some .dead)) nx (some p')) w':=by
  refine⟨oG,fun c hc hf=>⟨ho c fun e=>hf i p hp (e▸hb),fun j q hq e=>?_⟩,fun j q hq=>?_,vG,fun j r hj gw=>mA (ho r fun e=>?_)⟩
  rotate_left 2
  .rcases U j _ gw with⟨rfl,h1⟩|⟨rfl,h1⟩|⟨h1,h2,J⟩
   .rw[hn] at hj;cases hj
   .cases h1
   .exact h2 (h.inj j i _ p b J hp (by simp[Pl.bA,e]) hb)
  .rcases U j q hq with⟨rfl,rfl⟩|⟨rfl,rfl⟩|⟨_,_,fp⟩
   .rw[X] at e;cases e;exact hf i p hp hb
   .simp[Pl.bA] at e
   .exact hf j q fp e
  .by_cases C:j=i
   .subst C;exact .inr (by rw[aA _ _ cE,ai])
   .have hj:j≠nx:=fun e=>by rw[e,hn] at hq;cases hq
    exact .inl (by rw[aA _ _ hj,aA _ _ C];exact hq)
 refine⟨⟨fun j r' hj=>?_,fun j k q q' c hq fp e O=>?_,fun j q c hq e=>?_,fun j q c hq e=>?_,h.fb.next (fun c hc=>by rw[hw];exact h.fb.lt c hc) (fun _ h=>h) fun t _ hF=>ho _ fun e=>h.nf _ _ _ hp hb (e▸hF)⟩,hs⟩
 .by_cases iF:j=nx
  .subst iF;rw[ai] at hj;cases hj;exact⟨p',ai _ _ _,hr hs⟩
  .rw[aA _ _ iF] at hj;by_cases C:j=i
   .subst C;rw[ai] at hj;cases hj
   .rw[aA _ _ C] at hj;obtain⟨q,hq,af⟩:=h.row j r' hj;exact⟨q,by rw[aA _ _ iF,aA _ _ C];exact hq,af.step hs fun c hc=>ho c fun e=>h.og hp hb hq C (e▸hc)⟩
 .rcases U j q hq with⟨rfl,rfl⟩|⟨rfl,rfl⟩|⟨h1,h2,J⟩<;>rcases U k q' fp with⟨rfl,rfl⟩|⟨rfl,rfl⟩|⟨k1,k2,k3⟩
  .rfl
  .simp[Pl.bA] at O
  .rw[X] at e;cases e;exact absurd O (h.og hp hb k3 k2)
  .simp[Pl.bA] at e
  .rfl
  .simp[Pl.bA] at e
  .rw[X] at O;cases O;exact absurd e (h.og hp hb J h2)
  .simp[Pl.bA] at O
  .exact h.inj j k q q' c J k3 e O
 .rw[hw];rcases U j q hq with⟨rfl,rfl⟩|⟨rfl,rfl⟩|⟨_,_,J⟩
  .rw[X] at e;cases e;exact h.lt i p b hp hb
  .simp[Pl.bA] at e
  .exact h.lt j q c J e
 .rcases U j q hq with⟨rfl,rfl⟩|⟨rfl,rfl⟩|⟨_,_,J⟩
  .rw[X] at e;cases e;exact h.nf i p b hp hb
  .simp[Pl.bA] at e
  .exact h.nf j q c J e
end
def jq:Value->D
 | .bool b=>.s (.bool b)
 | .int k n=>.s (.int k n)
 | .string b=>.s (.string b)
 | .pointer none=>.s (.pointer none)
 | .nilFunc=>.s .nilFunc
 | .nilIface=>.s .nilIface
 | .map none=>.s (.map none)
 | .slice none 0 0=>.z
 |_=>.u
def wk:Value->D
 | .agg cs=>.agg (cs.toList.map jq)
 | .bool b=>.s (.bool b)
 | .int k n=>.s (.int k n)
 | .string b=>.s (.string b)
 | .pointer none=>.s (.pointer none)
 | .nilFunc=>.s .nilFunc
 | .nilIface=>.s .nilIface
 | .map none=>.s (.map none)
 | .slice none 0 0=>.z
 |_=>.u
abbrev Env:=Nat->D
structure St where
 env:Env
 mem:Mem
 nx:Nat
def St.put(st:St)(d:Option Nat)(v:D):St:=
 match d with
 |some t=>{ st with env:=up st.env t v }
 |none=>st
def opd(env:Env):Operand->D
 | .tmp t=>env t
 | .const v=>wk v
 | .global _=>.u
 | .func f=>.fn (.func f) [] []
def D.core:D->D
 | .cu _ d=>d
 |d=>d
def D.ask:D->Prop
 | .cu c _=>c=true
 |_=>True
section types
variable(P:Program)
def bq(t:TypeId):Bool:=match P.underlying t with
 |some (.struct _)=>true
 |some (.array _ _)=>true
 |_=>false
def aq(t:TypeId):TypeId:=match P.underlying t with
 |some (.slice e)=>e
 |some (.pointer e)=>e
 |some (.array _ e)=>e
 |_=>0
def cJ(t:TypeId)(k:Nat):Option (Nat×TypeId):=match P.underlying t with
 |some (.struct fs)=>(fs[k]?).map fun f=>(f.offset,f.type)
 |_=>none
def aV(t:TypeId):List D:=((P.info? t).bind (·.zero)).elim [] fun v=>v.cells.toList.map jq
def nM(t:TypeId):Nat:=match P.underlying t with
 |some (.array n _)=>n
 |_=>0
end types
def D.one:D->Bool
 | .u | .cu _ _ | .agg _ | .aT _=>false
 |_=>true
def aB(P:Program)(t:TypeId):Bool:=
 (P.underlying t).isSome&&(bq P t||P.cellsOf t==1)&&match (P.info? t).bind (·.zero) with
  |some v=>v.cells.toList.all (fun c=>(jq c).one)&&v.cells.size==P.cellsOf t
  |none=>false
def aW(P:Program)(t:TypeId):Bool:=match P.underlying t with
 |some (.slice e)=>aB P e
 |_=>false
def nb(P:Program)(t:TypeId):Bool:=match P.underlying t with
 |some (.array _ e)=>aB P e
 |_=>false
def eN(P:Program)(t:TypeId):Bool:=match P.underlying t with
 |some .string=>true
 |_=>false
def D.cells:D->List D
 | .agg cs=>cs
 |d=>[d]
def jk(P:Program)(t:TypeId)(cs:List D):D:=if bq P t then .agg (cs.take (P.cellsOf t)) else cs.headD .u
def dL(cs:List D)(off:Nat):List D->List D
 |[x]=>cs.set off x
 |xs=>cs.take off++xs++cs.drop (off+xs.length)
structure cR where
 pre:Prop
 val:D
 aL:List (Nat×Option Row):=[]
 rd:List Nat:=[]
 new:Nat:=0
def bT(m:Mem):List (Nat×Option Row)->Mem
 |[]=>m
 |(i,r)::us=>bT (up m i r) us
def la(op:BinOp)(k:IntKind)(x y:Int):Int:=
 let a:=BitVec.ofInt k.bits x
 let b:=BitVec.ofInt k.bits y
 k.wrap (match op with
  | .and=>a&&& b
  | .or=>a||| b
  | .xor=>a ^^^ b
  |_=>a&&& ~~~b).toNat
def mS(op:BinOp)(x y:Value):Option (Prop×Value):=
 match op,x,y with
 | .shl,.int k a,.int _ b=>some (0<=b,.int k (k.wrap (a*2 ^ (min b.toNat k.bits))))
 | .shr,.int k a,.int _ b=>some (0<=b,.int k (a.fdiv (2 ^ (min b.toNat k.bits))))
 | .add,.int k a,.int k' b=>some (k=k',.int k (k.wrap (a+b)))
 | .sub,.int k a,.int k' b=>some (k=k',.int k (k.wrap (a - b)))
 | .mul,.int k a,.int k' b=>some (k=k',.int k (k.wrap (a*b)))
 | .quo,.int k a,.int k' b=>some (k=k'/\b≠0,.int k (k.wrap (a.tdiv b)))
 | .rem,.int k a,.int k' b=>some (k=k'/\b≠0,.int k (a.tmod b))
 | .and,.int k a,.int k' b=>some (k=k',.int k (la .and k a b))
 | .or,.int k a,.int k' b=>some (k=k',.int k (la .or k a b))
 | .xor,.int k a,.int k' b=>some (k=k',.int k (la .xor k a b))
 | .andNot,.int k a,.int k' b=>some (k=k',.int k (la .andNot k a b))
 | .eql,.int k a,.int k' b=>some (k=k',.bool (a==b))
 | .neq,.int k a,.int k' b=>some (k=k',.bool (a !=b))
 | .lss,.int k a,.int k' b=>some (k=k',.bool (decide (a<b)))
 | .leq,.int k a,.int k' b=>some (k=k',.bool (decide (a<=b)))
 | .gtr,.int k a,.int k' b=>some (k=k',.bool (decide (b<a)))
 | .geq,.int k a,.int k' b=>some (k=k',.bool (decide (b<=a)))
 | .eql,.string a,.string b=>some (True,.bool (a.toList==b.toList))
 | .neq,.string a,.string b=>some (True,.bool !(a.toList==b.toList))
 | .lss,.string a,.string b=>some (True,.bool (Op.bytesLess a.toList b.toList))
 | .geq,.string a,.string b=>some (True,.bool !(Op.bytesLess a.toList b.toList))
 |_,_,_=>none
def jl:Value->Nat
 | .int _ _=>0
 | .bool _=>1
 | .string _=>2
 |_=>3
def vq(P:Program)(t:TypeId):Nat:=match P.underlying t with
 |some (.int _)=>0
 |some .bool=>1
 |some .string=>2
 |_=>9
def r4(P:Program)(t:TypeId):Bool:=vq P t !=9&&P.cellsOf t==1&&aB P t&& !bq P t
def xI(P:Program)(t:TypeId):Option (List Nat):=match P.underlying t with
 |some (.array n e)=>if r4 P e&&P.cellsOf t==n then some (List.replicate n (vq P e)) else none
 |some (.struct fs)=>if(fs.toList.all fun f=>f.name !="_"&&r4 P f.type)&&P.runs 0 fs.toList==some fs.toList.length&& !P.stoodInHeld t then some (fs.toList.map fun f=>vq P f.type) else none
 |_=>none
def xJ:Value->Value->Bool
 | .int k _,.int k' _=>k==k'
 | .bool _,.bool _=>true
 | .string _,.string _=>true
 |_,_=>false
def nN:List D->List D->Option (List Value×List Value)
 |[],[]=>some ([],[])
 | .s x::xs,.s y::ys=>if xJ x y then(nN xs ys).map fun q=>(x::q.1,y::q.2) else none
 |_,_=>none
def pN:Value->Value->Bool
 | .int k a,.int k' b=>k==k'&&a==b
 | .bool a,.bool b=>a==b
 | .string a,.string b=>a.data.toList==b.data.toList
 |_,_=>false
def gM:List Value->List Value->Bool
 |[],[]=>true
 |a::aS,b::bs=>pN a b&&gM aS bs
 |_,_=>false
def xu(P:Program)(op:BinOp)(t:TypeId)(xs ys:List D):Option (Prop×D):=
 match op,xI P t,nN xs ys with
 | .eql,some ks,some q=>some (q.1.map jl=ks/\P.eqGuardType P.depth t=false,.s (.bool (gM q.1 q.2)))
 | .neq,some ks,some q=>some (q.1.map jl=ks/\P.eqGuardType P.depth t=false,.s (.bool !(gM q.1 q.2)))
 |_,_,_=>none
def ss(P:Program)(t:TypeId):Bool:=match P.underlying t with
 |some .bool=>true
 |_=>false
def yG(P:Program)(t:TypeId):Bool:=match P.underlying t with
 |some (.pointer _)=>true
 |_=>false
def oO(P:Program)(op:BinOp)(t:TypeId)(x y:D):Option (Prop×D):=
 match x,y with
 | .s (.bool a),.s (.bool b)=>match op with
  | .eql=>some (ss P t=true,.s (.bool (a==b)))
  | .neq=>some (ss P t=true,.s (.bool !(a==b)))
  |_=>none
 | .s a,.s b=>(mS op a b).map fun r=>(r.1,.s r.2)
 | .agg xs,.agg ys=>xu P op t xs ys
 |_,_=>none
def jZ(P:Program)(m:Mem)(op:BinOp)(t:TypeId)(x:D)(y:Operand):Option cR:=
 match y,op,x with
 | .const (.slice none 0 0),.eql,.sl _ n=>some { pre:=aW P t=true,val:=if n=0 then .ub else .s (.bool false) }
 | .const (.pointer none),.eql,.rp i _=>match m i with
  |some _=>some { pre:=yG P t=true,val:=.s (.bool false),rd:=[i] }
  |none=>none
 | .const (.pointer none),.neq,.rp i _=>match m i with
  |some _=>some { pre:=yG P t=true,val:=.s (.bool true),rd:=[i] }
  |none=>none
 |_,_,_=>none
def AV(op:UnOp)(x:Value):Option Value:=
 match op,x with
 | .neg,.int k n=>some (.int k (k.wrap (0 - n)))
 | .xor,.int k n=>some (.int k (la .xor k (if k.signed then -1 else k.max) n))
 | .not,.bool b=>some (.bool !b)
 |_,_=>none
def D.eT :D->Option Bool
 | .s (.bool b)=>some b
 |_=>none
def D.int? :D->Option Int
 | .s (.int _ n)=>some n
 |_=>none
def iU(place:Nat->Option (Nat×Nat))(cells:List D):List (Nat×D)->Option (List D)
 |[]=>some cells
 |(i,d)::rest=>
  match place i with
  |none=>none
  |some (off,size)=>if d.cells.length=size/\off+size<=cells.length/\d.cells.all D.one=true then iU place (dL cells off d.cells) rest else none
def dq(n:Nat)(z:List D):List D:=(List.replicate n z).flatten
def kJ(P:Program)(m:Mem)(t:TypeId):D->Option cR
 | .sl _ n=>some { pre:=aW P t=true,val:=.s (.int .i64 n) }
 | .rs i _ n=>match m i with
  |some _=>some { pre:=aW P t=true,val:=.s (.int .i64 n),rd:=[i] }
  |none=>none
 | .z=>some { pre:=aW P t=true,val:=.s (.int .i64 0) }
 | .s (.string b)=>some { pre:=eN P t=true,val:=.s (.int .i64 b.size) }
 | .agg _=>some { pre:=nb P t=true,val:=.s (.int .i64 (nM P t)) }
 |_=>none
def gY(m:Mem)(sz:Nat):D->Option (Prop×List Nat×Nat×List D)
 | .sl es n=>some (n*sz<=es.length,[],n,es.take (n*sz))
 | .z=>some (True,[],0,[])
 | .rs i off n=>match m i with
  |some (.cells cs _)=>some (off+n*sz<=cs.length,[i],n,(cs.drop off).take (n*sz))
  |_=>none
 |_=>none
def py(P:Program)(m:Mem)(nx:Nat)(t:TypeId)(s x:D):Option cR:=
 let e:=aq P t
 let sz:=P.cellsOf e
 match gY m sz x with
 |none=>none
 |some (p,rd,k,news)=>
  match s with
  | .z=>some { pre:=aW P t=true/\p/\0<sz/\k<=maxLen/\k*P.bytesOf e<=140737488355328,val:=.rs nx 0 k,aL:=[(nx,some (.cells news e))],rd:=rd,new:=1 }
  | .rs i off n=>match m i with
   |some (.cells cs e')=>some { pre:=aW P t=true/\e'=e/\p/\0<sz/\off+n*sz=cs.length/\n+k<=maxLen/\(n+k)*P.bytesOf e<=140737488355328/\i∉rd,val:=.rs nx 0 (n+k),aL:=[(i,none),(nx,some (.cells (cs.drop off++news) e))],rd:=i::rd,new:=1 }
   |_=>none
  |_=>none
def su:Value->Value->Bool
 | .agg a,.agg b=>gM a.toList b.toList
 |a,b=>pN a b
def Af:List D->Option (List Value)
 |[]=>some []
 | .s v::ds=>(Af ds).map (v::·)
 |_=>none
def mT:D->Option Value
 | .s v=>some v
 | .agg cs=>(Af cs).map fun vs=>.agg vs.toArray
 |_=>none
def eu(k:Value):List (Value×D)->Option (Nat×D)
 |[]=>none
 |(k',d)::es=>if su k' k then some (0,d) else(eu k es).map fun x=>(x.1+1,x.2)
def lz(k:Value)(d:D)(es:List (Value×D)):List (Value×D):=match eu k es with
 |some (i,_)=>es.set i (k,d)
 |none=>es++[(k,d)]
def r5(k:Value)(es:List (Value×D)):List (Value×D):=match eu k es with
 |some (i,_)=>es.eraseIdx i
 |none=>es
def fT(P:Program)(t:TypeId):TypeId:=match P.underlying t with
 |some (.map k _)=>k
 |_=>0
def qE(P:Program)(t:TypeId):TypeId:=match P.underlying t with
 |some (.map _ e)=>e
 |_=>0
def df(P:Program)(kt:TypeId)(v:Value):Bool:=match P.underlying kt with
 |some (.int k)=>(match v with | .int k' _=>k'==k|_=>false)
 |some .bool=>(match v with | .bool _=>true|_=>false)
 |some .string=>(match v with | .string _=>true|_=>false)
 |some (.array _ _)=>(keyOf P kt v).isSome
 |some (.struct _)=>(keyOf P kt v).isSome
 |_=>false
def tU(P:Program)(t:TypeId):Bool:=match (P.info? t).bind (·.zero) with
 |some (.agg _)=>bq P t
 |some _=> !bq P t
 |none=>false
def iX(P:Program)(t:TypeId):Bool:=match P.underlying t with
 |some (.map kt et)=>(aB P et&&tU P et)&&match P.underlying kt with
  |some (.int _)=>true
  |some .bool=>true
  |some .string=>true
  |some (.array _ _)=>P.keyTypeAt 9 kt&&P.tiled 9 kt
  |some (.struct _)=>P.keyTypeAt 9 kt&&P.tiled 9 kt
  |_=>false
 |_=>false
def lO(P:Program)(t:TypeId):D:=if bq P t then .agg (aV P t) else(aV P t).headD .u
def fV(P:Program)(t:TypeId)(ok:Bool):Option (Nat×D)->D
 |some (_,d)=>if ok then .aT [d,.s (.bool true)] else d
 |none=>if ok then .aT [lO P (qE P t),.s (.bool false)] else lO P (qE P t)
def mB(P:Program)(m:Mem)(t:TypeId)(x k:D)(ok:Bool):Option cR:=match mT k,x with
 |some key,.mp i=>match m i with
  |some (.map es)=>some { pre:=iX P t=true/\df P (fT P t) key=true/\es.all (fun e=>df P (fT P t) e.1)=true,val:=fV P t ok (eu key es),rd:=[i] }
  |_=>none
 |some key,.im es=>some { pre:=iX P t=true/\df P (fT P t) key=true/\es.all (fun e=>df P (fT P t) e.1)=true,val:=fV P t ok (eu key es) }
 |some key,.s (.map none)=>some { pre:=iX P t=true/\df P (fT P t) key=true,val:=fV P t ok none }
 |_,_=>none
def mC(P:Program)(m:Mem)(t:TypeId)(x k v:D):Option cR:=match mT k,x with
 |some key,.mp i=>match m i with
  |some (.map es)=>some { pre:=iX P t=true/\df P (fT P t) key=true/\es.all (fun e=>df P (fT P t) e.1)=true,val:=.aT [],aL:=[(i,some (.map (lz key v es)))],rd:=[i] }
  |_=>none
 |_,_=>none
def sZ(P:Program)(m:Mem)(t:TypeId)(x k:D):Option cR:=match mT k,x with
 |some key,.mp i=>match m i with
  |some (.map es)=>some { pre:=iX P t=true/\df P (fT P t) key=true/\es.all (fun e=>df P (fT P t) e.1)=true,val:=.aT [],aL:=[(i,some (.map (r5 key es)))],rd:=[i] }
  |_=>none
 |_,_=>none
def dS(P:Program)(m:Mem)(nx:Nat)(b:Builtin)(ts:Array TypeId)(args:List D):Option cR:=
 match b,args with
 | .len,[x]=>kJ P m (ts.getD 0 0) x
 | .append,[s,x]=>if ts.getD 0 0=ts.getD 1 0 then py P m nx (ts.getD 0 0) s x else none
 | .min,[.s (.int k a),.s (.int k' b)]=>some { pre:=k=k',val:=.s (.int k (if b<a then b else a)) }
 | .clear,[.rs i off n]=>match m i with
  |some (.cells cs e)=>some { pre:=aW P (ts.getD 0 0)=true/\off+n*P.cellsOf e<=cs.length/\e=aq P (ts.getD 0 0),val:=.aT [],aL:=[(i,some (.cells (dL cs off (dq n (aV P e))) e))],rd:=[i] }
  |_=>none
 | .delete,[x,k]=>sZ P m (ts.getD 0 0) x k
 |_,_=>none
def eg(d:Option D)(C:Int):Option Int:=match d with
 |none=>some C
 |some d=>d.int?
def kz(P:Program)(m:Mem)(t:TypeId)(x:D)(lo hi C:Option D):Option cR:=
 match x with
 | .sl es n=>match eg lo 0,eg hi n,C with
  |some l,some h,none=>some { pre:=aW P t=true/\0<=l/\l<=h/\h<=n,val:=.sl ((es.drop (l.toNat*P.cellsOf (aq P t))).take ((h - l).toNat*P.cellsOf (aq P t))) (h - l).toNat }
  |some l,some h,some d=>match d.int? with
   |some k=>some { pre:=aW P t=true/\hi.isSome=true/\0<=l/\l<=h/\h<=k/\k<=n,val:=.sl ((es.drop (l.toNat*P.cellsOf (aq P t))).take ((h - l).toNat*P.cellsOf (aq P t))) (h - l).toNat }
   |none=>none
  |_,_,_=>none
 | .rs i off n=>match m i with
  |some (.cells _ e)=>match eg lo 0,eg hi n,C with
   |some l,some h,none=>some { pre:=(aW P t=true/\P.cellsOf e=P.cellsOf (aq P t))/\0<=l/\l<=h/\h<=n,val:=.rs i (off+l.toNat*P.cellsOf (aq P t)) (h - l).toNat,rd:=[i] }
   |_,_,_=>none
  |_=>none
 | .s (.string b)=>match eg lo 0,eg hi b.size,C with
  |some l,some h,none=>some { pre:=eN P t=true/\0<=l/\l<=h/\h<=b.size,val:=.s (.string (b.extract l.toNat h.toNat)) }
  |_,_,_=>none
 |_=>none
def aM(P:Program)(o:Op)(ρ:Operand->D)(m:Mem)(nx:Nat):Option cR:=
 match o with
 | .move x=>some { pre:=True,val:=ρ x }
 | .assign x=>some { pre:=True,val:=ρ x }
 | .pick c a b=>match (ρ c).core.eT with
  |some t=>some { pre:=(t=true->(ρ a).ask/\(ρ a).core.eT.isSome=true)/\(t=false->(ρ b).ask/\(ρ b).core.eT.isSome=true),val:=.s (.bool (if t then(ρ a).core.eT.getD false else(ρ b).core.eT.getD false)) }
  |none=>none
 | .alloc t=>some { pre:=aB P t=true,val:=.rp nx 0,aL:=[(nx,some (.cells (aV P t) t))],new:=1 }
 | .box t x=>some { pre:=(ρ x).cells.all D.one=true,val:=.rp nx 0,aL:=[(nx,some (.cells (ρ x).cells t))],new:=1 }
 | .build t ps=>match P.underlying t with
  |some (.struct fs)=>(iU (fun i=>(fs[i]?).map fun f=>(f.offset,P.cellsOf f.type)) (aV P t) (ps.toList.map fun q=>(q.1,ρ q.2))).map fun cs=>{ pre:=aB P t=true/\fs.toList.all (fun f=>(P.info? f.type).isSome)=true,val:=.agg cs }
  |some (.array _ e)=>(iU (fun i=>some (i*P.cellsOf e,P.cellsOf e)) (aV P t) (ps.toList.map fun q=>(q.1,ρ q.2))).map fun cs=>{ pre:=aB P t=true/\aB P e=true,val:=.agg cs }
  |_=>none
 | .buildSlice t n ps=>(iU (fun i=>some (i*P.cellsOf (aq P t),P.cellsOf (aq P t))) (dq n (aV P (aq P t))) (ps.toList.map fun q=>(q.1,ρ q.2))).map fun cs=>
   { pre:=cs.all D.one=true/\n*P.cellsOf (aq P t)<=2 ^ 24/\aW P t=true/\n<=maxLen,val:=.rs nx 0 n,aL:=[(nx,some (.cells cs (aq P t)))],new:=1 }
 | .load t a=>match ρ a with
  | .pt cs=>some { pre:=aB P t=true/\P.cellsOf t<=cs.length,val:=jk P t cs }
  | .rp i off=>match m i with
   |some (.cells cs _)=>some { pre:=aB P t=true/\off+P.cellsOf t<=cs.length,val:=jk P t (cs.drop off),rd:=[i] }
   |_=>none
  |_=>none
 | .store t a x=>match ρ a with
  | .rp i off=>match m i with
   |some (.cells cs e)=>some { pre:=aB P t=true/\(ρ x).cells.length=P.cellsOf t/\off+P.cellsOf t<=cs.length/\(ρ x).cells.all D.one=true,val:=.aT [],aL:=[(i,some (.cells (dL cs off (ρ x).cells) e))],rd:=[i] }
   |_=>none
  |_=>none
 | .nilCheck x=>match ρ x with
  | .pt cs=>some { pre:=True,val:=.pt cs }
  | .rp i off=>match m i with
   |some _=>some { pre:=True,val:=.rp i off,rd:=[i] }
   |none=>none
  |_=>none
 | .binOp op t x y _=>match jZ P m op t (ρ x) y with
  |some e=>some e
  |none=>(oO P op t (ρ x) (ρ y)).map fun r=>{ pre:=r.1,val:=r.2 }
 | .unOp op _ x=>match ρ x with
  | .s v=>(AV op v).map fun r=>{ pre:=True,val:=.s r }
  |_=>none
 | .convert src dst x=>match P.underlying dst,ρ x with
  |some (.int k),.s (.int _ n)=>some { pre:=aB P src=true,val:=.s (.int k (k.wrap n)) }
  |some (.slice e),.s (.string b)=>match P.underlying e with
   |some (.int .u8)=>some { pre:=eN P src=true/\b.size<=maxLen,val:=.sl (b.data.toList.map fun c=>.s (.int .u8 c.toNat)) b.size }
   |_=>none
  |_,_=>none
 | .makeFunc f fs cs=>some { pre:=True,val:=.fn f (fs.toList.map ρ) (cs.toList.map ρ) }
 | .makeMap _ r=>match r with
  |none=>some { pre:=True,val:=.mp nx,aL:=[(nx,some (.map []))],new:=1 }
  |some _=>none
 | .makeSlice t l c=>match ρ l,ρ c with
  | .s (.int .i64 n),.s (.int .i64 k)=>some { pre:=0<=n/\n=k/\n<=9223372036854775807/\P.bytesOf (aq P t)*n<=281474976710656/\aW P t=true,val:=.rs nx 0 n.toNat,aL:=[(nx,some (.cells (dq n.toNat (aV P (aq P t))) (aq P t)))],new:=1 }
  |_,_=>none
 | .lookup t x k ok=>mB P m t (ρ x) (ρ k) ok
 | .mapUpdate t x k v=>mC P m t (ρ x) (ρ k) (ρ v)
 | .insert t x k v=>mC P m t (ρ x) (ρ k) (ρ v)
 | .slice t x lo hi C=>kz P m t (ρ x) (lo.map ρ) (hi.map ρ) (C.map ρ)
 | .fieldAddr t x k=>match cJ P t k,ρ x with
  |some (off,ft),.pt cs=>some { pre:=0<P.cellsOf ft,val:=.pt (cs.drop off) }
  |some (off,ft),.rp i o=>match m i with
   |some _=>some { pre:=0<P.cellsOf ft,val:=.rp i (o+off),rd:=[i] }
   |none=>none
  |_,_=>none
 | .field t x k=>match cJ P t k,ρ x with
  |some (off,ft),.agg cs=>some { pre:=aB P ft=true/\off+P.cellsOf ft<=cs.length,val:=jk P ft (cs.drop off) }
  |_,_=>none
 | .indexAddr t x i=>match ρ x,ρ i with
  | .sl es n,.s (.int _ k)=>some { pre:=aW P t=true/\0<=k/\k<n/\(k.toNat+1)*P.cellsOf (aq P t)<=es.length,val:=.pt (es.drop (k.toNat*P.cellsOf (aq P t))) }
  | .rs j off n,.s (.int _ k)=>match m j with
   |some _=>some { pre:=aW P t=true/\0<=k/\k<n,val:=.rp j (off+k.toNat*P.cellsOf (aq P t)),rd:=[j] }
   |none=>none
  | .rp j off,.s (.int _ k)=>match m j with
   |some _=>some { pre:=nb P t=true/\0<=k/\k<nM P t,val:=.rp j (off+k.toNat*P.cellsOf (aq P t)),rd:=[j] }
   |none=>none
  |_,_=>none
 | .index t x i=>match ρ x,ρ i with
  | .s (.string b),.s (.int _ k)=>some { pre:=eN P t=true/\0<=k/\k<b.size,val:=.s (.int .u8 (b.data.toList.getD k.toNat 0).toNat) }
  | .agg cs,.s (.int _ k)=>some { pre:=nb P t=true/\0<=k/\k<nM P t/\(k.toNat+1)*P.cellsOf (aq P t)<=cs.length,val:=jk P (aq P t) (cs.drop (k.toNat*P.cellsOf (aq P t))) }
  |_,_=>none
 | .extract x k=>match ρ x with
  | .aT cs=>some { pre:=k<cs.length,val:=cs.getD k .u }
  |_=>none
 | .call c=>match c.callee with
  | .builtin b=>if c.argTypes.size=c.args.size then dS P m nx b c.argTypes (c.args.toList.map ρ) else none
  |_=>none
 |_=>none
def yc(t:TypeId):Bool:=([158,160]:List Nat).contains t
def mkStr(l:List Int):ByteArray:=⟨(l.map fun n=>UInt8.ofNat n.toNat).toArray⟩
def kB(l:List Int):List D:=l.map fun n=>.s (.int .u8 n)
def eV(b:ByteArray):List D:=b.data.toList.map fun c=>.s (.int .u8 c.toNat)
def pc(P:Program)(t:TypeId):Prop:=aW P t=true/\P.underlying (aq P t)=some (.int .u8)/\P.cellsOf (aq P t)=1
def wl(P:Program)(t:TypeId):Bool:=match P.underlying t with
 |some (.interface _)=>false
 |some _=>true
 |none=>false
def MO:Value->Bool
 | .iface _ _ | .nilIface=>true
 |_=>false
def VJ:Value->D
 | .agg cs=>.agg (cs.toList.map .s)
 |v=>.s v
def Ag(P:Program)(t:TypeId):Value->D
 | .iface u v=>if u=t then .aT [VJ v,.s (.bool true)] else .aT [lO P t,.s (.bool false)]
 |_=>.aT [lO P t,.s (.bool false)]
inductive cI(P:Program)(ρ:Operand->D)(m:Mem)(nx:Nat):Op->cR->Prop
 |add (t p:TypeId) (x y:Operand) (a b:ByteArray) (hx:ρ x=.s (.string a)) (hy:ρ y=.s (.string b)) (h:a.size+b.size<=maxLen):cI P ρ m nx (.binOp .add t x y p) { pre:=True,val:=.s (.string (a++b)) }
 |Ah (src dst:TypeId) (x:Operand) (l:List Int) (hx:ρ x=.sl (kB l) l.length) (hs:pc P src) (hd:eN P dst=true):cI P ρ m nx (.convert src dst x) { pre:=True,val:=.s (.string (mkStr l)) }
 |Ai (src dst:TypeId) (x:Operand) (l:List Int) (i off:Nat) (cs:List D) (e:TypeId) (hx:ρ x=.rs i off l.length) (hi:m i=some (.cells cs e)) (hl:(cs.drop off).take l.length=kB l) (hs:pc P src) (hd:eN P dst=true):
  cI P ρ m nx (.convert src dst x) { pre:=True,val:=.s (.string (mkStr l)),rd:=[i] }
 |rune (src dst:TypeId) (x:Operand) (k k':IntKind) (n:Int) (hx:ρ x=.s (.int k n)) (hs:P.underlying src=some (.int k')) (hd:eN P dst=true) (h0:0<=n) (h1:n<128):cI P ρ m nx (.convert src dst x) { pre:=True,val:=.s (.string (mkStr [n])) }
 |cut (t:TypeId) (x h c:Operand) (es:List D) (n:Nat) (k:IntKind) (k':IntKind) (hx:ρ x=.sl es n) (hh:ρ h=.s (.int k n)) (hc:ρ c=.s (.int k' n)) (ht:aW P t=true) (hn:n*P.cellsOf (aq P t)=es.length):
  cI P ρ m nx (.slice t x none (some h) (some c)) { pre:=True,val:=.sc es n }
 |xK (c:Call) (s x:Operand) (t:TypeId) (es news:List D) (n k:Nat) (p:Prop) (rd:List Nat) (hc:c={ callee:=.builtin .append,args:= #[s,x],argTypes:= #[t,t] }) (hs:ρ s=.sc es n) (hx:gY m (P.cellsOf (aq P t)) (ρ x)=some (p,rd,k,news)) (hp:p)
  (ht:aW P t=true) (hn:n*P.cellsOf (aq P t)=es.length) (hk:0<k) (hz:0<P.cellsOf (aq P t)) (hm:n+k<=maxLen) (hb:(n+k)*P.bytesOf (aq P t)<=140737488355328):
  cI P ρ m nx (.call c) { pre:=True,val:=.rs nx 0 (n+k),aL:=[(nx,some (.cells (es++news) (aq P t)))],rd:=rd,new:=1 }
 |uQ (c:Call) (s x:Operand) (t u:TypeId) (b:ByteArray) (hc:c={ callee:=.builtin .append,args:= #[s,x],argTypes:= #[t,u] }) (hs:ρ s=.z) (hx:ρ x=.s (.string b)) (ht:pc P t) (hu:eN P u=true) (hm:b.size<=maxLen) (hb:b.size*P.bytesOf (aq P t)<=140737488355328):
  cI P ρ m nx (.call c) { pre:=True,val:=.rs nx 0 b.size,aL:=[(nx,some (.cells (eV b) (aq P t)))],new:=1 }
 |vd (c:Call) (s x:Operand) (t u:TypeId) (b:ByteArray) (i off n:Nat) (cs:List D) (hc:c={ callee:=.builtin .append,args:= #[s,x],argTypes:= #[t,u] }) (hs:ρ s=.rs i off n) (hx:ρ x=.s (.string b)) (hi:m i=some (.cells cs (aq P t))) (ht:pc P t) (hu:eN P u=true)
  (hf:off+n=cs.length) (hm:n+b.size<=maxLen) (hb:(n+b.size)*P.bytesOf (aq P t)<=140737488355328):
  cI P ρ m nx (.call c) { pre:=True,val:=.rs nx 0 (n+b.size),aL:=[(i,none),(nx,some (.cells (cs.drop off++eV b) (aq P t)))],rd:=[i],new:=1 }
 |yd (c:Call) (x:Operand) (t:TypeId) (i:Nat) (es:List (Value×D)) (hc:c={ callee:=.builtin .len,args:= #[x],argTypes:= #[t] }) (hx:ρ x=.mp i) (hi:m i=some (.map es)) (ht:iX P t=true):cI P ρ m nx (.call c) { pre:=True,val:=.s (.int .i64 es.length),rd:=[i] }
 |vr (c:Call) (s:Operand) (t:TypeId) (i off n:Nat) (r:Row) (hc:c={ callee:=.builtin .unsafeSliceData,args:= #[s],argTypes:= #[t] }) (hs:ρ s=.rs i off n) (hi:m i=some r) (hn:0<n):cI P ρ m nx (.call c) { pre:=True,val:=.rp i off,rd:=[i] }
 |vH (c:Call) (p n:Operand) (t u e:TypeId) (l:List Int) (i off:Nat) (cs:List D) (k:IntKind) (hc:c={ callee:=.builtin .unsafeString,args:= #[p,n],argTypes:= #[t,u] }) (hp:ρ p=.rp i off) (hn:ρ n=.s (.int k l.length)) (hi:m i=some (.cells cs e)) (hl:(cs.drop off).take l.length=kB l) (h0:l≠[])
  (ht:P.underlying t=some (.pointer e)) (he:P.cellsOf e=1) (hm:l.length<=maxLen) (hr:∀ x∈l,0<=x/\x<256):cI P ρ m nx (.call c) { pre:=True,val:=.s (.string (mkStr l)),aL:=[(i,none)],rd:=[i] }
 |zW (t:TypeId) (hb:yc t=true) (ht:aB P t=true) (hz:aV P t=[.s (.pointer none),.z]):cI P ρ m nx (.alloc t) { pre:=True,val:=.rp nx 0,aL:=[(nx,some (.bs false .z t))],new:=1 }
 |ye (t:TypeId) (x:Operand) (d:D) (hb:yc t=true) (hx:(ρ x).cells=[.s (.pointer none),d]) (hd:d.one=true) (hs:P.cellsOf t=2):cI P ρ m nx (.box t x) { pre:=True,val:=.rp nx 0,aL:=[(nx,some (.bs false d t))],new:=1 }
 |AX (t:TypeId) (x:Operand) (lo hi:Option Operand) (hx:ρ x=.z) (fJ:eg (lo.map ρ) 0=some 0) (jO:eg (hi.map ρ) 0=some 0) (ht:aW P t=true):cI P ρ m nx (.slice t x lo hi none) { pre:=True,val:=.z }
 |AB (t:TypeId) (x h c:Operand) (k k':IntKind) (hx:ρ x=.z) (hh:ρ h=.s (.int k 0)) (hc:ρ c=.s (.int k' 0)) (ht:aW P t=true):cI P ρ m nx (.slice t x none (some h) (some c)) { pre:=True,val:=.z }
 |AD (t:TypeId) (x h c:Operand) (i off n:Nat) (cs:List D) (e:TypeId) (k k':IntKind) (hx:ρ x=.rs i off n) (hi:m i=some (.cells cs e)) (hh:ρ h=.s (.int k n)) (hc:ρ c=.s (.int k' n)) (ht:aW P t=true) (hl:off+n*P.cellsOf e=cs.length):
  cI P ρ m nx (.slice t x none (some h) (some c)) { pre:=True,val:=.rs i off n,rd:=[i] }
 |yg (b:Bool) (op:BinOp) (t p:TypeId) (x:Operand) (fL:op=if b then .eql else .neq) (hx:ρ x=.z) (ht:aW P t=true):cI P ρ m nx (.binOp op t x (.const (.slice none 0 0)) p) { pre:=True,val:=.s (.bool (true==b)) }
 |yh (b:Bool) (op:BinOp) (t p:TypeId) (x:Operand) (i off n:Nat) (cs:List D) (e:TypeId) (fL:op=if b then .eql else .neq) (hx:ρ x=.rs i off n) (hi:m i=some (.cells cs e)) (hn:0<n) (ht:aW P t=true):
  cI P ρ m nx (.binOp op t x (.const (.slice none 0 0)) p) { pre:=True,val:=.s (.bool (false==b)),rd:=[i] }
 |mkIf (t:TypeId) (x:Operand) (v:Value) (hx:mT (ρ x)=some v) (hv:plain (.iface t v)=true) (ht:wl P t=true):cI P ρ m nx (.makeInterface t x) { pre:=True,val:=.s (.iface t v) }
 |AE (x:Operand) (u t:TypeId) (v:Value) (hx:ρ x=.s v) (hv:MO v=true) (ht:wl P t=true) (ho:aB P t=true) (hz:tU P t=true):cI P ρ m nx (.typeAssert x u t true) { pre:=True,val:=Ag P t v }
 |copy (c:Call) (x y:Operand) (t:TypeId) (i off n k:Nat) (cs news:List D) (p:Prop) (rd:List Nat) (hc:c={ callee:=.builtin .copy,args:= #[x,y],argTypes:= #[t,t] }) (hx:ρ x=.rs i off n) (hi:m i=some (.cells cs (aq P t)))
  (hy:gY m (P.cellsOf (aq P t)) (ρ y)=some (p,rd,k,news)) (hp:p) (ht:aW P t=true) (hk:k<=n) (hl:off+n*P.cellsOf (aq P t)<=cs.length):
  cI P ρ m nx (.call c) { pre:=True,val:=.s (.int .i64 k),aL:=[(i,some (.cells (dL cs off news) (aq P t)))],rd:=i::rd }
 |xL (t:TypeId) (a:Operand) (i:Nat) (u:Bool) (x:D) (T:TypeId) (ha:ρ a=.rp i 1) (hi:m i=some (.bs u x T)) (ht:aB P t=true) (hg:bq P t=false):cI P ρ m nx (.load t a) { pre:=True,val:=x,rd:=[i] }
 |ve (t:TypeId) (a y:Operand) (i:Nat) (u:Bool) (x:D) (T:TypeId) (ha:ρ a=.rp i 1) (hi:m i=some (.bs u x T)) (ht:aB P t=true) (hg:bq P t=false) (hy:(ρ y).one=true):cI P ρ m nx (.store t a y) { pre:=True,val:=.aT [],aL:=[(i,some (.bs u (ρ y) T))],rd:=[i] }
def cV(ρ:Operand->D):Op->Option (FuncId×List D)
 | .call c=>match c.callee with
  | .value f=>match ρ f with
   | .fn (.func k) fs cs=>some (k,fs++c.args.toList.map ρ++cs)
   |_=>none
  |_=>none
 |_=>none
def Rs(F:Nat->Prop)(β:av)(w:World)(ds:List D)(vs:Array Value):Prop:=
 vs.size=ds.length/\∀ (k:Nat) (d:D) (v:Value),ds[k]? =some d->vs[k]? =some v->R F β w d v
def fw:av:=fun _=>none
def owned(F:Nat->Prop)(β:av):Nat->Prop:=fun b=>F b\/¬ β.free b
def Tr(d:D):Prop:=∀ F β w v,R F β w d v->R (owned F β) fw w d v
def D.gL:D->Bool
 | .s _=>true
 | .ub=>true
 | .aT [.s _,.s _]=>true
 | .aT [.s _]=>true
 | .aT []=>true
 |_=>false
def Kept(w w':World):Prop:=w.heap.size<=w'.heap.size/\(∀ b,b<w.heap.size->w'.heap[b]? =w.heap[b]?)/\Out w w'
def jU(P:Program)(f:FuncId):Bool:=match P.funcs[f]? with
 |some fn=> !(fn.name=="runtime.NumGoroutine")&&fn.body.isSome
 |none=>false
def aG(P:Program)(f:FuncId)(args:List D)(r:D):Prop:=
 jU P f=true/\(∀ a∈args,Tr a)/\∀ F w vs,FB F w->Rs F fw w args vs->
  Calls P f vs w fun e w'=>∃ v,e=.returned v/\R F fw w' r v/\Kept w w'
def gC(P:Program)(f:FuncId)(args:List D)(es:List D)(n:Nat)(t:TypeId):Prop:=
 jU P f=true/\(∀ a∈args,Tr a)/\∀ F w vs,FB F w->Rs F fw w args vs->
  Calls P f vs w fun e w'=>∃ v p,e=.returned v/\p≠ .dead/\(∀ b,p.bA=some b->w.heap.size<=b/\b<w'.heap.size)/\
   cx P (fun x=>F x\/p.bA=some x) fw w' (.cells es t) p/\R F (up fw 0 (some p)) w' (.rs 0 0 n) v/\Kept w w'
def dB(P:Program)(f:FuncId)(args:List D)(m:Mem)(nx:Nat)(cB:D->Mem->Nat->Prop):Prop:=
 jU P f=true/\∀ F β w vs,ax P F m β w->(∀ i,nx<=i->β i=none)->Rs F β w args vs->
  Calls P f vs w fun e w'=>∃ v d m' an β',e=.returned v/\cB d m' an/\ax P F m' β' w'/\(∀ i,an<=i->β' i=none)/\R F β' w' d v/\Step β w β' w'/\nx<=an/\∀ i,i<nx->β i=none->β' i=none
def oB(P:Program)(F:Nat->Prop)(J:av)(C:World)(l:Nat)(args:List D)(m:Mem)(nx:Nat)(cB:D->Mem->Nat->Prop):Prop:=
 ∀ β w us,Step J C β w->ax P F m β w->(∀ i,nx<=i->β i=none)->Rs F β w args us->
  ∃ f tmps assign body,(Instr.yield l us).run P w=.ok (.round l f tmps assign body) w/\∀ n,RoundIn Fence.wide n P l f tmps assign body w fun e w'=>
   ∃ v d m' an β',e=.returned v/\cB d m' an/\ax P F m' β' w'/\(∀ i,an<=i->β' i=none)/\R F β' w' d v/\Step β w β' w'/\nx<=an/\∀ i,i<nx->β i=none->β' i=none
def B5(I:Mem->Nat->Prop):Prop:=∀ m nx m' an,I m nx->nx<=an->(∀ i,i<nx->m' i=m i)->I m' an
def QK(I:Nat->Mem->Nat->Prop)(Stop:Mem->Nat->Prop)(k:Nat)(d:D)(m:Mem)(nx:Nat):Prop:=
 (d=.s (.bool true)/\I (k+1) m nx)\/(d=.s (.bool false)/\Stop m nx)
def yj(P:Program)(f:FuncId)(fs cs:List D)(xs:List (List D)):Prop:=
 jU P f=true/\∀ (F:Nat->Prop) (l:Nat) (I:Nat->Mem->Nat->Prop) (Stop:Mem->Nat->Prop) (m:Mem) (nx:Nat) (β:av) (w:World) (vs:Array Value),(∀ k,B5 (I k))->B5 Stop->
  ax P F m β w->(∀ i,nx<=i->β i=none)->Rs F β w (fs++[.fn (.yield l) [] []]++cs) vs->
  (∀ k x m nx,xs[k]? =some x->I k m nx->oB P F β w l x m nx (QK I Stop k))->I 0 m nx->
  Calls P f vs w fun e w'=>∃ v d m' an β',e=.returned v/\(I xs.length m' an\/Stop m' an)/\ax P F m' β' w'/\(∀ i,an<=i->β' i=none)/\R F β' w' d v/\Step β w β' w'/\nx<=an/\∀ i,i<nx->β i=none->β' i=none
abbrev fm:=Nat->List D->Mem->Nat->(D->Mem->Nat->Prop)->Prop
def iu:fm:=fun _ _ _ _ _=>False
def nD(ρ:Operand->D):Op->Option (Nat×List D)
 | .call c=>match c.callee with
  | .value f=>match ρ f with
   | .fn (.yield l) [] []=>some (l,c.args.toList.map ρ)
   |_=>none
  |_=>none
 |_=>none
def Sn(P:Program)(a7:List Nat)(m:Mem)(a a':D):Prop:=
 ∀ F β w v,(∀ i∈a7,∀ r,m i=some r->∃ p,β i=some p/\cx P F β w r p/\∀ b,p.bA=some b->¬ F b)->R F β w a v->R F fw w a' v
def jM(P:Program)(a7:List Nat)(m:Mem):List D->List D->Prop
 |[],[]=>True
 |a::aS,b::bs=>Sn P a7 m a b/\jM P a7 m aS bs
 |_,_=>False
def EA(r:Row):Prop:=∃ cs e,r=.cells cs e/\∀ d∈cs,d.gL=true
def QL(m:Mem)(a7:List Nat)(aL:List (Nat×Option Row))(args:List D):Prop:=
 (∀ i∈a7,∃ r,m i=some r/\EA r)/\(∀ x∈aL,x.1∈a7/\∀ r,x.2=some r->EA r)/\∀ a∈args,Tr a\/∃ i off n,i∈a7/\a=.rs i off n
def only(a7:List Nat)(m:Mem):Mem:=fun i=>if i∈a7 then m i else none
def vf(P:Program)(dr:Bool)(st:St)(f:FuncId)(args:List D)(K:D->Mem->Nat->List Nat->List Nat->Prop):Prop:=
 (∃ r,aG P f args r/\K r st.mem st.nx [] [])\/
 (∃ O a7 r,jM P a7 st.mem args O/\aG P f O r/\r.gL=true/\K r st.mem st.nx a7 [])\/
 (∃ es n t,gC P f args es n t/\K (.rs st.nx 0 n) (up st.mem st.nx (some (.cells es t))) (st.nx+1) [] [st.nx])\/
 (dr=false/\dB P f args st.mem st.nx fun r m nx=>K r m nx [] [])\/
 (∃ r aL a7,(∀ J C,(∀ i∈a7,st.mem i≠none->J i=st.mem i)->dB P f args J C fun r' m' an=>r'=r/\m'=bT J aL/\an=C)/\(∀ i∈aL.map (·.1),i∈a7/\st.mem i≠none)/\K r (bT st.mem aL) st.nx a7 (aL.map (·.1)))\/
 (∃ es n t aL a7,QL st.mem a7 aL args/\(∀ d∈es,d.gL=true)/\(∀ C,dB P f args (only a7 st.mem) C fun r' m' _=>∃ q,C<=q/\r'=.rs q 0 n/\m' q=some (.cells es t)/\∀ i∈a7,m' i=bT st.mem aL i)/\
  K (.rs st.nx 0 n) (up (bT st.mem aL) st.nx (some (.cells es t))) (st.nx+1) a7 (aL.map (·.1)++[st.nx]))
def asks(env:Env)(o:Op):Prop:=match o with
 | .pick c _ _=>(opd env c).ask
 |o=>∀ x∈o.operands.toList,(opd env x).ask
def aZ(env:Env)(o:Op):Operand->D:=match o with
 | .pick _ _ _=>opd env
 |_=>fun x=>(opd env x).core
def jC:D->Bool->Option Bool
 | .s (.bool g),b=>some (g==b)
 | .cu c d,b=>match d with
  | .s (.bool g)=>some (c&&(g==b))
  |_=>bif c then none else some false
 |_,_=>none
abbrev kO:=List (List Nat×List Nat)
def mF(tr:kO)(i j:Nat):Prop:=
 let a:=tr.getD i ([],[])
 let b:=tr.getD j ([],[])
 (∀ x∈a.2,x∉b.1/\x∉b.2)/\∀ x∈b.2,x∉a.1
def tv:D:=.cu false .u
def ju(P:Program)(Y:fm)(ops:Array Oper)(dr:Bool)(o:Oper)(st:St)(K:St->List Nat->List Nat->Prop):Prop:=
 match o.guard with
  |none=>asks st.env o.op/\match cV (aZ st.env o.op) o.op with
   |some (f,args)=>vf P dr st f args fun r m nx rd wr=>K (St.put ⟨st.env,m,nx⟩ o.dst r) rd wr
   |none=>match nD (aZ st.env o.op) o.op with
    |some (l,args)=>dr=false/\Y l args st.mem st.nx fun r m nx=>K (St.put ⟨st.env,m,nx⟩ o.dst r) [] []
    |none=>match aM P o.op (aZ st.env o.op) st.mem st.nx with
     |some e=>e.pre/\K (St.put ⟨st.env,bT st.mem e.aL,st.nx+e.new⟩ o.dst e.val) e.rd (e.aL.map (·.1))
     |none=>False
  |some (j,b)=>match ((ops[j]?).bind (·.dst)).bind fun t=>jC (st.env t) b with
   |none=>False
   |some c=>match cV (aZ st.env o.op) o.op with
    |some (f,args)=>
     (∃ r,(c=true->asks st.env o.op/\aG P f args r)/\K (st.put o.dst (.cu c r)) [] [])\/
     ((c=true->asks st.env o.op/\vf P dr st f args fun r m nx rd wr=>K (St.put ⟨st.env,m,nx⟩ o.dst r) rd wr)/\
      (c=false->K (st.put o.dst tv) [] []))
    |none=>match nD (aZ st.env o.op) o.op with
     |some (l,args)=>(c=true->asks st.env o.op/\dr=false/\Y l args st.mem st.nx fun r m nx=>K (St.put ⟨st.env,m,nx⟩ o.dst r) [] [])/\(c=false->K (st.put o.dst tv) [] [])
     |none=>match aM P o.op (aZ st.env o.op) st.mem st.nx with
      |some e=>if e.aL.isEmpty&&e.new==0 then(c=true->asks st.env o.op/\e.pre)/\K (st.put o.dst (.cu c e.val)) e.rd []
       else(c=true->asks st.env o.op/\e.pre/\K (St.put ⟨st.env,bT st.mem e.aL,st.nx+e.new⟩ o.dst e.val) e.rd (e.aL.map (·.1)))/\
        (c=false->K (st.put o.dst tv) [] [])
      |none=>c=false/\K (st.put o.dst tv) [] []
def goes(ops:Array Oper)(o:Oper)(st:St):Prop:=o.guard=none\/∃ j b,o.guard=some (j,b)/\(((ops[j]?).bind (·.dst)).bind fun t=>jC (st.env t) b)=some true
def Um(P:Program)(ops:Array Oper)(o:Oper)(st:St)(K:St->List Nat->List Nat->Prop):Prop:=
 goes ops o st/\asks st.env o.op/\∃ e,cI P (aZ st.env o.op) st.mem st.nx o.op e/\K (St.put ⟨st.env,bT st.mem e.aL,st.nx+e.new⟩ o.dst e.val) e.rd (e.aL.map (·.1))
def aj(P:Program)(Y:fm)(ops:Array Oper)(dr:Bool)(cf:List (Nat×Nat))(Q:Exit->St->Prop):List Oper->St->kO->Prop
 |[],st,tr=>(∀ q∈cf,mF tr q.1 q.2)/\Q .normal st
 |o::rest,st,tr=>ju P Y ops dr o st (fun st' rd wr=>aj P Y ops dr cf Q rest st' (tr++[(rd,wr)]))\/Um P ops o st fun st' rd wr=>aj P Y ops dr cf Q rest st' (tr++[(rd,wr)])
def cp:Op->Nat
 | .call { callee:=.builtin .len,.. }=>1
 | .call { callee:=.builtin .min,.. }=>0
 | .store .. | .mapUpdate .. | .insert .. | .call _=>2
 | .load .. | .lookup .. | .fieldAddr .. | .indexAddr .. | .slice .. | .nilCheck _ | .convert .. =>1
 | .alloc _ | .box .. | .buildSlice .. | .makeSlice .. | .makeMap .. =>3
 | .binOp .eql .. | .binOp .neq .. =>1
 | .move _ | .assign _ | .pick .. | .build .. | .binOp .. | .unOp .. | .makeFunc .. | .field .. | .index .. | .extract .. =>0
 |_=>2
def Aj(C:List Nat)(o:Oper):Nat:=o.after.toList.foldl (fun s e=>if Region.binds .any e then s||| 2 ^ e.on||| C.getD e.on 0 else s) 0
def dh:List Oper->List Nat->List Nat
 |[],acc=>acc
 |o::r,acc=>dh r (acc++[Aj acc o])
def unordered(bs:List Nat)(n:Nat):List (Nat×Nat):=
 (List.range n).flatMap fun j=>((List.range j).filter fun i=> !(bs.getD j 0).testBit i).map fun i=>(i,j)
def D8(ops:Array Oper)(i j:Nat):Bool:=match ops[i]?,ops[j]? with
 |some x,some y=>x.apart ops y
 |_,_=>true
def EB(ops:Array Oper)(i j:Nat):Bool:=match ops[i]?,ops[j]? with
 |some x,some y=>(cp y.op==1||cp y.op==2)&&cp x.op !=0&& !(cp x.op==1&&cp y.op==1)
 |_,_=>false
def cb(ops:Array Oper):Option (List (Nat×Nat)):=
 let u:=unordered (dh ops.toList []) ops.size
 if(ops.toList.zipIdx.all fun(o,i)=>o.after.toList.all fun e=> !Region.binds .any e||Nat.blt e.on i)&&u.all fun q=>D8 ops q.1 q.2 then
  some (u.filter fun q=>EB ops q.1 q.2)
 else none
def tw(ops:Array Oper):Bool:=Nat.blt 0 ops.size&&(List.range (ops.size - 1)).all fun i=>((dh ops.toList []).getD (ops.size - 1) 0).testBit i
def fW(K:St->Prop)(Q:Exit->St->Prop):Exit->St->Prop
 | .normal,st=>K st
 |e,st=>Q e st
def gA(id:Nat)(Q:Exit->St->Prop):Exit->St->Prop
 | .exit i,st=>if i=id then Q .normal st else Q (.exit i) st
 |e,st=>Q e st
def JZ(Q:Exit->St->Prop):Exit->St->Prop
 | .goto _,_=>False
 |e,st=>Q e st
def c7(i:Nat)(cs:List D)(sz:Nat):D->D
 | .rs j off n=>if j=i then .sl ((cs.drop off).take (n*sz)) n else .rs j off n
 | .rp j off=>if j=i then .pt (cs.drop off) else .rp j off
 |d=>d
def yB(i:Nat)(es:List (Value×D)):D->D
 | .mp j=>if j=i then .im es else .mp j
 |d=>d
def qC(σ:D->D):D->D
 | .agg ds=>.agg (ds.map σ)
 | .cu c d=>.cu c (σ d)
 |d=>σ d
def sub(σ:D->D):D->D
 | .aT ds=>.aT (ds.map (qC σ))
 | .fn f fs ds=>.fn f (fs.map (qC σ)) (ds.map (qC σ))
 |d=>qC σ d
def Row.sub(σ:D->D):Row->Row
 | .cells ds e=>.cells (ds.map (Abs.sub σ)) e
 | .map es=>.map (es.map fun x=>(x.1,Abs.sub σ x.2))
 | .bs u x T=>.bs u (Abs.sub σ x) T
 |r=>r
def Wk(d d':D):Prop:=∀ F β w v,R F β w d v->R F β w d' v
inductive aC(P:Program):St->St->Prop
 |refl (st:St):aC P st st
 |trans {a b c:St} (h:aC P a b) (k:aC P b c):aC P a c
 |forget (env env':Env) (m:Mem) (nx:Nat) (h:∀ t,env' t=env t\/env' t=.u):aC P ⟨env,m,nx⟩ ⟨env',m,nx⟩
 |drop (env:Env) (m m':Mem) (nx:Nat) (h:∀ i,m' i=m i\/m' i=none):aC P ⟨env,m,nx⟩ ⟨env,m',nx⟩
 |freeze (env:Env) (m:Mem) (nx i:Nat) (cs:List D) (e:TypeId) (h:m i=some (.cells cs e)):
  aC P ⟨env,m,nx⟩ ⟨fun t=>sub (c7 i cs (P.cellsOf e)) (env t),fun j=>if j=i then none else(m j).map (Row.sub (c7 i cs (P.cellsOf e))),nx⟩
 |QJ (env:Env) (m:Mem) (nx i:Nat) (es:List (Value×D)) (h:m i=some (.map es)):
  aC P ⟨env,m,nx⟩ ⟨fun t=>sub (yB i es) (env t),fun j=>if j=i then none else(m j).map (Row.sub (yB i es)),nx⟩
 |mE (env:Env) (m:Mem) (nx t:Nat) (e:TypeId) (h:env t=.z):aC P ⟨env,m,nx⟩ ⟨up env t (.rs nx 0 0),up m nx (some (.cells [] e)),nx+1⟩
 |pL (env env':Env) (m m':Mem) (nx:Nat) (h:∀ t,Wk (env t) (env' t)) (hm:∀ i,m' i=m i\/∃ cs cs' e,m i=some (.cells cs e)/\m' i=some (.cells cs' e)/\cs'.length=cs.length/\∀ (k:Nat) (d d':D),cs[k]? =some d->cs'[k]? =some d'->Wk d d'):
  aC P ⟨env,m,nx⟩ ⟨env',m',nx⟩
def td(env:Env):List Tmp->List D->Env
 |t::ts,d::ds=>td (up env t d) ts ds
 |_,_=>env
def ab2(K:St->Prop):Exit->St->Prop
 | .normal,st=>K st
 |_,_=>False
def ac7(env:Env)(C:Mem->Nat->Prop)(Q:Exit->St->Prop):Exit->St->Prop
 | .normal,st=>C st.mem st.nx
 | .ret,st=>Q .ret ⟨env,st.mem,st.nx⟩
 | .exit id,st=>Q (.exit id) ⟨env,st.mem,st.nx⟩
 |_,_=>False
def aec(P:Program)(ops:Array Oper)(Q:Exit->St->Prop):Exit->St->Prop:=fun e st=>e=.normal/\aj P iu ops false [] Q (ops.toList.drop (ops.size - 1)) st []
def Fy(P:Program)(Y:fm)(ops:Array Oper)(cf:List (Nat×Nat))(Q:Exit->St->Prop)(st:St):Prop:=
 aj P Y ops true cf Q ops.toList st []\/(tw ops=true/\aj P iu ops true cf (aec P ops Q) (ops.toList.take (ops.size - 1)) st [])
def AW(P:Program)(Y:fm)(rf:Bool):Code->(Exit->St->Prop)->St->Prop
 | .skip,Q,st=>Q .normal st
 | .region _ ops false,Q,st=>aj P Y ops false [] Q ops.toList st []
 | .region _ ops true,Q,st=>match cb ops with
  |some cf=>Fy P Y ops cf Q st
  |none=>False
 | .seq a b,Q,st=>AW P Y rf a (fW (fun st'=>∃ C,aC P st' C/\AW P Y rf b Q C) Q) st
 | .cond c a b,Q,st=>(opd st.env c).ask/\match (opd st.env c).core with
  | .s (.bool t)=>(t=true->AW P Y rf a Q st)/\(t=false->AW P Y rf b Q st)
  | .ub=>AW P Y rf a Q st/\AW P Y rf b Q st
  |_=>False
 | .block id b,Q,st=>AW P Y rf b (gA id Q) st
 | .scope b,Q,st=>AW P Y rf b (JZ Q) st
 | .loop b,Q,st=>∃ (I:St->Prop) (μ:St->Nat),I st/\∀ st',I st'->AW P Y rf b (fW (fun C=>∃ J,aC P C J/\I J/\μ J<μ st') Q) st'
 | .rangeFunc g ps assign body,Q,st=>rf=true/\(opd st.env g).ask/\∃ f fs cs xs,∃ I:Nat->Mem->Nat->Prop,(opd st.env g).core=.fn (.func f) fs cs/\yj P f fs cs xs/\(∀ x∈xs,x.length=ps.size/\∀ d∈x,Tr d)/\I 0 st.mem st.nx/\
   (∀ k m nx x,xs[k]? =some x->I k m nx->AW P iu false assign (ab2 fun s=>AW P iu false body (ac7 st.env (I (k+1)) Q) s) ⟨td st.env ps.toList x,m,nx⟩)/\
   ∀ m nx,I xs.length m nx->Q .normal ⟨st.env,m,nx⟩
 | .exit id,Q,st=>Q (.exit id) st
 | .label _,Q,st=>Q .normal st
 | .ret,Q,st=>Q .ret st
 |_,_,_=>False
def r6(P:Program)(st:St):ResultVar->Option (Prop×D)
 | .tmp t=>some (True,st.env t)
 | .cell a t=>match st.env a with
  | .rp i off=>match st.mem i with
   |some (.cells cs _)=>some (aB P t=true/\off+P.cellsOf t<=cs.length,jk P t (cs.drop off))
   |_=>none
  | .pt cs=>some (aB P t=true/\P.cellsOf t<=cs.length,jk P t cs)
  |_=>none
def oQ(P:Program)(st:St):List ResultVar->List D->(List D->Prop)->Prop
 |[],acc,K=>K acc
 |r::rs,acc,K=>match r6 P st r with
  |some (p,d)=>p/\oQ P st rs (acc++[d]) K
  |none=>False
def qF:List D->D
 |[d]=>d
 |ds=>.aT ds
def jH(P:Program)(rs:List ResultVar)(K:D->St->Prop):Exit->St->Prop
 | .normal,st=>oQ P st rs [] fun ds=>K (qF ds) st
 | .ret,st=>oQ P st rs [] fun ds=>K (qF ds) st
 |_,_=>False
def jW(args:List D):Env:=fun t=>args.getD t .u
section inv
variable{F:Nat->Prop}{β:av}{w:World}{v:Value}
theorem R.cm{x:Value}(h:R F β w (.s x) v):v=x/\plain x=true:=by cases h;exact⟨rfl,‹_›⟩
theorem R.B3(h:R F β w .ub v):∃ b,v=.bool b:=by cases h;exact⟨_,rfl⟩
theorem R.ym(h:R F β w .z v):v=.slice none 0 0:=by cases h;rfl
theorem R.Ac(h:R F β w .z v):∃ a,v=.slice a 0 0:=⟨_,h.ym⟩
theorem R.qk{cs:List D}(h:R F β w (.agg cs) v):∃ vs:List Value,v=.agg vs.toArray/\vs.length=cs.length/\∀ (k:Nat) (d:D) (u:Value),cs[k]? =some d->vs[k]? =some u->R F β w d u:=by
 cases h with|agg _ vs hl h=>exact⟨vs,rfl,hl,h⟩
theorem R.zD{cs:List D}(h:R F β w (.aT cs) v):∃ vs:List Value,v=.tuple vs.toArray/\vs.length=cs.length/\∀ (k:Nat) (d:D) (u:Value),cs[k]? =some d->vs[k]? =some u->R F β w d u:=by
 cases h with|aT _ vs hl h=>exact⟨vs,rfl,hl,h⟩
theorem R.uO(d:D)(h:R F β w d v)(ha:d.ask):R F β w d.core v:=by
 cases h with
 |cu c d v h h'=>exact h ha
 |u v=>exact .u _
 |s v h=>exact .s _ h
 |ub b=>exact .ub _
 |agg cs vs h h'=>exact .agg _ _ h h'
 |aT cs vs h h'=>exact .aT _ _ h h'
 |z=>exact .z
 |yl i l h=>exact .yl _ _ h
 |AU i v h hv=>exact .AU _ _ h hv
 |gR a c=>exact .gR _ _
 |sc es n a h=>exact .sc _ _ _ h
 |sl es n b o cap us h1 h2 C J O U X=>exact .sl _ _ _ _ _ _ h1 h2 C J O U X
 |pt cs b o us h1 h2 C J O=>exact .pt _ _ _ _ h1 h2 C J O
 |js i off n v h hv=>exact .js _ _ _ _ h hv
 |gu i a h=>exact .gu _ _ h
 |ir i off a b o len room sz h=>exact .ir _ _ _ _ _ _ _ _ h
 |rs i off n cap b o len room sz h h1 h2 C J=>exact .rs _ _ _ _ _ _ _ _ _ h h1 h2 C J
 |qM i off v h hv=>exact .qM _ _ _ h hv
 |rp i off b o len room sz h=>exact .rp _ _ _ _ _ _ _ h
 |yF i v h hv=>exact .yF _ _ h hv
 |mp i r h=>exact .mp _ _ h
 |im es r ms c h1 h2 C J O U X=>exact .im _ _ _ _ h1 h2 C J O U X
 |fn f fs cs us vs h1 h2 C J=>exact .fn _ _ _ _ _ h1 h2 C J
theorem Y9{x:Value}(h:plain x=true):x.oneCell'=true:=by cases x<;>simp_all[plain,Value.oneCell']
theorem R.one{d:D}(h:R F β w d v)(hd:d.one=true):v.oneCell'=true:=by
 cases h<;>first|rfl|assumption|(simp[D.one] at hd;done)|(exact Y9 ‹_›)
theorem R.cells{d:D}(h:R F β w d v)(hd:d.cells.all D.one=true):v.cells.size=d.cells.length/\(∀ (k:Nat) (e:D) (u:Value),d.cells[k]? =some e->v.cells[k]? =some u->R F β w e u/\u.oneCell'=true)/\(∀ u∈v.cells.toList,u.oneCell'=true):=by
 have single:d.cells=[d]->v.cells.size=d.cells.length/\(∀ (k:Nat) (e:D) (u:Value),d.cells[k]? =some e->v.cells[k]? =some u->R F β w e u/\u.oneCell'=true)/\(∀ u∈v.cells.toList,u.oneCell'=true):=fun hs=>by
  have h1:d.one=true:=by simpa[hs] using hd
  have h2:=h.one h1;have J:v.cells= #[v]:=by cases v<;>first|rfl|(simp[Value.oneCell'] at h2;done)
  rw[J,hs];refine⟨rfl,fun k e u hk hu=>?_,fun u hu=>?_⟩
  .cases k with
   |zero=>simp at hk hu;subst hk;subst hu;exact⟨h,h2⟩
   |succ k=>simp at hk
  .simp at hu;subst hu;exact h2
 cases d with
 |agg cs=>
  obtain⟨vs,rfl,hl,hr⟩:=h.qk
  have C:∀ (k:Nat) (u:Value),vs[k]? =some u->u.oneCell'=true:=fun k u hu=>by
   have hk:k<cs.length:=by
    have:=(bU.1 hu).1;omega
   have h1:=hr k cs[k] u (by simp[hk]) hu;exact h1.one (cv.1 hd _ (eE hk))
  refine⟨by simpa[Value.cells,D.cells] using hl,fun k e u hk hu=>?_,fun u hu=>?_⟩
  .simp[Value.cells] at hu;exact⟨hr k e u hk hu,C k u hu⟩
  .simp[Value.cells] at hu;obtain⟨k,hk⟩:=fI hu;exact C k u hk
 |_=>exact single rfl
end inv
section opd
variable{F:Nat->Prop}{β:av}{w:World}
theorem J4(v:Value):R F β w (jq v) v:=by
 unfold jq;split<;>first|exact .u _|exact .s _ rfl|exact .z
theorem aes(v:Value):R F β w (wk v) v:=by
 unfold wk;split
 .rename_i cs
  have:=R.agg (F:=F) (β:=β) (w:=w) (cs.toList.map jq) cs.toList oS (fun k d u hk hu=>by
   simp only[List.getElem?_map,hu,Option.map_some,aH] at hk;subst hk
   exact J4 u)
  simpa using this
 all_goals first|exact .u _|exact .s _ rfl|exact .z
def ez(F:Nat->Prop)(β:av)(w:World)(env:Env)(a:Act):Prop:=∀ t,R F β w (env t) (a.tmps.getD t undef)
theorem ez.opd{env:Env}{a:Act}(h:ez F β w env a)(x:Operand):R F β w (opd env x) (a.eval x):=by
 cases x with
 |tmp t=>exact h t
 |const v=>exact aes v
 |global g=>exact .u _
 |func f=>exact .fn (.func f) [] [] [] [] rfl rfl oS oS
theorem ez.step{β':av}{w':World}{env:Env}{a:Act}(h:ez F β w env a)(hs:Step β w β' w'):ez F β' w' env a:=fun t=>(h t).step hs
theorem ez.put{env:Env}{a:Act}(h:ez F β w env a)(dst:Option Nat)(d:D)(v:Value)(hr:R F β w d v)(hd:∀ t,dst=some t->t<a.tmps.size):
 ez F β w (match dst with|some t=>up env t d|none=>env) (a.put dst v):=by
 cases dst with
 |none=>exact h
 |some t=>
  intro j;have ht:=hd t rfl;by_cases hj:j=t
  .subst hj;simp only[ai,Act.put];simpa[Array.getD_eq_getD_getElem?,ht] using hr
  .simp only[aA _ _ hj,Act.put];have:=h j;simpa[Array.getD_eq_getD_getElem?,Array.getElem?_setIfInBounds_ne (Ne.symm hj)] using this
end opd
section types
variable{P:Program}(w:World)
theorem qd{t:TypeId}(h:aB P t=true):∃ i d z,P.info? t=some i/\P.underlying t=some d/\i.zero=some z/\(bq P t=false->P.cellsOf t=1)/\z.cells.size=P.cellsOf t/\
 aV P t=z.cells.toList.map jq/\i.size=P.cellsOf t/\i.bytes=P.bytesOf t/\(∀ u∈z.cells.toList,(jq u).one=true):=by
 unfold aB at h;simp only[aw,Bool.or_eq_true,beq_iff_eq] at h;obtain⟨⟨h1,h2⟩,C⟩:=h;obtain⟨d,hd⟩:=Option.isSome_iff_exists.1 h1;cases hi:P.info? t with
 |none=>simp[hi] at C
 |some i=>
  cases hz:i.zero with
  |none=>simp[hi,hz] at C
  |some z=>
   simp only[hi,hz,Option.bind_some,aw,beq_iff_eq,cv] at C;refine⟨i,d,z,rfl,hd,hz,fun ha=>?_,C.2,?_,?_,?_,C.1⟩
   .rcases h2 with h2|h2
    .rw[h2] at ha;cases ha
    .exact h2
   .simp[aV,hi,hz]
   .simp[Program.cellsOf,hi]
   .simp[Program.bytesOf,hi]
theorem By{t:TypeId}(h:(P.underlying t).isSome=true):(isAgg t).run P w=.ok (bq P t) w:=by
 obtain⟨d,hd⟩:=Option.isSome_iff_exists.1 h;simp only[isAgg,Sem.run_bind,run_underlying hd,Result.andThen_ok,bq,hd];cases d<;>rfl
theorem fu{t:TypeId}(h:(P.info? t).isSome=true):(sizeOf t).run P w=.ok (P.cellsOf t) w:=by
 obtain⟨i,hi⟩:=Option.isSome_iff_exists.1 h;simp[sizeOf,typeInfo,Program.cellsOf,hi]
theorem fP{t:TypeId}(h:aB P t=true):(P.info? t).isSome=true:=by
 obtain⟨i,_,_,hi,_⟩:=qd h;simp[hi]
theorem zu{t:TypeId}(h:aB P t=true):(P.underlying t).isSome=true:=by
 obtain⟨_,d,_,_,hd,_⟩:=qd h;simp[hd]
theorem wP{t:TypeId}(h:aB P t=true):∃ z,(zeroValue t).run P w=.ok z w/\z.cells.size=P.cellsOf t/\aV P t=z.cells.toList.map jq/\(∀ u∈z.cells.toList,(jq u).one=true):=by
 obtain⟨i,d,z,hi,_,hz,_,h1,h2,_,_,C⟩:=qd h;exact⟨z,by simp[zeroValue,typeInfo,hi,hz],h1,h2,C⟩
theorem ia{t:TypeId}(h:aW P t=true):P.underlying t=some (.slice (aq P t))/\aB P (aq P t)=true:=by
 unfold aW at h;unfold aq;split at h
 .rename_i e he;rw[he];exact⟨rfl,h⟩
 .cases h
theorem I4{t:TypeId}(h:nb P t=true):P.underlying t=some (.array (nM P t) (aq P t))/\aB P (aq P t)=true:=by
 unfold nb at h;unfold aq nM;split at h
 .rename_i e he;rw[he];exact⟨rfl,h⟩
 .cases h
theorem uG{t:TypeId}(h:eN P t=true):P.underlying t=some .string:=by
 unfold eN at h;split at h
 .assumption
 .cases h
end types
def aK(P:Program)(F:Nat->Prop)(m:Mem)(nx:Nat)(β:av)(w:World)(e:cR)(s:Sem Next):Prop:=
 ∃ n v w' β',s.run P w=.ok n w'/\(n=.value v\/(n=.skip/\v=undef))/\R F β' w' e.val v/\ax P F (bT m e.aL) β' w'/\Step β w β' w'/\∀ i,β i=none->(i<nx\/nx+e.new<=i)->β' i=none
section
variable{P:Program}{F:Nat->Prop}{m:Mem}{nx:Nat}{β:av}{w:World}
theorem aK.pure(hm:ax P F m β w){pre:Prop}{d:D}{rd:List Nat}{s:Sem Value}{v:Value}(hr:s.run P w=.ok v w)(h:R F β w d v):
 aK P F m nx β w { pre:=pre,val:=d,rd:=rd } (do Pure.pure (Next.value (<- s))):=
 ⟨.value v,v,w,β,by simp[hr],.inl rfl,h,hm,Step.refl β w,fun _ h _=>h⟩
def Rd(F:Nat->Prop)(β:av)(w:World)(b o:Nat)(cs:List D):Prop:=
 ∃ us:Nat->Value,(∀ k:Nat,k<cs.length->w.cell? ⟨b,o+k,none⟩=some (us k)/\(us k).oneCell'=true)/\∀ (k:Nat) (d:D),cs[k]? =some d->R F β w d (us k)
theorem Rd.drop{b o:Nat}{cs:List D}(h:Rd F β w b o cs)(k:Nat):Rd F β w b (o+k) (cs.drop k):=by
 obtain⟨us,h1,h2⟩:=h;refine⟨fun j=>us (k+j),fun j hj=>?_,fun j d hj=>?_⟩
 .have:=h1 (k+j) (by simp at hj;omega);rw[<- Nat.add_assoc] at this;exact this
 .exact h2 (k+j) d (by simpa[List.getElem?_drop] using hj)
theorem Rd.take{b o:Nat}{cs:List D}(h:Rd F β w b o cs)(k:Nat):Rd F β w b o (cs.take k):=by
 obtain⟨us,h1,h2⟩:=h;refine⟨us,fun j hj=>h1 j (by simp at hj;omega),fun j d hj=>h2 j d ?_⟩;rw[List.getElem?_take] at hj;split at hj
 .exact hj
 .cases hj
theorem cx.rd{cs:List D}{e:TypeId}{b o len room sz:Nat}(h:cx P F β w (.cells cs e) (.cells b o len room sz)):Rd F β w b o cs/\len=cs.length/\sz=P.cellsOf e/\len<=room:=by
 cases h with
 |cells _ _ _ _ _ _ c hc hr hlen br hh=>
  refine⟨⟨fun k=>(c[o+k]?).getD undef,fun k hk=>?_,fun k d hk=>?_⟩,rfl,br,hlen⟩
  .have:o+k<c.size:=by omega
   obtain⟨v,h1,_,C⟩:=hh k cs[k] (by simp[hk]);exact⟨by simp[World.cell?,hc,h1],by simpa[h1] using C⟩
  .obtain⟨v,h1,h2,_⟩:=hh k d hk;simpa[h1] using h2
theorem R.FE{cs:List D}{v:Value}(h:R F β w (.pt cs) v):∃ b o,v=.pointer (some ⟨b,o,none⟩)/\¬ F b/\β.free b/\b<w.heap.size/\Rd F β w b o cs:=by
 cases h with|pt _ b o us h1 h2 h3 h4 h5=>exact⟨b,o,rfl,h1,h2,h3,us,h4,h5⟩
theorem R.S4{cs:List D}{b o:Nat}(h1:¬ F b)(h2:β.free b)(C:b<w.heap.size)(h:Rd F β w b o cs):R F β w (.pt cs) (.pointer (some ⟨b,o,none⟩)):=by
 obtain⟨us,J,O⟩:=h;exact .pt cs b o us h1 h2 C J O
theorem R.FD(hm:ax P F m β w){i off:Nat}{cs:List D}{e:TypeId}{v:Value}(h:R F β w (.rp i off) v)(hi:m i=some (.cells cs e)):
 ∃ b o room sz,β i=some (.cells b o cs.length room sz)/\v=.pointer (some ⟨b,o+off,none⟩)/\cx P F β w (.cells cs e) (.cells b o cs.length room sz):=by
 obtain⟨p,hp,af⟩:=hm.row i _ hi;cases h with
 |qM _ _ _ h _=>
  rw[h] at hp;cases hp;cases af
 |rp _ _ b o len room sz h=>
  rw[h] at hp;cases hp;obtain⟨_,h2,_,_⟩:=af.rd;subst h2;exact⟨b,o,room,sz,h,rfl,af⟩
theorem D2{t:TypeId}(ht:aB P t=true){b o:Nat}{cs:List D}(h:Rd F β w b o cs)(hl:P.cellsOf t<=cs.length):
 ∃ v,(loadVar t ⟨b,o,none⟩).run P w=.ok v w/\R F β w (jk P t cs) v:=by
 obtain⟨us,h1,h2⟩:=h;obtain⟨i,d,z,hi,hd,hz,C,_⟩:=qd ht;unfold loadVar jk;simp only[Sem.run_bind,By w (zu ht),Result.andThen_ok];cases ha:bq P t with
 |true=>
  have hc:=run_loadCells (P:=P) w ⟨b,o,none⟩ (P.cellsOf t) us (fun j hj=>by rw[Addr.add_lit];exact(h1 j oG).1);refine⟨_,by simp[fu w (fP ht),hc];rfl,?_⟩;refine .agg _ _ oP fun k d v hk hv=>?_;simp only[List.getElem?_map] at hv;rw[List.getElem?_take] at hk;split at hk
  .rename_i ag;have:(List.range (P.cellsOf t))[k]? =some k:=by simp[ag]
   rw[this] at hv;simp at hv;subst hv;exact h2 k d hk
  .cases hk
 |false=>
  have J:=C ha;have h0:=(h1 0 oG).1;rw[Nat.add_zero] at h0;refine⟨us 0,by simp[h0],?_⟩;cases cs with
  |nil=>simp at hl;omega
  |cons d ds=>exact h2 0 d rfl
theorem XP(hm:ax P F m β w){t:TypeId}{cs:List D}{v:Value}{pre:Prop}(h:R F β w (.pt cs) v)(ht:aB P t=true)(hl:P.cellsOf t<=cs.length):
 aK P F m nx β w { pre:=pre,val:=jk P t cs } (do Pure.pure (Next.value (<- Instr.loadAt t v))):=by
 obtain⟨b,o,rfl,_,_,_,C⟩:=h.FE;obtain⟨u,hu,hr⟩:=D2 ht C hl;exact aK.pure hm (by simp[Instr.loadAt,Instr.sureAddr,hu]) hr
theorem XQ(hm:ax P F m β w){t:TypeId}{i off:Nat}{cs:List D}{e:TypeId}{v:Value}{pre:Prop}{rd:List Nat}(h:R F β w (.rp i off) v)(hi:m i=some (.cells cs e))
 (ht:aB P t=true) (hl:off+P.cellsOf t<=cs.length):
 aK P F m nx β w { pre:=pre,val:=jk P t (cs.drop off),rd:=rd } (do Pure.pure (Next.value (<- Instr.loadAt t v))):=by
 obtain⟨b,o,room,sz,C,rfl,af⟩:=h.FD hm hi;obtain⟨u,hu,hr⟩:=D2 ht (af.rd.1.drop off) oP;exact aK.pure hm (by simp[Instr.loadAt,Instr.sureAddr,hu]) hr
theorem IE{cs:List D}{off:Nat}{xs:List D}(h:off+xs.length<=cs.length):dL cs off xs=cs.take off++xs++cs.drop (off+xs.length):=by
 unfold dL;split
 .rename_i x;simp at h;rw[List.set_eq_take_append_cons_drop,if_pos oG];simp
 .rfl
theorem H5{cs:List D}{off:Nat}{xs:List D}(h:off+xs.length<=cs.length):(dL cs off xs).length=cs.length:=by
 rw[IE h];simp;omega
theorem OL{cs:List D}{off:Nat}{xs:List D}(h:off+xs.length<=cs.length)(k:Nat):(dL cs off xs)[k]? =if k<off then cs[k]? else if k<off+xs.length then xs[k - off]? else cs[k]? :=by
 rw[IE h];by_cases h1:k<off
 .rw[if_pos h1,List.append_assoc,List.getElem?_append_left oP,List.getElem?_take,if_pos h1]
 .rw[if_neg h1];by_cases h2:k<off+xs.length
  .rw[if_pos h2,List.append_assoc,List.getElem?_append_right oP,List.length_take,Nat.min_eq_left oG,List.getElem?_append_left oG]
  .rw[if_neg h2,List.getElem?_append_right oP,List.length_append,List.length_take,Nat.min_eq_left oG,List.getElem?_drop];congr 1;omega
theorem D4(c:List Value)(off:Nat)(xs:List Value)(h:off+xs.length<=c.length)(k:Nat):(c.take off++xs++c.drop (off+xs.length))[k]? =if k<off then c[k]? else if k<off+xs.length then xs[k - off]? else c[k]? :=by
 by_cases h1:k<off
 .rw[if_pos h1,List.append_assoc,List.getElem?_append_left oP,List.getElem?_take,if_pos h1]
 .rw[if_neg h1];by_cases h2:k<off+xs.length
  .rw[if_pos h2,List.append_assoc,List.getElem?_append_right oP,List.length_take,Nat.min_eq_left oG,List.getElem?_append_left oG]
  .rw[if_neg h2,List.getElem?_append_right oP,List.length_append,List.length_take,Nat.min_eq_left oG,List.getElem?_drop];congr 1;omega
theorem H'(hm:ax P F m β w){i off:Nat}{cs:List D}{e:TypeId}{b o room sz:Nat}(hβ:β i=some (.cells b o cs.length room sz))(af:cx P F β w (.cells cs e) (.cells b o cs.length room sz))
 {ds:List D} {vs:List Value} (hlen:vs.length=ds.length) (mU:off+ds.length<=cs.length) (h1:∀ u∈vs,u.oneCell'=true) (hr:∀ (k:Nat) (d:D) (u:Value),ds[k]? =some d->vs[k]? =some u->R F β w d u):
 ∃ w',(storeCells ⟨b,o+off,none⟩ vs).run P w=.ok () w'/\ax P F (up m i (some (.cells (dL cs off ds) e))) β w'/\Step β w β w':=by
 cases af with
 |cells _ _ _ _ _ _ c hc rO hle br hh=>
 have U:=run_storeCells_at P b (o+off) e vs 0 c w hc oG h1;simp only[Nat.add_zero] at U;have oD:=setRow_heap w b c (c.toList.take (o+off)++vs++c.toList.drop (o+off+vs.length)).toArray e (0,0) hc
 have hs:Step β w β (w.setRow b (c.toList.take (o+off)++vs++c.toList.drop (o+off+vs.length)).toArray):=
  Bv hm hβ rfl oS fun k hk=>setRow_other w b k _ hk
 refine⟨_,U,hm.write hβ rfl oS (fun k hk=>setRow_other w b k _ hk) _ ?_,hs⟩;have hl:=H5 (cs:=cs) (off:=off) (xs:=ds) oG
 have Ge:(c.toList.take (o+off)++vs++c.toList.drop (o+off+vs.length)).toArray.size=c.size:=by
  simp only[List.size_toArray,List.length_append,List.length_take,List.length_drop,Array.length_toList];omega
 have key:=cx.cells (P:=P) (F:=F) (β:=β) (w:=w.setRow b (c.toList.take (o+off)++vs++c.toList.drop (o+off+vs.length)).toArray) (dL cs off ds) e b o room sz _ oD (by rw[Ge];exact rO) oG br (fun k d hk=>by
  rw[OL oG] at hk;have hv:=D4 c.toList (o+off) vs oP (o+k);simp only[List.getElem?_toArray];by_cases h2:k<off
  .rw[if_pos h2] at hk;rw[if_pos oG] at hv;obtain⟨u,O,C,J⟩:=hh k d hk;exact⟨u,by rw[hv];simpa using O,C.step hs,J⟩
  .rw[if_neg h2] at hk;rw[if_neg oG] at hv;by_cases X:k<off+ds.length
   .rw[if_pos X] at hk;rw[if_pos oG] at hv;have ag:k - off<vs.length:=by omega
    refine⟨vs[k - off],by rw[hv,show o+k - (o+off)=k - off from by omega];simp[ag],?_,h1 _ (eE ag)⟩;exact(hr (k - off) d vs[k - off] hk (by simp[ag])).step hs
   .rw[if_neg X] at hk;rw[if_neg oG] at hv;obtain⟨u,O,C,J⟩:=hh k d hk
    exact⟨u,by rw[hv];simpa using O,C.step hs,J⟩)
 rw[hl] at key;exact key
theorem Y'(hm:ax P F m β w){t:TypeId}{i off:Nat}{cs:List D}{e:TypeId}{a x:Value}{d:D}{pre:Prop}{rd:List Nat}(h:R F β w (.rp i off) a)(hx:R F β w d x)(hi:m i=some (.cells cs e))
 (ht:aB P t=true) (hlen:d.cells.length=P.cellsOf t) (hl:off+P.cellsOf t<=cs.length) (h1:d.cells.all D.one=true):
 aK P F m nx β w { pre:=pre,val:=.aT [],aL:=[(i,some (.cells (dL cs off d.cells) e))],rd:=rd } (do Instr.storeAt t a x;Pure.pure Next.skip):=by
 obtain⟨b,o,room,sz,X,rfl,af⟩:=h.FD hm hi;obtain⟨J,O,c3⟩:=hx.cells h1;obtain⟨w',C,U,hs⟩:=H' (P:=P) hm X af (off:=off) (ds:=d.cells) (vs:=x.cells.toList) (by simpa using J) oG c3 (fun k d' u hk hu=>(O k d' u hk (by simpa using hu)).1);refine⟨.skip,undef,w',β,?_,.inr ⟨rfl,rfl⟩,.aT [] [] rfl oS,U,hs,fun _ h _=>h⟩;have br:x.cells.size=P.cellsOf t:=by omega
 simp[Instr.storeAt,Instr.sureAddr,storeVar,fu w (fP ht),br,C]
theorem BU(hm:ax P F m β w)(hn:β nx=none){cs:List D}{c:List Value}{e:TypeId}(hl:c.length=cs.length)(h1:∀ (k:Nat) (d:D) (u:Value),cs[k]? =some d->c[k]? =some u->R F β w d u/\u.oneCell'=true)(C:List Value):
 ax P F (up m nx (some (.cells cs e))) (up β nx (some (.cells w.heap.size 0 cs.length (cs.length+C.length) (P.cellsOf e)))) (w.alloc (.cells (c++C).toArray e))/\
 Step β w (up β nx (some (.cells w.heap.size 0 cs.length (cs.length+C.length) (P.cellsOf e)))) (w.alloc (.cells (c++C).toArray e)):=by
 have hs:=zh hm (.cells (c++C).toArray e) hn (.cells w.heap.size 0 cs.length (cs.length+C.length) (P.cellsOf e)) (fun b hb=>by simp[Pl.bA] at hb;exact hb.symm);refine⟨hm.alloc hn _ _ _ (fun b hb=>by simp[Pl.bA] at hb;exact hb.symm) ?_,hs⟩;refine .cells cs e w.heap.size 0 _ _ (c++C).toArray (heap_alloc_new w _) oP oG rfl fun k d hk=>?_;have U:k<cs.length:=(bU.1 hk).1;have J:k<c.length:=by omega
 obtain⟨h2,O⟩:=h1 k d c[k] hk (by simp[J]);refine⟨c[k],?_,h2.step hs,O⟩;rw[Nat.zero_add,List.getElem?_toArray,List.getElem?_append_left J];simp[J]
theorem uH{p:Pl}:∀ i,β i=none->(i<nx\/nx+1<=i)->up β nx (some p) i=none:=fun i h hi=>by
 rw[aA _ _ oG];exact h
theorem Bz(t:TypeId)(v:Value):(newVar t v).run P w=.ok ⟨w.heap.size,0,none⟩ (w.alloc (.cells v.cells t)):=by
 simp[newVar,newRow]
theorem ace(hm:ax P F m β w)(hn:β nx=none){t:TypeId}{d:D}{v:Value}{pre:Prop}(h:R F β w d v)(h1:d.cells.all D.one=true):
 aK P F m nx β w { pre:=pre,val:=.rp nx 0,aL:=[(nx,some (.cells d.cells t))],new:=1 } (do Pure.pure (Next.value (<- Instr.box t v))):=by
 obtain⟨J,O,c3⟩:=h.cells h1;obtain⟨h2,C⟩:=BU hm hn (cs:=d.cells) (c:=v.cells.toList) (e:=t) (by simpa using J) (fun k e u hk hu=>O k e u hk (by simpa using hu)) [];simp only[List.append_nil,Array.toArray_toList] at h2 C;refine⟨_,_,_,_,by simp[Instr.box,Bz];rfl,.inl rfl,?_,h2,C,uH⟩;exact .rp nx 0 w.heap.size 0 _ _ _ (ai _ _ _)
theorem xA{z:Value}{t:TypeId}(hz:aV P t=z.cells.toList.map jq)(C:∀ u∈z.cells.toList,(jq u).one=true):
 z.cells.toList.length=(aV P t).length/\∀ (k:Nat) (d:D) (u:Value),(aV P t)[k]? =some d->z.cells.toList[k]? =some u->R F β w d u/\u.oneCell'=true:=by
 rw[hz];refine⟨oS,fun k d u hk hu=>?_⟩;rw[List.getElem?_map,hu] at hk;simp only[Option.map_some,aH] at hk;subst hk;have:=J4 (F:=F) (β:=β) (w:=w) u;exact⟨this,this.one (C u (cX hu))⟩
theorem Za(hm:ax P F m β w)(hn:β nx=none){t:TypeId}{pre:Prop}(ht:aB P t=true):
 aK P F m nx β w { pre:=pre,val:=.rp nx 0,aL:=[(nx,some (.cells (aV P t) t))],new:=1 } (do Pure.pure (Next.value (<- Instr.alloc t true (.tuple #[])))):=by
 obtain⟨z,hz,_,X,h4⟩:=wP (P:=P) w ht;obtain⟨O,U⟩:=xA (F:=F) (β:=β) (w:=w) X h4;obtain⟨C,J⟩:=BU hm hn (cs:=aV P t) (c:=z.cells.toList) (e:=t) O U [];simp only[List.append_nil,Array.toArray_toList] at C J;refine⟨_,_,_,_,by simp[Instr.alloc,hz,Bz];rfl,.inl rfl,?_,C,J,uH⟩;exact .rp nx 0 w.heap.size 0 _ _ _ (ai _ _ _)
end
section
variable{P:Program}{F:Nat->Prop}{m:Mem}{nx:Nat}{β:av}{w:World}
def Rl(F:Nat->Prop)(β:av)(w:World)(cs:List D)(c:List Value):Prop:=
 c.length=cs.length/\∀ (k:Nat) (d:D) (u:Value),cs[k]? =some d->c[k]? =some u->R F β w d u/\u.oneCell'=true
theorem Pa(off:Nat):∀ (l:List Value) (j:Nat) (cells:Array Value) (k:Nat),off+j+l.length<=cells.size->
 ((l.zipIdx j).foldl (fun cs (c,j)=>cs.setIfInBounds (off+j) c) cells)[k]? =if k<off+j then cells[k]? else if k<off+j+l.length then l[k - (off+j)]? else cells[k]?
 |[],j,cells,k,_=>by
  simp only[List.zipIdx_nil,List.foldl_nil,List.length_nil,Nat.add_zero];split
  .rfl
  .rfl
 |v::l,j,cells,k,h=>by
  simp only[List.zipIdx_cons,List.foldl_cons];simp at h;rw[Pa off l (j+1) _ k oP];simp only[List.length_cons];by_cases h1:k<off+j
  .rw[if_pos oG,if_pos h1,Array.getElem?_setIfInBounds_ne oG]
  .rw[if_neg h1];by_cases h2:k=off+j
   .subst h2;rw[if_pos oG,if_pos oG];have:off+j<cells.size:=by omega
    simp[this]
   .rw[if_neg oG];by_cases C:k<off+(j+1)+l.length
    .rw[if_pos C,if_pos oG,show k - (off+j)=(k - (off+(j+1)))+1 from by omega];simp
    .rw[if_neg C,if_neg oG,Array.getElem?_setIfInBounds_ne oG]
theorem XR(off:Nat)(l:List Value)(cells:Array Value)(h:off+l.length<=cells.size):
 (l.zipIdx.foldl (fun cs (c,j)=>cs.setIfInBounds (off+j) c) cells).toList=cells.toList.take off++l++cells.toList.drop (off+l.length):=by
 apply List.ext_getElem?;intro k;rw[D4 _ _ _ (by simpa using h) k];have:=Pa off l 0 cells k (by simpa using h);simpa using this
theorem FH(place:Nat->Option (Nat×Nat)):∀ (ps:List (Nat×D)) (C:List (Nat×Value)) (cs:List D) (c:Array Value) (cs':List D),Rl F β w cs c.toList->ps.length=C.length->
 (∀ (k:Nat) (p:Nat×D) (q:Nat×Value),ps[k]? =some p->C[k]? =some q->p.1=q.1/\R F β w p.2 q.2)->iU place cs ps=some cs'->∃ c',Instr.fill place c C=some c'/\Rl F β w cs' c'.toList
 |[],[],cs,c,cs',h,_,_,hf=>by
  simp only[iU,aH] at hf;subst hf;exact⟨c,rfl,h⟩
 |[],_::_,_,_,_,_,hl,_,_=>by simp at hl
 |_::_,[],_,_,_,_,hl,_,_=>by simp at hl
 |(i,d)::ps,(i',v)::C,cs,c,cs',h,hl,hp,hf=>by
  obtain⟨h1,h2⟩:=hp 0 _ _ rfl rfl;simp only at h1 h2;subst h1;simp only[iU] at hf;cases X:place i with
  |none=>simp[X] at hf
  |some q=>
   obtain⟨off,size⟩:=q;simp only[X] at hf;split at hf
   .rename_i hc;obtain⟨ua,qT,U⟩:=hc;obtain⟨k1,k2,k3⟩:=h2.cells U;have cg:=h.1;simp at cg
    have J:¬ (v.cells.size≠size||off+v.cells.size>c.size)=true:=by
     simp;omega
    simp only[Instr.fill,X];rw[if_neg J];have O:=XR off v.cells.toList c oP
    have lT:v.cells.zipIdx.foldl (fun cs (c,j)=>cs.setIfInBounds (off+j) c) c=(v.cells.toList.zipIdx.foldl (fun cs (c,j)=>cs.setIfInBounds (off+j) c) c):=by
     rw[<- Array.foldl_toList];simp
    rw[lT];refine FH place ps C (dL cs off d.cells) _ cs' ?_ (by simpa using hl) (fun k p q hk hq=>hp (k+1) p q hk hq) hf;rw[O];refine⟨?_,fun k e u hk hu=>?_⟩
    .rw[H5 oG];simp;omega
    .rw[OL oG] at hk;rw[D4 _ _ _ oP] at hu;simp only[Array.length_toList] at hu;by_cases g1:k<off
     .rw[if_pos g1] at hk hu;exact h.2 k e u hk hu
     .rw[if_neg g1] at hk hu;by_cases g2:k<off+d.cells.length
      .rw[if_pos g2] at hk;rw[if_pos oG] at hu;exact k2 (k - off) e u hk (by simpa using hu)
      .rw[if_neg g2] at hk;rw[if_neg oG] at hu;exact h.2 k e u hk hu
   .cases hf
theorem P8(z:List D)(hz:0<z.length):∀ (n k:Nat),k<n*z.length->(dq n z)[k]? =z[k % z.length]?
 |0,k,h=>by simp at h
 |n+1,k,h=>by
  have e:dq (n+1) z=z++dq n z:=by simp[dq,List.replicate_succ]
  rw[e];by_cases hk:k<z.length
  .rw[List.getElem?_append_left hk,Nat.mod_eq_of_lt hk]
  .rw[List.getElem?_append_right oG,P8 z hz n (k - z.length) (by rw[Nat.add_mul] at h;omega)];rw[<- Nat.mod_eq_sub_mod oG]
theorem Bu(n:Nat)(z:List D):(dq n z).length=n*z.length:=by
 simp[dq,List.length_flatten]
theorem Jw{t:TypeId}{z:Value}(hs:z.cells.size=P.cellsOf t)(hz:aV P t=z.cells.toList.map jq)(lB:∀ u∈z.cells.toList,(jq u).one=true)(n N:Nat)(J:N=n*P.cellsOf t)(zero:Array Value)(hzero:0<N->zero=z.cells):
 Rl F β w (dq n (aV P t)) ((Array.range N).map (zero[· % zero.size]!)).toList:=by
 obtain⟨O,U⟩:=xA (F:=F) (β:=β) (w:=w) hz lB;have hlen:(aV P t).length=P.cellsOf t:=by rw[<- O];simpa using hs
 refine⟨by simp[Bu,hlen,J],fun k d u hk hu=>?_⟩
 have ag:k<N:=by
  have:=(bU.1 hk).1;rw[Bu,hlen] at this;omega
 have X:0<N:=by omega
 have C:=hzero X;subst C
 have h0:0<P.cellsOf t:=by
  rcases Nat.eq_zero_or_pos (P.cellsOf t) with h|h
  .rw[h] at J;omega
  .exact h
 rw[P8 _ oG n k (by rw[hlen];omega),hlen] at hk;simp[ag] at hu;have hm:k % P.cellsOf t<z.cells.size:=by rw[hs];exact Nat.mod_lt _ h0
 refine U (k % P.cellsOf t) d u hk ?_;rw[<- hu,hs];simp[hm]
theorem W3(hm:ax P F m β w){t:TypeId}{fs:Array Field}{ps:List (Nat×D)}{C:Array (Nat×Value)}{cs':List D}{pre:Prop}(ht:aB P t=true)(hu:P.underlying t=some (.struct fs))(O:fs.toList.all (fun f=>(P.info? f.type).isSome)=true)
 (hl:ps.length=C.size) (hp:∀ (k:Nat) (p:Nat×D) (q:Nat×Value),ps[k]? =some p->C[k]? =some q->p.1=q.1/\R F β w p.2 q.2)
 (hf:iU (fun i=>(fs[i]?).map fun f=>(f.offset,P.cellsOf f.type)) (aV P t) ps=some cs'):
 aK P F m nx β w { pre:=pre,val:=.agg cs' } (do Pure.pure (Next.value (<- Instr.build t C))):=by
 obtain⟨z,hz,jf,h3,h4⟩:=wP (P:=P) w ht;obtain⟨U,X⟩:=xA (F:=F) (β:=β) (w:=w) h3 h4
 have J:(fs.mapM fun f=>(do pure (f.offset, <- sizeOf f.type):Sem (Nat×Nat))).run P w=.ok (fs.map fun f=>(f.offset,P.cellsOf f.type)) w:=by
  rw[Array.mapM_eq_mapM_toList]
  have key:∀ l:List Field,l.all (fun f=>(P.info? f.type).isSome)=true->(l.mapM fun f=>(Prod.mk f.offset<$>sizeOf f.type:Sem (Nat×Nat))).run P w=.ok (l.map fun f=>(f.offset,P.cellsOf f.type)) w:=by
   intro l
   induction l with
   |nil=>intro _;simp
   |cons f l ih=>
    intro hl;simp only[List.all_cons,aw] at hl;simp[List.mapM_cons,fu w hl.1,ih hl.2]
  simp[key fs.toList O, <- Array.toList_map]
 obtain⟨c',vt,hR⟩:=FH (F:=F) (β:=β) (w:=w) (fun i=>(fs.map fun f=>(f.offset,P.cellsOf f.type))[i]?) ps C.toList (aV P t) z.cells cs' ⟨U,X⟩ (by simpa using hl) (fun k p q hk hq=>hp k p q hk (by simpa using hq)) (by
  rw[<- hf];congr 1;funext i
  simp[Array.getElem?_map])
 refine aK.pure hm (v:=.agg c') ?_ ?_
 .simp only[Instr.build,Sem.run_bind,hz,Result.andThen_ok,run_underlying hu,J,vt,Sem.run_pure]
 .have:=R.agg (F:=F) (β:=β) (w:=w) cs' c'.toList hR.1 (fun k d v hk hv=>(hR.2 k d v hk hv).1);simpa using this
theorem Xb(hm:ax P F m β w){t e:TypeId}{n:Nat}{ps:List (Nat×D)}{C:Array (Nat×Value)}{cs':List D}{pre:Prop}(ht:aB P t=true)(hu:P.underlying t=some (.array n e))(he:aB P e=true)
 (hl:ps.length=C.size) (hp:∀ (k:Nat) (p:Nat×D) (q:Nat×Value),ps[k]? =some p->C[k]? =some q->p.1=q.1/\R F β w p.2 q.2)
 (hf:iU (fun i=>some (i*P.cellsOf e,P.cellsOf e)) (aV P t) ps=some cs'):
 aK P F m nx β w { pre:=pre,val:=.agg cs' } (do Pure.pure (Next.value (<- Instr.build t C))):=by
 obtain⟨z,hz,jf,U,X⟩:=wP (P:=P) w ht;obtain⟨J,O⟩:=xA (F:=F) (β:=β) (w:=w) U X;obtain⟨c',vt,hR⟩:=FH (F:=F) (β:=β) (w:=w) _ ps C.toList (aV P t) z.cells cs' ⟨J,O⟩ (by simpa using hl) (fun k p q hk hq=>hp k p q hk (by simpa using hq)) hf;refine aK.pure hm (v:=.agg c') ?_ ?_
 .simp only[Instr.build,Sem.run_bind,hz,Result.andThen_ok,run_underlying hu,fu w (fP he),vt,Sem.run_pure]
 .have:=R.agg (F:=F) (β:=β) (w:=w) cs' c'.toList hR.1 (fun k d v hk hv=>(hR.2 k d v hk hv).1);simpa using this
theorem Xf(hm:ax P F m β w)(hn:β nx=none){t:TypeId}{n:Nat}{ps:List (Nat×D)}{C:Array (Nat×Value)}{cs':List D}{pre:Prop}(ht:aW P t=true)(h24:n*P.cellsOf (aq P t)<=2 ^ 24)(cW:n<=maxLen)
 (hl:ps.length=C.size) (hp:∀ (k:Nat) (p:Nat×D) (q:Nat×Value),ps[k]? =some p->C[k]? =some q->p.1=q.1/\R F β w p.2 q.2)
 (hf:iU (fun i=>some (i*P.cellsOf (aq P t),P.cellsOf (aq P t))) (dq n (aV P (aq P t))) ps=some cs'):
 aK P F m nx β w { pre:=pre,val:=.rs nx 0 n,aL:=[(nx,some (.cells cs' (aq P t)))],new:=1 } (do Pure.pure (Next.value (<- Instr.buildSlice t n C))):=by
 obtain⟨hu,he⟩:=ia ht;obtain⟨z,hz,jf,O,h4⟩:=wP (P:=P) w he;have Dl:=Jw (F:=F) (β:=β) (w:=w) (P:=P) jf O h4 n (n*P.cellsOf (aq P t)) rfl (if n*P.cellsOf (aq P t)=0 then #[] else z.cells) (fun h=>by rw[if_neg oG]);obtain⟨c',J,hR⟩:=FH (F:=F) (β:=β) (w:=w) _ ps C.toList _ _ cs' Dl (by simpa using hl) (fun k p q hk hq=>hp k p q hk (by simpa using hq)) hf;obtain⟨U,X⟩:=BU hm hn (cs:=cs') (c:=c'.toList) (e:=aq P t) hR.1 hR.2 [];simp only[List.append_nil,Array.toArray_toList,List.length_nil,Nat.add_zero] at U X
 have pX:(if n*P.cellsOf (aq P t)=0 then Result.ok #[] w else Result.ok z.cells w)=.ok (if n*P.cellsOf (aq P t)=0 then #[] else z.cells) w:=by
  split<;>rfl
 have cK:(Instr.buildSlice t n C).run P w=.ok (.slice (some ⟨w.heap.size,0,none⟩) n n) (w.alloc (.cells c' (aq P t))):=by
  unfold Instr.buildSlice;simp only[Sem.run_bind,run_underlying hu,Result.andThen_ok,fu w (fP he),Sem.run_ite,if_neg (show ¬ n*P.cellsOf (aq P t)>2 ^ 24 by omega)];by_cases sy:n*P.cellsOf (aq P t)=0
  .simp only[sy,↓reduceIte] at J ⊢;simp only[Sem.run_bind,Sem.run_pure,Result.andThen_ok,J];simp[newRow]
  .simp only[sy,↓reduceIte] at J ⊢;simp[J,newRow,hz]
 have cg:cs'.length=n*P.cellsOf (aq P t):=by
  have nW:∀ (place:Nat->Option (Nat×Nat)) (ps:List (Nat×D)) (cs cs':List D),iU place cs ps=some cs'->cs'.length=cs.length:=by
   intro place ps
   induction ps with
   |nil=>intro cs cs' h;simp only[iU,aH] at h;rw[h]
   |cons p ps ih=>
    intro cs cs' h;obtain⟨i,d⟩:=p;simp only[iU] at h;split at h
    .cases h
    .split at h
     .rename_i hc;rw[ih _ _ h,H5 oG]
     .cases h
  rw[nW _ _ _ _ hf,Bu,O];simp[jf]
 refine⟨_,_,_,_,by simp only[Sem.run_bind,cK,Result.andThen_ok,Sem.run_pure];rfl,.inl rfl,?_,U,X,uH⟩;exact .rs nx 0 n n w.heap.size 0 _ _ _ (ai _ _ _) (a6 _) cW oG oG
theorem Xl(hm:ax P F m β w)(hn:β nx=none){t:TypeId}{n:Int}{pre:Prop}(h0:0<=n)(h1:n<=9223372036854775807)(h2:P.bytesOf (aq P t)*n<=281474976710656)(ht:aW P t=true):
 aK P F m nx β w { pre:=pre,val:=.rs nx 0 n.toNat,aL:=[(nx,some (.cells (dq n.toNat (aV P (aq P t))) (aq P t)))],new:=1 } (do Pure.pure (Next.value (<- Instr.makeSlice t (.int .i64 n) (.int .i64 n)))):=by
 obtain⟨hu,he⟩:=ia ht;obtain⟨i,d,z,hi,hd,hz,_,jf,U,br,jQ,h4⟩:=qd he;have pk:(zeroValue (aq P t)).run P w=.ok z w:=by simp[zeroValue,typeInfo,hi,hz]
 have C:=Jw (F:=F) (β:=β) (w:=w) (P:=P) jf U h4 n.toNat (n.toNat*P.cellsOf (aq P t)) rfl (if n.toNat*P.cellsOf (aq P t)=0 then #[] else z.cells) (fun h=>by rw[if_neg oG]);generalize hc:((Array.range (n.toNat*P.cellsOf (aq P t))).map ((if n.toNat*P.cellsOf (aq P t)=0 then #[] else z.cells)[· % (if n.toNat*P.cellsOf (aq P t)=0 then #[] else z.cells).size]!))=c at C;obtain⟨X,h6⟩:=BU hm hn (cs:=dq n.toNat (aV P (aq P t))) (c:=c.toList) (e:=aq P t) C.1 C.2 [];simp only[List.append_nil,Array.toArray_toList,List.length_nil,Nat.add_zero] at X h6
 have pX:(if n.toNat*P.cellsOf (aq P t)=0 then Result.ok #[] w else Result.ok z.cells w)=.ok (if n.toNat*P.cellsOf (aq P t)=0 then #[] else z.cells) w:=by
  split<;>rfl
 have J:IntKind.i64.wrap n=n:=Go.IntWalk.i64_in n ⟨oG,h1⟩;have LL:¬ n<0:=by omega
 have O:¬ (P.bytesOf (aq P t):Int)*n>2 ^ 48:=by omega
 have cK:(Instr.makeSlice t (.int .i64 n) (.int .i64 n)).run P w=.ok (.slice (some ⟨w.heap.size,0,none⟩) n.toNat n.toNat) (w.alloc (.cells c (aq P t))):=by
  unfold Instr.makeSlice
  simp only[Sem.run_bind,run_underlying hu,Result.andThen_ok,asInt,asIntOf,Sem.run_pure,typeInfo,run_program,hi,J,jQ,LL,O,decide_false,Bool.or_false,Bool.false_or,Bool.false_eq_true,if_false,Sem.run_ite,run_askRoom,fu w (fP he),
   show ¬ n>n from by omega]
  by_cases sy:n.toNat*P.cellsOf (aq P t)=0
  .simp only[sy,↓reduceIte] at hc ⊢;simp only[Sem.run_bind,Sem.run_pure,Result.andThen_ok,hc];simp[newRow]
  .simp only[sy,↓reduceIte] at hc ⊢;simp only[Sem.run_bind,Sem.run_pure,pk,Result.andThen_ok,hc];simp[newRow]
 have hlen:(dq n.toNat (aV P (aq P t))).length=n.toNat*P.cellsOf (aq P t):=by rw[Bu,U];simp[jf]
 refine⟨_,_,_,_,by simp only[Sem.run_bind,cK,Result.andThen_ok,Sem.run_pure];rfl,.inl rfl,?_,X,h6,uH⟩;exact .rs nx 0 n.toNat n.toNat w.heap.size 0 _ _ _ (ai _ _ _) (a6 _) (by simp only[maxLen];omega) oG oG
end
section
variable{P:Program}{F:Nat->Prop}{m:Mem}{nx:Nat}{β:av}{w:World}
theorem aK.val(hm:ax P F m β w){pre:Prop}{d:D}{rd:List Nat}{s:Sem Next}{v:Value}(hr:s.run P w=.ok (.value v) w)(h:R F β w d v):aK P F m nx β w { pre:=pre,val:=d,rd:=rd } s:=
 ⟨.value v,v,w,β,hr,.inl rfl,h,hm,Step.refl β w,fun _ h _=>h⟩
theorem sN(op:BinOp)(t:TypeId)(x y:Operand)(a b:Value)(h1:∀ u,a≠ .agg u)(h2:a≠ .nilIface):(eqGuard op t x y a b).run P w=.ok () w:=by
 unfold eqGuard;generalize (!(op matches .eql | .neq))=c;cases c
 .cases a<;>first|rfl|exact absurd rfl h2|exact absurd rfl (h1 _)
 .rfl
theorem IF{t:TypeId}{x y:Value}{b:Bool}(h:∀ d,(Op.equalIn (d+1) t x y).run P w=.ok b w):(Op.equal t x y).run P w=.ok b w:=h 9999
theorem I5{t:TypeId}{x y:Value}{b:Bool}(h:(Op.equal t x y).run P w=.ok b w):
 (do pure (Value.bool (<- Op.equal t x y)):Sem Value).run P w=.ok (.bool b) w/\(do pure (Value.bool (!(<- Op.equal t x y))):Sem Value).run P w=.ok (.bool !b) w:=by
 constructor<;>simp only[Sem.run_bind,h,Result.andThen_ok,Sem.run_pure]
theorem aaz(op:BinOp)(t:TypeId)(x y v:Value)(p:Prop)(h:mS op x y=some (p,v))(hp:p):(binOp op t x y).run P w=.ok v w:=by
 cases x<;>cases y<;>cases op<;>simp only[mS,aH,bR,reduceCtorEq] at h<;>
  (obtain⟨rfl,rfl⟩:=h)<;>
  first
  |(subst hp;simp[binOp,Op.intArith,Op.intCmp,Op.intBits,la];done)
  |(obtain⟨rfl,hb⟩:=hp;simp[binOp,Op.intDiv,hb];done)
  |(simp[binOp,Op.shift,show ¬ _<(0:Int) from Int.not_lt.2 hp];done)
  |(simp[binOp,Op.stringOp];done)
theorem Yh{op:BinOp}{x y v:Value}{p:Prop}(h:mS op x y=some (p,v)):plain v=true/\(∀ u,x≠ .agg u)/\x≠ .nilIface:=by
 cases x<;>cases y<;>cases op<;>simp only[mS,aH,bR,reduceCtorEq] at h<;>(obtain⟨rfl,rfl⟩:=h)<;>simp[plain]
theorem aaA(hm:ax P F m β w)(op:BinOp)(t:TypeId)(ox oy:Operand){a b x y v:Value}{p pre:Prop}(hx:R F β w (.s a) x)(hy:R F β w (.s b) y)(h:mS op a b=some (p,v))(hp:p):
 aK P F m nx β w { pre:=pre,val:=.s v } ((do eqGuard op t ox oy x y;binOp op t x y)>>=fun r=>Pure.pure (Next.value r)):=by
 obtain⟨rfl,_⟩:=hx.cm;obtain⟨rfl,_⟩:=hy.cm;obtain⟨h1,h2,C⟩:=Yh h;refine aK.val hm (v:=v) ?_ (.s v h1);simp only[Sem.run_bind,sN op t ox oy x y h2 C,Result.andThen_ok,aaz op t x y v p h hp,Sem.run_pure]
theorem aaB{t:TypeId}(h:ss P t=true):P.underlying t=some .bool:=by
 unfold ss at h;split at h
 .assumption
 .cases h
theorem aaC{t:TypeId}(h:yG P t=true):∃ e,P.underlying t=some (.pointer e):=by
 unfold yG at h;split at h
 .exact⟨_,‹_›⟩
 .cases h
theorem Ol{t:TypeId}(h:ss P t=true)(a b:Bool):(binOp .eql t (.bool a) (.bool b)).run P w=.ok (.bool (a==b)) w/\(binOp .neq t (.bool a) (.bool b)).run P w=.ok (.bool !(a==b)) w:=by
 have hu:=aaB h;exact I5 (IF fun d=>by simp[Op.equalIn,run_underlying hu])
theorem OM{t:TypeId}(h:yG P t=true)(a:Addr):(binOp .eql t (.pointer (some a)) (.pointer none)).run P w=.ok (.bool false) w/\(binOp .neq t (.pointer (some a)) (.pointer none)).run P w=.ok (.bool true) w:=by
 obtain⟨e,hu⟩:=aaC h;exact I5 (IF fun d=>by simp[Op.equalIn,run_underlying hu])
theorem Om{t:TypeId}(h:aW P t=true)(a:Option Addr)(l c:Nat):(binOp .eql t (.slice a l c) (.slice none 0 0)).run P w=.ok (.bool a.isNone) w/\(binOp .neq t (.slice a l c) (.slice none 0 0)).run P w=.ok (.bool !a.isNone) w:=by
 obtain⟨hu,_⟩:=ia h;exact I5 (IF fun d=>by cases a<;>simp[Op.equalIn,run_underlying hu])
theorem Yi{t:TypeId}(h:aW P t=true)(a:Option Addr)(l c:Nat):(binOp .eql t (.slice a l c) (.slice none 0 0)).run P w=.ok (.bool a.isNone) w:=(Om h a l c).1
theorem O'(hm:ax P F m β w){op:BinOp}{b:Bool}{t:TypeId}{ox oy:Operand}{a:Option Addr}{l c:Nat}{pre:Prop}{rd:List Nat}(ht:aW P t=true)(h:op=if b then .eql else .neq):
 aK P F m nx β w { pre:=pre,val:=.s (.bool (a.isNone==b)),rd:=rd } ((do eqGuard op t ox oy (.slice a l c) (.slice none 0 0);binOp op t (.slice a l c) (.slice none 0 0))>>=fun r=>Pure.pure (Next.value r)):=by
 obtain⟨h1,h2⟩:=Om (P:=P) (w:=w) ht a l c;refine aK.val hm (v:=.bool (a.isNone==b)) ?_ (.s _ rfl);simp only[Sem.run_bind,sN op t ox oy (.slice a l c) _ oS oS,Result.andThen_ok];cases b with
 |true=>simp only[if_true] at h;subst h;rw[h1];cases a<;>rfl
 |false=>simp only[Bool.false_eq_true,if_false] at h;subst h;rw[h2];cases a<;>rfl
theorem On(hm:ax P F m β w)(op:BinOp)(t:TypeId)(ox oy:Operand){a b:Bool}{x y:Value}{d:D}{pre:Prop}(hx:R F β w (.s (.bool a)) x)(hy:R F β w (.s (.bool b)) y)(ht:ss P t=true)
 (h:(op=.eql/\d=.s (.bool (a==b)))\/(op=.neq/\d=.s (.bool !(a==b)))):
 aK P F m nx β w { pre:=pre,val:=d } ((do eqGuard op t ox oy x y;binOp op t x y)>>=fun r=>Pure.pure (Next.value r)):=by
 obtain⟨rfl,_⟩:=hx.cm;obtain⟨rfl,_⟩:=hy.cm;rcases h with⟨rfl,rfl⟩|⟨rfl,rfl⟩
 .refine aK.val hm (v:=.bool (a==b)) ?_ (.s _ rfl);simp only[Sem.run_bind,sN _ t ox oy (.bool a) _ oS oS,Result.andThen_ok,(Ol ht a b).1,Sem.run_pure]
 .refine aK.val hm (v:=.bool !(a==b)) ?_ (.s _ rfl);simp only[Sem.run_bind,sN _ t ox oy (.bool a) _ oS oS,Result.andThen_ok,(Ol ht a b).2,Sem.run_pure]
theorem R.adn{i off:Nat}{v:Value}(h:R F β w (.rp i off) v)(hl:β i≠some .dead):∃ a,v=.pointer (some a):=by
 cases h with
 |qM _ _ _ h _=>exact absurd h hl
 |rp=>exact⟨_,rfl⟩
theorem ON(hm:ax P F m β w)(op:BinOp)(t:TypeId)(ox oy:Operand){i off:Nat}{x y:Value}{d:D}{pre:Prop}{rd:List Nat}{r:Row}(hx:R F β w (.rp i off) x)(hi:m i=some r)(hy:R F β w (.s (.pointer none)) y)(ht:yG P t=true)
 (h:(op=.eql/\d=.s (.bool false))\/(op=.neq/\d=.s (.bool true))):
 aK P F m nx β w { pre:=pre,val:=d,rd:=rd } ((do eqGuard op t ox oy x y;binOp op t x y)>>=fun r=>Pure.pure (Next.value r)):=by
 obtain⟨p,hp,af⟩:=hm.row i _ hi;obtain⟨a,rfl⟩:=hx.adn (fun e=>by rw[e] at hp;cases hp;exact af.live rfl);obtain⟨rfl,_⟩:=hy.cm;rcases h with⟨rfl,rfl⟩|⟨rfl,rfl⟩
 .refine aK.val hm (v:=.bool false) ?_ (.s _ rfl);simp only[Sem.run_bind,sN _ t ox oy (.pointer (some a)) _ oS oS,Result.andThen_ok,(OM ht a).1,Sem.run_pure]
 .refine aK.val hm (v:=.bool true) ?_ (.s _ rfl);simp only[Sem.run_bind,sN _ t ox oy (.pointer (some a)) _ oS oS,Result.andThen_ok,(OM ht a).2,Sem.run_pure]
theorem Yj(hm:ax P F m β w)(t:TypeId)(ox oy:Operand){es:List D}{n:Nat}{x:Value}{pre:Prop}(hx:R F β w (.sl es n) x)(ht:aW P t=true):
 aK P F m nx β w { pre:=pre,val:=if n=0 then .ub else .s (.bool false) } ((do eqGuard .eql t ox oy x (.slice none 0 0);binOp .eql t x (.slice none 0 0))>>=fun r=>Pure.pure (Next.value r)):=by
 have C:=fun a l c=>Yi (P:=P) (w:=w) ht a l c;cases hx with
 |gR a cap=>
  refine aK.val hm (v:=.bool a.isNone) ?_ (by simpa using R.ub _);simp only[Sem.run_bind,sN _ t ox oy (.slice a 0 cap) _ oS oS,Result.andThen_ok,C,Sem.run_pure]
 |sl _ _ b o cap us h1 h2 J O U X h7=>
  refine aK.val hm (v:=.bool false) ?_ ?_
  .simp only[Sem.run_bind,sN _ t ox oy (.slice (some ⟨b,o,none⟩) n cap) _ oS oS,Result.andThen_ok,C,Sem.run_pure];rfl
  .split
   .exact .ub _
   .exact .s _ rfl
theorem acg(hm:ax P F m β w)(op:UnOp){a x v:Value}{pre:Prop}(hx:R F β w (.s a) x)(h:AV op a=some v):
 aK P F m nx β w { pre:=pre,val:=.s v } (do Pure.pure (Next.value (<- Op.unary op x))):=by
 obtain⟨rfl,_⟩:=hx.cm
 have:(Op.unary op x).run P w=.ok v w/\plain v=true:=by
  cases x<;>cases op<;>simp only[AV,aH,reduceCtorEq] at h<;>subst h<;>simp[Op.unary,Op.intArith,Op.intBits,la,plain]
 exact aK.val hm (by simp[this.1]) (.s _ this.2)
theorem Xv(hm:ax P F m β w)(src dst:TypeId){k k':IntKind}{n:Int}{x:Value}{pre:Prop}(hx:R F β w (.s (.int k' n)) x)(hd:P.underlying dst=some (.int k))(hs:(P.underlying src).isSome=true):
 aK P F m nx β w { pre:=pre,val:=.s (.int k (k.wrap n)) } (do Pure.pure (Next.value (<- convert src dst x))):=by
 obtain⟨rfl,_⟩:=hx.cm;obtain⟨d,hs⟩:=Option.isSome_iff_exists.1 hs;refine aK.val hm (v:=.int k (k.wrap n)) ?_ (.s _ rfl);cases d<;>simp[convert,run_underlying hd,run_underlying hs,Conv.intToInt]
theorem OO{t:TypeId}(h:0<P.cellsOf t):(P.info? t).isSome=true:=by
 cases hi:P.info? t with
 |none=>simp[Program.cellsOf,hi] at h
 |some i=>rfl
theorem W4(hm:ax P F m β w){t:TypeId}{cs:List D}{x:Value}{k off:Nat}{C:TypeId}{pre:Prop}(hx:R F β w (.pt cs) x)(hf:cJ P t k=some (off,C))(h0:0<P.cellsOf C):
 aK P F m nx β w { pre:=pre,val:=.pt (cs.drop off) } (do Pure.pure (Next.value (<- Instr.fieldAt t x k))):=by
 obtain⟨b,o,rfl,h1,h2,O,J⟩:=hx.FE;unfold cJ at hf;split at hf
 .rename_i fs hu;cases hk:fs[k]? with
  |none=>simp[hk] at hf
  |some f=>
   simp[hk] at hf;obtain⟨rfl,rfl⟩:=hf;refine aK.val hm (v:=.pointer (some ⟨b,o+f.offset,none⟩)) ?_ (R.S4 h1 h2 O (J.drop _));simp[Instr.fieldAt,run_underlying hu,hk,Instr.sureAddr,fieldPlace,fu w (OO h0),Nat.ne_of_gt h0,Addr.add_lit]
 .cases hf
end
section
variable{P:Program}{F:Nat->Prop}{m:Mem}{nx:Nat}{β:av}{w:World}
theorem R.J6{i off:Nat}{v:Value}(h:R F β w (.rp i off) v){r:Row}{p:Pl}(hp:β i=some p)(af:cx P F β w r p):
 ∃ b o len room sz,β i=some (.cells b o len room sz)/\v=.pointer (some ⟨b,o+off,none⟩):=by
 cases h with
 |qM _ _ _ h _=>rw[h] at hp;cases hp;exact absurd rfl af.live
 |rp _ _ b o len room sz h=>exact⟨b,o,len,room,sz,h,rfl⟩
theorem W5(hm:ax P F m β w){t:TypeId}{i o:Nat}{x:Value}{k off:Nat}{C:TypeId}{pre:Prop}{rd:List Nat}{r:Row}(hx:R F β w (.rp i o) x)(hi:m i=some r)(hf:cJ P t k=some (off,C))(h0:0<P.cellsOf C):
 aK P F m nx β w { pre:=pre,val:=.rp i (o+off),rd:=rd } (do Pure.pure (Next.value (<- Instr.fieldAt t x k))):=by
 obtain⟨p,hp,af⟩:=hm.row i _ hi;obtain⟨b,bo,len,room,sz,J,rfl⟩:=hx.J6 hp af;unfold cJ at hf;split at hf
 .rename_i fs hu;cases hk:fs[k]? with
  |none=>simp[hk] at hf
  |some f=>
   simp[hk] at hf;obtain⟨rfl,rfl⟩:=hf;refine aK.val hm (v:=.pointer (some ⟨b,bo+(o+f.offset),none⟩)) ?_ (.rp i (o+f.offset) b bo len room sz J);simp[Instr.fieldAt,run_underlying hu,hk,Instr.sureAddr,fieldPlace,fu w (OO h0),Nat.ne_of_gt h0,Addr.add_lit,Nat.add_assoc]
 .cases hf
theorem P9{t:TypeId}(ht:aB P t=true){cs:List D}{vs:List Value}{off:Nat}(hl:vs.length=cs.length)(h:∀ (k:Nat) (d:D) (u:Value),cs[k]? =some d->vs[k]? =some u->R F β w d u)(O:off+P.cellsOf t<=cs.length):
 ∃ v,(part t vs.toArray off).run P w=.ok v w/\R F β w (jk P t (cs.drop off)) v:=by
 obtain⟨i,d,z,hi,hd,hz,J,_⟩:=qd ht;unfold part jk;simp only[Sem.run_bind,By w (zu ht),Result.andThen_ok];cases ha:bq P t with
 |true=>
  refine⟨.agg ((vs.drop off).take (P.cellsOf t)).toArray,?_,?_⟩
  .simp[fu w (fP ht)]
  .refine .agg _ _ oP fun k d v hk hv=>?_;rw[List.getElem?_take] at hk hv;split at hk
   .rename_i ag;rw[if_pos ag] at hv;rw[List.getElem?_drop] at hk hv;exact h _ d v hk hv
   .cases hk
 |false=>
  have:=J ha;have ag:off<vs.length:=by omega
  refine⟨vs[off],by simp[ag],?_⟩;have C:off<cs.length:=by omega
  have e:(cs.drop off).headD .u=cs[off]:=by simp[List.headD_eq_head?_getD,List.head?_drop,C]
  simp only[Bool.false_eq_true,if_false,e];exact h off _ _ (by simp[C]) (by simp[ag])
theorem Zb(hm:ax P F m β w){t:TypeId}{cs:List D}{x:Value}{k off:Nat}{C:TypeId}{pre:Prop}(hx:R F β w (.agg cs) x)(hf:cJ P t k=some (off,C))(ht:aB P C=true)(J:off+P.cellsOf C<=cs.length):
 aK P F m nx β w { pre:=pre,val:=jk P C (cs.drop off) } (do Pure.pure (Next.value (<- Instr.field t x k))):=by
 obtain⟨vs,rfl,hl,h⟩:=hx.qk;obtain⟨v,hr,hR⟩:=P9 (P:=P) ht hl h J;unfold cJ at hf;split at hf
 .rename_i fs hu;cases hk:fs[k]? with
  |none=>simp[hk] at hf
  |some f=>
   simp[hk] at hf;obtain⟨rfl,rfl⟩:=hf;exact aK.val hm (v:=v) (by simp[Instr.field,run_underlying hu,hk,asAgg,hr]) hR
 .cases hf
theorem XS(hm:ax P F m β w){cs:List D}{x:Value}{k:Nat}{pre:Prop}(hx:R F β w (.aT cs) x)(hk:k<cs.length):
 aK P F m nx β w { pre:=pre,val:=cs.getD k .u } (do Pure.pure (Next.value (<- Instr.extract x k))):=by
 obtain⟨vs,rfl,hl,h⟩:=hx.zD;have C:k<vs.length:=by omega
 refine aK.val hm (v:=vs[k]) (by simp[Instr.extract,C]) ?_;have e:cs.getD k .u=cs[k]:=by simp[dN,hk]
 rw[e];exact h k _ _ (by simp[hk]) (by simp[C])
theorem R.tf{es:List D}{n:Nat}{v:Value}(h:R F β w (.sl es n) v):(es=[]/\n=0/\∃ a cap,v=.slice a 0 cap)\/
 ∃ b o cap,v=.slice (some ⟨b,o,none⟩) n cap/\n<=cap/\cap<=maxLen/\¬ F b/\β.free b/\b<w.heap.size/\Rd F β w b o es:=by
 cases h with
 |gR a cap=>exact .inl ⟨rfl,rfl,a,cap,rfl⟩
 |sl _ _ b o cap us h1 h2 C J O U X=>exact .inr ⟨b,o,cap,rfl,J,O,h1,h2,C,us,U,X⟩
theorem W6(hm:ax P F m β w){t:TypeId}{es:List D}{n:Nat}{x y:Value}{kk:IntKind}{k:Int}{pre:Prop}(hx:R F β w (.sl es n) x)(hy:R F β w (.s (.int kk k)) y)(ht:aW P t=true)(h0:0<=k)(h1:k<n):
 aK P F m nx β w { pre:=pre,val:=.pt (es.drop (k.toNat*P.cellsOf (aq P t))) } (do Pure.pure (Next.value (<- Instr.indexAt t x y))):=by
 obtain⟨hu,he⟩:=ia ht;obtain⟨rfl,_⟩:=hy.cm;rcases hx.tf with⟨_,rfl,_⟩|⟨b,o,cap,rfl,h2,X,J,O,U,C⟩
 .omega
 .refine aK.val hm (v:=.pointer (some ⟨b,o+k.toNat*P.cellsOf (aq P t),none⟩)) ?_ (R.S4 J O U (C.drop _));simp[Instr.indexAt,asIntOf,run_underlying hu,h0,h1,fu w (fP he),Addr.add_lit]
theorem R.vi{i off n:Nat}{v:Value}(h:R F β w (.rs i off n) v){cs:List D}{e:TypeId}(hm:ax P F m β w)(hi:m i=some (.cells cs e)):
 (cs=[]/\off=0/\n=0/\β i=some .nil/\∃ a,v=.slice a 0 0)\/
 ∃ b o room,β i=some (.cells b o cs.length room (P.cellsOf e))/\cx P F β w (.cells cs e) (.cells b o cs.length room (P.cellsOf e))/\
  ((n=0/\∃ a,v=.slice a 0 0)\/∃ cap,v=.slice (some ⟨b,o+off,none⟩) n cap/\n<=cap/\cap<=maxLen/\cs.length<=off+cap*P.cellsOf e/\off+cap*P.cellsOf e<=room):=by
 obtain⟨p,hp,af⟩:=hm.row i _ hi;cases h with
 |js _ _ _ _ h _=>rw[h] at hp;cases hp;cases af
 |gu _ a h=>
  rw[h] at hp;cases hp;cases af;exact .inl ⟨rfl,rfl,rfl,h,a,rfl⟩
 |ir _ _ a b o len room sz h=>
  rw[h] at hp;cases hp;obtain⟨_,h2,C,_⟩:=af.rd;subst h2;subst C;exact .inr ⟨b,o,room,h,af,.inl ⟨rfl,a,rfl⟩⟩
 |rs _ _ _ cap b o len room sz h hn cW h1 h2=>
  rw[h] at hp;cases hp;obtain⟨_,C,J,_⟩:=af.rd;subst C;subst J;exact .inr ⟨b,o,room,h,af,.inr ⟨cap,rfl,hn,cW,h1,h2⟩⟩
theorem R.aaD{i off n:Nat}{v:Value}(h:R F β w (.rs i off n) v)(hl:∃ p,β i=some p/\p≠ .dead):∃ a cap,v=.slice a n cap:=by
 cases h with
 |js _ _ _ _ h _=>obtain⟨p,h1,h2⟩:=hl;rw[h] at h1;cases h1;exact absurd rfl h2
 |gu _ a h=>exact⟨a,0,rfl⟩
 |ir _ _ a=>exact⟨a,0,rfl⟩
 |rs=>exact⟨_,_,rfl⟩
theorem P'{r:Row}{p:Pl}(h:cx P F β w r p):p≠ .dead:=h.live
theorem W7(hm:ax P F m β w){t:TypeId}{i off n:Nat}{x y:Value}{kk:IntKind}{k:Int}{pre:Prop}{rd:List Nat}{r:Row}(hx:R F β w (.rs i off n) x)(hi:m i=some r)(hy:R F β w (.s (.int kk k)) y)(ht:aW P t=true)(h0:0<=k)(h1:k<n):
 aK P F m nx β w { pre:=pre,val:=.rp i (off+k.toNat*P.cellsOf (aq P t)),rd:=rd } (do Pure.pure (Next.value (<- Instr.indexAt t x y))):=by
 obtain⟨hu,he⟩:=ia ht;obtain⟨rfl,_⟩:=hy.cm;obtain⟨p,hp,af⟩:=hm.row i _ hi;cases hx with
 |js _ _ _ _ h _=>rw[h] at hp;cases hp;exact absurd rfl (P' af)
 |gu _ a h=>omega
 |ir _ _ a b o len room sz h=>omega
 |rs _ _ _ cap b o len room sz h hn cW C J=>
  refine aK.val hm (v:=.pointer (some ⟨b,o+(off+k.toNat*P.cellsOf (aq P t)),none⟩)) ?_ (.rp i _ b o len room sz h);simp[Instr.indexAt,asIntOf,run_underlying hu,h0,h1,fu w (fP he),Addr.add_lit,Nat.add_assoc]
theorem W2(hm:ax P F m β w){t:TypeId}{i off:Nat}{x y:Value}{kk:IntKind}{k:Int}{pre:Prop}{rd:List Nat}{r:Row}(hx:R F β w (.rp i off) x)(hi:m i=some r)(hy:R F β w (.s (.int kk k)) y)(ht:nb P t=true)(h0:0<=k)(h1:k<nM P t):
 aK P F m nx β w { pre:=pre,val:=.rp i (off+k.toNat*P.cellsOf (aq P t)),rd:=rd } (do Pure.pure (Next.value (<- Instr.indexAt t x y))):=by
 obtain⟨hu,he⟩:=I4 ht;obtain⟨rfl,_⟩:=hy.cm;obtain⟨p,hp,af⟩:=hm.row i _ hi;obtain⟨b,bo,len,room,sz,C,rfl⟩:=hx.J6 hp af;refine aK.val hm (v:=.pointer (some ⟨b,bo+(off+k.toNat*P.cellsOf (aq P t)),none⟩)) ?_ (.rp i _ b bo len room sz C);simp[Instr.indexAt,asIntOf,run_underlying hu,h0,h1,fu w (fP he),Addr.add_lit,Nat.add_assoc,Instr.sureAddr]
theorem Xm(hm:ax P F m β w){t:TypeId}{b:ByteArray}{x y:Value}{kk:IntKind}{k:Int}{pre:Prop}(hx:R F β w (.s (.string b)) x)(hy:R F β w (.s (.int kk k)) y)(ht:eN P t=true)(h0:0<=k)(h1:k<b.size):
 aK P F m nx β w { pre:=pre,val:=.s (.int .u8 (b.data.toList.getD k.toNat 0).toNat) } (do Pure.pure (Next.value (<- Instr.index t x y))):=by
 have hu:=uG ht;obtain⟨rfl,_⟩:=hy.cm;obtain⟨rfl,_⟩:=hx.cm;have hk:k.toNat<b.size:=by omega
 have J:k.toNat<b.data.size:=hk;refine aK.val hm (v:=.int .u8 (b.data.toList.getD k.toNat 0).toNat) ?_ (.s _ rfl)
 have e:b[k.toNat]? =some (b.data.toList.getD k.toNat 0):=by
  have C:b[k.toNat]? =some b[k.toNat]:=getElem?_pos b k.toNat hk;rw[C];congr 1;show b.data[k.toNat]=_;rw[dN,Array.getElem?_toList,Array.getElem?_eq_getElem J];rfl
 simp only[Instr.index,Sem.run_bind,asIntOf,Sem.run_pure,Result.andThen_ok,run_underlying hu,h0,if_true,e]
theorem Xn(hm:ax P F m β w){t:TypeId}{cs:List D}{x y:Value}{kk:IntKind}{k:Int}{pre:Prop}(hx:R F β w (.agg cs) x)(hy:R F β w (.s (.int kk k)) y)(ht:nb P t=true)(h0:0<=k)(h1:k<nM P t)
 (jt:(k.toNat+1)*P.cellsOf (aq P t)<=cs.length):
 aK P F m nx β w { pre:=pre,val:=jk P (aq P t) (cs.drop (k.toNat*P.cellsOf (aq P t))) } (do Pure.pure (Next.value (<- Instr.index t x y))):=by
 obtain⟨hu,he⟩:=I4 ht;obtain⟨rfl,_⟩:=hy.cm;obtain⟨vs,rfl,hl,h⟩:=hx.qk;obtain⟨v,hr,hR⟩:=P9 (P:=P) he hl h (off:=k.toNat*P.cellsOf (aq P t)) (by rw[Nat.add_mul] at jt;omega);exact aK.val hm (v:=v) (by simp[Instr.index,asIntOf,run_underlying hu,h0,h1,fu w (fP he),hr]) hR
theorem Xw(hm:ax P F m β w)(f:Fn){fs cs:List D}{us vs:List Value}{pre:Prop}(hl:us.length=fs.length)(jt:vs.length=cs.length)(h:∀ (k:Nat) (d:D) (v:Value),fs[k]? =some d->us[k]? =some v->R F β w d v)
 (h':∀ (k:Nat) (d:D) (v:Value),cs[k]? =some d->vs[k]? =some v->R F β w d v):
 aK P F m nx β w { pre:=pre,val:=.fn f fs cs } (do Pure.pure (Next.value (<- Instr.makeFunc f us.toArray vs.toArray))):=
 aK.val hm (v:=.func f us.toArray vs.toArray) (by simp[Instr.makeFunc]) (.fn f fs cs us vs hl jt h h')
theorem wQ(b:Int)(kk:IntKind)(y:Nat)(code:BoundsCode)(h0:0<=b)(h1:b<=y):(Instr.sliceBound (.int kk b) y code).run P w=.ok b.toNat w:=by
 simp[Instr.sliceBound,asIntOf,h0,h1]
theorem wT(isSlice:Bool)(len cap:Nat){lo hi:Option Value}{l h:Int}(fJ:(lo=none/\l=0)\/∃ kk,lo=some (.int kk l))(jO:(hi=none/\h=len)\/∃ kk,hi=some (.int kk h))(h0:0<=l)(h1:l<=h)(h2:h<=cap):
 (Instr.sliceBounds isSlice len cap lo hi none).run P w=.ok (l.toNat,h.toNat,cap) w:=by
 unfold Instr.sliceBounds;simp only[Sem.run_bind,Sem.run_pure,Result.andThen_ok];rcases jO with⟨rfl,rfl⟩|⟨kk,rfl⟩<;>rcases fJ with⟨rfl,rfl⟩|⟨kl,rfl⟩
 .simp
 .simp[wQ (P:=P) (w:=w) l kl len _ h0 oG]
 .simp[wQ (P:=P) (w:=w) h kk cap _ oG oG]
 .have:=wQ (P:=P) (w:=w) h kk cap (if isSlice then .sliceAcap else .sliceAlen) oG oG;simp[this,wQ (P:=P) (w:=w) l kl h.toNat _ h0 oG]
theorem uz(len cap:Nat){lo:Option Value}{kh km:IntKind}{l h k:Int}(fJ:(lo=none/\l=0)\/∃ kk,lo=some (.int kk l))(h0:0<=l)(h1:l<=h)(h2:h<=k)(J:k<=cap):
 (Instr.sliceBounds true len cap lo (some (.int kh h)) (some (.int km k))).run P w=.ok (l.toNat,h.toNat,k.toNat) w:=by
 unfold Instr.sliceBounds;have C:=wQ (P:=P) (w:=w) k km cap .slice3Acap oG J;have e2:=wQ (P:=P) (w:=w) h kh k.toNat .slice3B oG oG;simp only[Sem.run_bind,C,e2,Result.andThen_ok,if_true];rcases fJ with⟨rfl,rfl⟩|⟨O,rfl⟩
 .simp
 .simp[wQ (P:=P) (w:=w) l O h.toNat _ h0 oG]
theorem D.Q3{d:D}{b:Int}(h:d.int? =some b):∃ kk,d=.s (.int kk b):=by
 unfold D.int? at h;split at h
 .cases h;exact⟨_,rfl⟩
 .cases h
def Ro(F:Nat->Prop)(β:av)(w:World)(d:Option D)(v:Option Value):Prop:=
 (d=none/\v=none)\/∃ q u,d=some q/\v=some u/\R F β w q u
theorem Ro.sw{d:Option D}{v:Option Value}{C b:Int}(h:Ro F β w d v)(hb:eg d C=some b):(v=none/\b=C/\d=none)\/∃ kk,v=some (.int kk b)/\d.isSome=true:=by
 rcases h with⟨rfl,rfl⟩|⟨q,u,rfl,rfl,hR⟩
 .simp[eg] at hb;exact .inl ⟨rfl,hb.symm,rfl⟩
 .simp only[eg] at hb;obtain⟨kk,rfl⟩:=D.Q3 hb;obtain⟨rfl,_⟩:=hR.cm;exact .inr ⟨_,rfl,rfl⟩
theorem nr{t e:TypeId}(hu:P.underlying t=some (.slice e))(v:Value)(lo hi C:Option Value):(Instr.sliceAt t v lo hi C).run P w=(Instr.slice t v lo hi C).run P w:=by
 simp[Instr.sliceAt,run_underlying hu]
theorem Qa{es:List D}{n l h sz:Nat}{a:Option Addr}{b o cap m':Nat}(h1:¬ F b)(h2:β.free b)(U:b<w.heap.size)(C:Rd F β w b o es)(X:l<=h)(hn:h<=n)(hm:h<=m')(nL:m'<=cap)(cW:cap<=maxLen)
 (ha:a=(if m'=l then some ⟨b,o,none⟩ else some ⟨b,o+l*sz,none⟩)):R F β w (.sl ((es.drop (l*sz)).take ((h - l)*sz)) (h - l)) (.slice a (h - l) (m' - l)):=by
 subst ha;by_cases ud:m'=l
 .have:h=l:=by omega
  subst this;simp only[Nat.sub_self,Nat.zero_mul,List.take_zero];exact .gR _ _
 .rw[if_neg ud];obtain⟨us,J,O⟩:=(C.drop (l*sz)).take ((h - l)*sz);exact .sl _ _ _ _ _ us h1 h2 U oG oG J O
theorem Zc(hm:ax P F m β w){t:TypeId}{x:D}{v:Value}{lo hi mx:Option D}{wx X VS:Option Value}{e:cR}(hx:R F β w x v)(fJ:Ro F β w lo wx)(jO:Ro F β w hi X)(fq:Ro F β w mx VS)
 (hs:kz P m t x lo hi mx=some e) (hp:e.pre):e.aL=[]/\e.new=0/\aK P F m nx β w e (do Pure.pure (Next.value (<- Instr.sliceAt t v wx X VS))):=by
 cases x with
 |sl es n=>
  simp only[kz] at hs;cases C:eg lo 0 with
  |none=>simp[C] at hs
  |some l=>
  cases J:eg hi n with
  |none=>simp[C,J] at hs
  |some h=>
  have U:(wx=none/\l=0)\/∃ kk,wx=some (.int kk l):=by
   rcases fJ.sw C with⟨a,b,_⟩|⟨kk,a,_⟩
   .exact .inl ⟨a,b⟩
   .exact .inr ⟨kk,a⟩
  rcases fq with⟨rfl,rfl⟩|⟨q,u,rfl,rfl,hq⟩
  .simp only[C,J,aH] at hs;subst hs;obtain⟨ht,h0,h1,h2⟩:=hp;obtain⟨hu,he⟩:=ia ht
   have vI:(X=none/\h=(n:Int))\/∃ kk,X=some (.int kk h):=by
    rcases jO.sw J with⟨a,b,_⟩|⟨kk,a,_⟩
    .exact .inl ⟨a,b⟩
    .exact .inr ⟨kk,a⟩
   refine⟨rfl,rfl,?_⟩;rcases hx.tf with⟨rfl,rfl,a,cap,rfl⟩|⟨b,o,cap,rfl,g1,g2,g3,g4,g5,bP⟩
   .have hb:=wT (P:=P) (w:=w) true 0 cap U (by simpa using vI) h0 h1 oG;have jP:l=0:=by omega
    have uc:h=0:=by omega
    subst jP;subst uc;refine aK.val hm (v:=.slice (if cap=0 then a else a.map (·.add (0*P.cellsOf (aq P t)))) 0 cap) ?_ (by simpa using R.gR _ _);simp[nr hu,Instr.slice,run_underlying hu,hb,fu w (fP he)]
   .have hb:=wT (P:=P) (w:=w) true n cap U vI h0 h1 oG;refine aK.val hm (v:=.slice (if cap=l.toNat then some ⟨b,o,none⟩ else some ⟨b,o+l.toNat*P.cellsOf (aq P t),none⟩) (h.toNat - l.toNat) (cap - l.toNat)) ?_ ?_
    .simp[nr hu,Instr.slice,run_underlying hu,hb,fu w (fP he),Addr.add_lit]
    .have:=Qa (F:=F) (β:=β) (w:=w) (es:=es) (n:=n) (l:=l.toNat) (h:=h.toNat) (sz:=P.cellsOf (aq P t)) (cap:=cap) (m':=cap) g3 g4 g5 bP oG oG oG (a6 _) g2 rfl;rw[show(h - l).toNat=h.toNat - l.toNat from by omega];exact this
  .simp only[C,J] at hs;cases Dm:q.int? with
   |none=>simp[Dm] at hs
   |some k=>
   simp only[Dm,aH] at hs;subst hs;obtain⟨ht,Gf,h0,h1,h2,h3⟩:=hp;obtain⟨hu,he⟩:=ia ht;obtain⟨km,rfl⟩:=D.Q3 Dm;obtain⟨rfl,_⟩:=hq.cm
   obtain⟨kh,rfl⟩:∃ kk,X=some (.int kk h):=by
    rcases jO.sw J with⟨_,_,c⟩|⟨kk,a,_⟩
    .rw[c] at Gf;cases Gf
    .exact⟨kk,a⟩
   refine⟨rfl,rfl,?_⟩;rcases hx.tf with⟨rfl,rfl,a,cap,rfl⟩|⟨b,o,cap,rfl,g1,g2,g3,g4,g5,bP⟩
   .have hb:=uz (P:=P) (w:=w) 0 cap (kh:=kh) (km:=km) U h0 h1 h2 oG;have jP:l=0:=by omega
    have uc:h=0:=by omega
    have A2:k=0:=by omega
    subst jP;subst uc;subst A2;refine aK.val hm (v:=.slice a 0 0) ?_ (by simpa using R.gR _ _);simp[nr hu,Instr.slice,run_underlying hu,hb,fu w (fP he)]
   .have hb:=uz (P:=P) (w:=w) n cap (kh:=kh) (km:=km) U h0 h1 h2 oG;refine aK.val hm (v:=.slice (if k.toNat=l.toNat then some ⟨b,o,none⟩ else some ⟨b,o+l.toNat*P.cellsOf (aq P t),none⟩) (h.toNat - l.toNat) (k.toNat - l.toNat)) ?_ ?_
    .simp[nr hu,Instr.slice,run_underlying hu,hb,fu w (fP he),Addr.add_lit]
    .have:=Qa (F:=F) (β:=β) (w:=w) (es:=es) (n:=n) (l:=l.toNat) (h:=h.toNat) (sz:=P.cellsOf (aq P t)) (cap:=cap) (m':=k.toNat) g3 g4 g5 bP oG oG oG oG g2 rfl;rw[show(h - l).toNat=h.toNat - l.toNat from by omega];exact this
 |rs i off n=>
  simp only[kz] at hs;cases O:m i with
  |none=>simp[O] at hs
  |some r=>
  cases r with
  |map es=>simp[O] at hs
  |raw es=>simp[O] at hs
  |bs u x T=>simp[O] at hs
  |lp k=>simp[O] at hs
  |eZ f r=>simp[O] at hs
  |cells cs ee=>
  cases C:eg lo 0 with
  |none=>simp[O,C] at hs
  |some l=>
  cases J:eg hi n with
  |none=>simp[O,C,J] at hs
  |some h=>
  rcases fq with⟨rfl,rfl⟩|⟨q,u,rfl,rfl,hq⟩
  .simp only[O,C,J,aH] at hs;subst hs;obtain⟨⟨ht,br⟩,h0,h1,h2⟩:=hp;obtain⟨hu,he⟩:=ia ht
   have U:(wx=none/\l=0)\/∃ kk,wx=some (.int kk l):=by
    rcases fJ.sw C with⟨a,b,_⟩|⟨kk,a,_⟩
    .exact .inl ⟨a,b⟩
    .exact .inr ⟨kk,a⟩
   have vI:(X=none/\h=(n:Int))\/∃ kk,X=some (.int kk h):=by
    rcases jO.sw J with⟨a,b,_⟩|⟨kk,a,_⟩
    .exact .inl ⟨a,b⟩
    .exact .inr ⟨kk,a⟩
   refine⟨rfl,rfl,?_⟩;rcases hx.vi hm O with⟨_,rfl,rfl,jJ,a,rfl⟩|⟨b,o,room,hβ,af,jm⟩
   .have hb:=wT (P:=P) (w:=w) true 0 0 U (by simpa using vI) h0 h1 oG;have jP:l=0:=by omega
    have uc:h=0:=by omega
    subst jP;subst uc;refine aK.val hm (v:=.slice a 0 0) ?_ (by simpa using R.gu i a jJ);simp[nr hu,Instr.slice,run_underlying hu,hb,fu w (fP he)]
   .rcases jm with⟨rfl,a,rfl⟩|⟨cap,rfl,g1,g2,g3,g4⟩
    .have hb:=wT (P:=P) (w:=w) true 0 0 U (by simpa using vI) h0 h1 oG;have jP:l=0:=by omega
     have uc:h=0:=by omega
     subst jP;subst uc;refine aK.val hm (v:=.slice a 0 0) ?_ (by simpa using R.ir i off a b o _ room _ hβ);simp[nr hu,Instr.slice,run_underlying hu,hb,fu w (fP he)]
    .have hb:=wT (P:=P) (w:=w) true n cap U vI h0 h1 oG;refine aK.val hm (v:=.slice (if cap=l.toNat then some ⟨b,o+off,none⟩ else some ⟨b,o+off+l.toNat*P.cellsOf (aq P t),none⟩) (h.toNat - l.toNat) (cap - l.toNat)) ?_ ?_
     .simp[nr hu,Instr.slice,run_underlying hu,hb,fu w (fP he),Addr.add_lit]
     .rw[show(h - l).toNat=h.toNat - l.toNat from by omega];by_cases cg:cap=l.toNat
      .have:h.toNat=l.toNat:=by omega
       rw[this,cg,Nat.sub_self];exact .ir i _ _ b o _ room _ hβ
      .rw[if_neg cg,Nat.add_assoc];have hmul:(cap - l.toNat)*P.cellsOf ee+l.toNat*P.cellsOf ee=cap*P.cellsOf ee:=by rw[<- Nat.add_mul];congr 1;omega
       exact .rs i _ _ _ b o _ room _ hβ oG oG (by rw[<- br];omega) (by rw[<- br];omega)
  .simp only[O,C,J,reduceCtorEq] at hs
 |s x=>
  cases x with
  |string b=>
   simp only[kz] at hs;cases C:eg lo 0 with
   |none=>simp[C] at hs
   |some l=>
   cases J:eg hi b.size with
   |none=>simp[C,J] at hs
   |some h=>
   rcases fq with⟨rfl,rfl⟩|⟨q,u,rfl,rfl,hq⟩
   .simp only[C,J,aH] at hs;subst hs;obtain⟨ht,h0,h1,h2⟩:=hp;have hu:=uG ht;obtain⟨rfl,_⟩:=hx.cm
    have U:(wx=none/\l=0)\/∃ kk,wx=some (.int kk l):=by
     rcases fJ.sw C with⟨a,b,_⟩|⟨kk,a,_⟩
     .exact .inl ⟨a,b⟩
     .exact .inr ⟨kk,a⟩
    have vI:(X=none/\h=(b.size:Int))\/∃ kk,X=some (.int kk h):=by
     rcases jO.sw J with⟨a,b,_⟩|⟨kk,a,_⟩
     .exact .inl ⟨a,b⟩
     .exact .inr ⟨kk,a⟩
    have hb:=wT (P:=P) (w:=w) false b.size b.size U vI h0 h1 oG;refine⟨rfl,rfl,aK.val hm (v:=.string (b.extract l.toNat h.toNat)) ?_ (.s _ rfl)⟩;simp[Instr.sliceAt,Instr.slice,run_underlying hu,hb]
   .simp only[C,J,reduceCtorEq] at hs
  |_=>simp[kz] at hs
 |_=>simp[kz] at hs
end
section
variable{P:Program}{F:Nat->Prop}{m:Mem}{nx:Nat}{β:av}{w w':World}
theorem wY(hs:w.heap.size<=w'.heap.size)(h:∀ b,b<w.heap.size->w'.heap[b]? =w.heap[b]?)(C:Out w w':=by first|exact⟨rfl,rfl⟩|assumption):Step β w β w':=
 ⟨hs,fun b hb hf=>⟨h b hb,hf⟩,fun _ _ hp=>.inl hp,C,fun _ r _ _=>BR (h r)⟩
theorem ax.ext(hm:ax P F m β w)(hs:w.heap.size<=w'.heap.size)(h:∀ b,b<w.heap.size->w'.heap[b]? =w.heap[b]?)(J:Out w w':=by first|exact⟨rfl,rfl⟩|assumption):ax P F m β w':=
 ⟨fun i r hi=>by
  obtain⟨p,hp,af⟩:=hm.row i r hi;exact⟨p,hp,af.step (wY hs h) fun b hb=>h b (hm.lt i p b hp hb)⟩,
  hm.inj,fun i p b hp hb=>Nat.lt_of_lt_of_le (hm.lt i p b hp hb) hs,hm.nf,hm.fb.next (fun b hb=>Nat.lt_of_lt_of_le (hm.fb.lt b hb) hs) (fun _ h=>h) fun t _ C=>h _ (hm.fb.lt _ C)⟩
theorem ax.drew(hm:ax P F m β w):ax P F m β w.drew:=hm.ext (a6 _) (fun _ _=>rfl)
theorem Pb:Step β w β w.drew:=wY (a6 _) (fun _ _=>rfl)
theorem Zd(hm:ax P F m β w){src dst e:TypeId}{b:ByteArray}{x:Value}{pre:Prop}(hx:R F β w (.s (.string b)) x)(hs:eN P src=true)(hd:P.underlying dst=some (.slice e))(he:P.underlying e=some (.int .u8))(cW:b.size<=maxLen):
 aK P F m nx β w { pre:=pre,val:=.sl (b.data.toList.map fun c=>.s (.int .u8 c.toNat)) b.size } (do Pure.pure (Next.value (<- convert src dst x))):=by
 obtain⟨rfl,_⟩:=hx.cm;have hu:=uG hs;generalize nL:(Question.appendCap b.size 0 e).cut (w.tape w.drawn (.appendCap b.size 0 e))=cap
 have J:b.size<=cap/\cap<=maxLen:=by
  have h1:=grownCap_ge w b.size 0 e;have h2:=grownCap_le_maxLen w b.size 0 e cW;unfold grownCap at h1 h2;rw[nL] at h1 h2;exact⟨h1,h2⟩
 generalize hc:b.data.map (fun c=>Value.int .u8 c.toNat)++Array.replicate (cap - b.size) (Value.int .u8 0)=cells
 have U:(convert src dst (.string b)).run P w=.ok (.slice (some ⟨w.heap.size,0,none⟩) b.size cap) ((w.drew.alloc (.cells cells e)).freeze ⟨w.heap.size,cells.size,none⟩ 1):=by
  simp only[convert,Sem.run_bind,run_underlying hu,run_underlying hd,run_underlying he,Result.andThen_ok];unfold Conv.stringToBytes;simp only[Sem.run_bind,run_choose,Question.forced,Bool.false_eq_true,if_false,Result.andThen_ok,nL,hc];simp only[newRow,Sem.run_bind,run_newObj,Result.andThen_ok,Sem.run_pure,markStringish];simp[World.shape?,freeze,Sem.run];rfl
 have Ge:((w.drew.alloc (.cells cells e)).freeze ⟨w.heap.size,cells.size,none⟩ 1).heap.size=w.heap.size+1:=by simp[World.freeze]
 have hold:∀ k,k<w.heap.size->((w.drew.alloc (.cells cells e)).freeze ⟨w.heap.size,cells.size,none⟩ 1).heap[k]? =w.heap[k]? :=fun k hk=>by
  simp only[World.freeze,Nat.one_ne_zero,if_false,Array.getElem?_modify,if_neg (show ¬ w.heap.size=k by omega)];exact heap_alloc_old w.drew _ hk
 have O:∀ k:Nat,((w.drew.alloc (.cells cells e)).freeze ⟨w.heap.size,cells.size,none⟩ 1).cell? ⟨w.heap.size,k,none⟩=cells[k]? :=fun k=>by
  have:=heap_alloc_new w.drew (.cells cells e);simp only[World.size_drew] at this;simp only[World.cell?,World.freeze,Nat.one_ne_zero,if_false,Array.getElem?_modify,if_true,this,Option.map_some,Option.isSome_none,Bool.false_eq_true]
 refine⟨_,_,_,β,by simp only[Sem.run_bind,U,Result.andThen_ok,Sem.run_pure];rfl,.inl rfl,?_,hm.ext oG hold,wY oG hold,fun _ h _=>h⟩;have hlen:b.data.toList.length=b.size:=by simp
 refine .sl _ _ _ _ _ (fun k=>.int .u8 (b.data.toList.getD k 0).toNat) (fun X=>?_) (fun i p hp e=>?_) oG J.1 J.2 (fun k hk=>?_) (fun k d hk=>?_)
 .have:=hm.fb.lt _ X;omega
 .have:=hm.lt i p _ hp e;omega
 .rw[Nat.zero_add,O];simp at hk;refine⟨?_,rfl⟩;rw[<- hc,Array.getElem?_append_left (by simpa using hk)];simp[hk]
 .rw[List.getElem?_map] at hk;cases C:b.data.toList[k]? with
  |none=>simp[C] at hk
  |some c=>
   simp[C] at hk;subst hk;have:b.data.toList.getD k 0=c:=by simp only[dN,C,Option.getD_some]
   simp only[this];exact .s _ rfl
theorem ach(hm:ax P F m β w){ts:Array TypeId}{d:D}{x:Value}{e:cR}{ty:TypeId}(O:ts.size≠0)(hx:R F β w d x)(h:kJ P m (ts.getD 0 0) d=some e)(hp:e.pre):
 e.aL=[]/\e.new=0/\aK P F m nx β w e (do Pure.pure (Next.value (<- Builtin.len_ ts ty #[x]))):=by
 obtain⟨t,C⟩:∃ t,ts[0]? =some t:=⟨ts[0]'oG,oS⟩
 have ht:ts.getD 0 0=t:=by simp[Array.getD_eq_getD_getElem?,C]
 rw[ht] at h
 have sl:∀ {a:Option Addr} {k c:Nat},aW P t=true->x=.slice a k c->(Builtin.len_ ts ty #[x]).run P w=.ok (.int .i64 k) w:=by
  rintro a k c hs rfl;simp[Builtin.len_,C,run_underlying (ia hs).1,goInt]
 cases d with
 |sl es n=>
  simp only[kJ,aH] at h;subst h;refine⟨rfl,rfl,aK.val hm (v:=.int .i64 n) ?_ (.s _ rfl)⟩;rcases hx.tf with⟨_,rfl,a,cap,hv⟩|⟨b,o,cap,hv,_⟩<;>simp only[Sem.run_bind,sl hp hv,Result.andThen_ok,Sem.run_pure]
 |z=>
  simp only[kJ,aH] at h;subst h;refine⟨rfl,rfl,aK.val hm (v:=.int .i64 0) ?_ (.s _ rfl)⟩;obtain⟨a,hv⟩:=hx.Ac;simp only[Sem.run_bind,sl hp hv,Result.andThen_ok,Sem.run_pure];rfl
 |rs i off n=>
  simp only[kJ] at h;cases hi:m i with
  |none=>simp[hi] at h
  |some r=>
  simp only[hi,aH] at h;subst h;obtain⟨p,J,af⟩:=hm.row i _ hi;obtain⟨a,cap,hv⟩:=hx.aaD ⟨p,J,P' af⟩;refine⟨rfl,rfl,aK.val hm (v:=.int .i64 n) ?_ (.s _ rfl)⟩;simp only[Sem.run_bind,sl hp hv,Result.andThen_ok,Sem.run_pure]
 |agg cs=>
  simp only[kJ,aH] at h;subst h;refine⟨rfl,rfl,aK.val hm (v:=.int .i64 (nM P t)) ?_ (.s _ rfl)⟩;simp[Builtin.len_,C,run_underlying (I4 hp).1,goInt]
 |s v=>
  cases v with
  |string b=>
   simp only[kJ,aH] at h;subst h;obtain⟨rfl,_⟩:=hx.cm;refine⟨rfl,rfl,aK.val hm (v:=.int .i64 b.size) ?_ (.s _ rfl)⟩;simp[Builtin.len_,C,run_underlying (uG hp),goInt]
  |_=>simp[kJ] at h
 |_=>simp[kJ] at h
theorem Q4(hm:ax P F m β w){ts:Array TypeId}{ty:TypeId}{k:IntKind}{a b:Int}{x y:Value}{pre:Prop}(hx:R F β w (.s (.int k a)) x)(hy:R F β w (.s (.int k b)) y):
 aK P F m nx β w { pre:=pre,val:=.s (.int k (if b<a then b else a)) } (do Pure.pure (Next.value (<- Builtin.min_ ts ty #[x,y]))):=by
 obtain⟨rfl,_⟩:=hx.cm;obtain⟨rfl,_⟩:=hy.cm;exact aK.val hm (v:=.int k (if b<a then b else a)) (by simp[Builtin.min_,Builtin.min2]) (.s _ rfl)
theorem Ze(hm:ax P F m β w){ts:Array TypeId}{ty:TypeId}{i off n:Nat}{x:Value}{cs:List D}{e:TypeId}{pre:Prop}{rd:List Nat}(kQ:ts.size≠0)(hx:R F β w (.rs i off n) x)(hi:m i=some (.cells cs e))(ht:aW P (ts.getD 0 0)=true)
 (hl:off+n*P.cellsOf e<=cs.length) (he:e=aq P (ts.getD 0 0)):
 aK P F m nx β w { pre:=pre,val:=.aT [],aL:=[(i,some (.cells (dL cs off (dq n (aV P e))) e))],rd:=rd } (do Pure.pure (Next.value (<- Builtin.clear_ ts ty #[x]))):=by
 obtain⟨t,X⟩:∃ t,ts[0]? =some t:=⟨ts[0]'oG,oS⟩
 have Hs:ts.getD 0 0=t:=by simp[Array.getD_eq_getD_getElem?,X]
 rw[Hs] at ht he;obtain⟨hu,cn⟩:=ia ht;rw[<- he] at hu cn;obtain⟨z,hz,C,h3,h4⟩:=wP (P:=P) w cn;have U:(aV P e).length=P.cellsOf e:=by rw[h3];simp[C]
 have self:dL cs off (dq 0 (aV P e))=cs:=by
  rw[IE (by simp[dq];omega)];simp[dq]
 have Gb:up m i (some (.cells cs e))=m:=by
  funext j;by_cases hj:j=i
  .subst hj;rw[ai,hi]
  .rw[aA _ _ hj]
 have zero:n=0->(∃ a c,x=.slice a 0 c)->aK P F m nx β w { pre:=pre,val:=.aT [],aL:=[(i,some (.cells (dL cs off (dq n (aV P e))) e))],rd:=rd } (do Pure.pure (Next.value (<- Builtin.clear_ ts ty #[x]))):=by
  rintro rfl ⟨a,c,rfl⟩;refine⟨.value (.tuple #[]),.tuple #[],w,β,?_,.inl rfl,.aT [] [] rfl oS,?_,Step.refl β w,fun _ h _=>h⟩
  .cases a<;>simp[Builtin.clear_,X,run_underlying hu]
  .simp only[bT,self,Gb];exact hm
 rcases hx.vi hm hi with⟨_,rfl,rfl,jJ,a,rfl⟩|⟨b,o,room,hβ,af,jm⟩
 .exact zero rfl ⟨a,0,rfl⟩
 .rcases jm with⟨rfl,a,rfl⟩|⟨cap,rfl,g1,g2,g3,g4⟩
  .exact zero rfl ⟨a,0,rfl⟩
  .cases n with
   |zero=>exact zero rfl ⟨_,cap,rfl⟩
   |succ n=>
    have J:=Jw (F:=F) (β:=β) (w:=w) (P:=P) C h3 h4 (n+1) ((n+1)*P.cellsOf e) rfl z.cells (fun _=>rfl)
    obtain⟨w',bF,gn,hs⟩:=H' (P:=P) hm hβ af (off:=off) (ds:=dq (n+1) (aV P e)) (vs:=(Builtin.zeroCells z.cells (n+1)).toList) (by
     have:=J.1
     simpa[Builtin.zeroCells,C] using this) (by rw[Bu,U];exact hl) (fun u hu=>by
     have O:(Builtin.zeroCells z.cells (n+1)).toList=((Array.range ((n+1)*P.cellsOf e)).map (z.cells[· % z.cells.size]!)).toList:=by simp[Builtin.zeroCells,C]
     rw[O] at hu;obtain⟨k,hk⟩:=fI hu;have ag:=(bU.1 hk).1;have:k<(dq (n+1) (aV P e)).length:=by rw[<- J.1];exact ag
     exact(J.2 k _ u (by simp[this];rfl) hk).2) (fun k d u hk hu=>by
     have O:(Builtin.zeroCells z.cells (n+1)).toList=((Array.range ((n+1)*P.cellsOf e)).map (z.cells[· % z.cells.size]!)).toList:=by simp[Builtin.zeroCells,C]
     rw[O] at hu
     exact(J.2 k d u hk hu).1)
    refine⟨.value (.tuple #[]),.tuple #[],w',β,?_,.inl rfl,.aT [] [] rfl oS,gn,hs,fun _ h _=>h⟩;simp[Builtin.clear_,X,run_underlying hu,hz,bF]
theorem Xc(hm:ax P F m β w){cs:List D}{x:Value}{pre:Prop}(hx:R F β w (.pt cs) x):∃ a,x=.pointer (some a)/\aK P F m nx β w { pre:=pre,val:=.pt cs } (Pure.pure (Next.value x)):=by
 obtain⟨b,o,rfl,_⟩:=hx.FE;exact⟨_,rfl,aK.val hm rfl hx⟩
theorem Xd(hm:ax P F m β w){i off:Nat}{x:Value}{pre:Prop}{rd:List Nat}{r:Row}(hx:R F β w (.rp i off) x)(hi:m i=some r):∃ a,x=.pointer (some a)/\aK P F m nx β w { pre:=pre,val:=.rp i off,rd:=rd } (Pure.pure (Next.value x)):=by
 obtain⟨p,hp,af⟩:=hm.row i _ hi;obtain⟨b,bo,len,room,sz,C,rfl⟩:=hx.J6 hp af;exact⟨_,rfl,aK.val hm rfl hx⟩
theorem XT(hm:ax P F m β w)(hn:β nx=none){t:TypeId}{pre:Prop}:
 aK P F m nx β w { pre:=pre,val:=.mp nx,aL:=[(nx,some (.map []))],new:=1 } (do Pure.pure (Next.value (<- Instr.makeMap t none))):=by
 have hp:∀ b,(Pl.map w.heap.size).bA=some b->b=w.heap.size:=fun b hb=>by simp[Pl.bA] at hb;exact hb.symm
 refine⟨.value (.map (some w.heap.size)),_,w.alloc (.map #[] 0),up β nx (some (.map w.heap.size)),?_,.inl rfl,.mp nx _ (ai _ _ _),hm.alloc hn _ _ _ hp ?_,zh hm _ hn _ hp,uH⟩
 .simp[Instr.makeMap]
 .exact .map [] w.heap.size #[] 0 (heap_alloc_new w _) rfl oS oS
theorem aaE(hm:ax P F m β w){t:Bool}{X O U:Value}{C J:D}{pre:Prop}(hc:X=.bool t)(ha:R F β w C O)(hb:R F β w J U)(h1:t=true->C.ask/\C.core.eT.isSome=true)(h2:t=false->J.ask/\J.core.eT.isSome=true):
 aK P F m nx β w { pre:=pre,val:=.s (.bool (if t then C.core.eT.getD false else J.core.eT.getD false)) } (do Pure.pure (Next.value (if<- asBool X then O else U))):=by
 subst hc
 have inv:∀ {d:D} {v:Value},R F β w d v->d.ask/\d.core.eT.isSome=true->v=.bool (d.core.eT.getD false):=fun {d v} h hk=>by
  have:=h.uO d hk.1;have hb:=hk.2;unfold D.eT at hb ⊢;split at hb
  .rename_i b he;rw[he] at this;rw[this.cm.1];rfl
  .cases hb
 cases t with
 |true=>
  have:=inv ha (h1 rfl);rw[this];exact aK.val hm (v:=.bool (C.core.eT.getD false)) (by simp[asBool]) (.s _ rfl)
 |false=>
  have:=inv hb (h2 rfl);rw[this];exact aK.val hm (v:=.bool (J.core.eT.getD false)) (by simp[asBool]) (.s _ rfl)
end
end Go.Abs
