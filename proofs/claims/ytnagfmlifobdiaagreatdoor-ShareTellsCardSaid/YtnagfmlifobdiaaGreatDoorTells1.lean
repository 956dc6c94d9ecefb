/- Part 1. -/
import Derived.ChangeKeysEq
import Derived.DeepKeys3
import Derived.KernelRfl
import Derived.Laws.BytesArg
import Derived.Laws.Concat
import Derived.Lib.UnsafeStr
import Derived.OrdersIn
import Derived.ProofKit
import Derived.RangeFuncLeaves
import Derived.WalkKit
import Derived.WideKeyMaps
set_option linter.all false
theorem kr {α:Sort _} {a b:α} (h:a=b:=by kernel_rfl):a=b:=h
theorem a8{α : Type _}{l : List α}{i : Nat}(h : i < l.length) : l[i]? = some l[i] := List.getElem?_eq_getElem h
theorem du{α : Type _}{l : List α}{i : Nat}{a : α} : l.getD i a = l[i]?.getD a := List.getD_eq_getElem?_getD
theorem aH{α : Type _}(a b : α) : (some a = some b) = (a = b) := Option.some.injEq a b
theorem bM{α : Type _}{l : List α}{i : Nat}{a : α} : l[i]? = some a ↔ ∃ h : i < l.length, l[i] = a := List.getElem?_eq_some_iff
theorem ba(a b : Bool) : ((a && b) = true) = (a = true ∧ b = true) := Bool.and_eq_true a b
theorem bF{n m : Nat}(h : Nat.ble n m = true) : n ≤ m := Nat.le_of_ble_eq_true h
theorem iv(n : Nat) : ((n : Int)).toNat = n := Int.toNat_natCast n
theorem gi{α : Type _}{l : List α}{n : Nat}(h : n < l.length) : l[n] ∈ l := List.getElem_mem h
theorem iQ{a : Int}(h : 0 ≤ a) : ∃ n : Nat, a = n := Int.eq_ofNat_of_zero_le h
theorem bz{α : Type _}{l : List α}{i : Nat}{a : α}(e : l[i]? = some a) : a ∈ l := List.mem_of_getElem? e
theorem dv{α : Type _}{l : List α}{i : Nat}(h : l.length ≤ i) : List.take i l = l := List.take_of_length_le h
theorem cU{α β : Type _}{f : α → β}{x : Option α}{b : β} : x.map f = some b ↔ ∃ a, x = some a ∧ f a = b := Option.map_eq_some_iff
theorem ep{α : Type _}{a : α}{l : List α}(h : a ∈ l) : ∃ i : Nat, l[i]? = some a := List.getElem?_of_mem h
theorem bV{α : Type _}{p : α → Bool}{l : List α} : l.all p = true ↔ ∀ x ∈ l, p x = true := List.all_eq_true
theorem bP{α β : Type _}(a : α)(b : β)(c : α)(d : β) : ((a, b) = (c, d)) = (a = c ∧ b = d) := Prod.mk.injEq a b c d
theorem bc(n : Nat) : n ≤ n := Nat.le_refl n
theorem oS{p : Prop}(h : p:=by simp) : p:=h
theorem oM{p : Prop}(h : p:=by dsimp only;omega) : p:=h
theorem oC{p : Prop}(h : p:=by decide) : p:=h
theorem oN{p : Prop}(h : p:=by assumption) : p:=h
theorem oP{p : Prop}(h : p:=by simp;omega) : p:=h
theorem oH{p : Prop}(h : p:=by cases h) : p:=h
theorem aP{p : Prop}(h : p:=by repeat' (first|exact trivial|exact rfl|refine And.intro ?_ ?_)) : p:=h
theorem cE{p : Prop}(h : p:=by simp[pH]) : p:=h
theorem cF{p : Prop}(h : p:=by simp[Op.operands]) : p:=h
theorem amp{p : Prop}(h : p:=by first|(simp;done)|exact⟨rfl,bF rfl⟩|(simp;omega)) : p:=h
theorem amq{p : Prop}(h : p:=by first|(simp;done)|omega|exact bF rfl) : p:=h
theorem amr{p : Prop}(h : p:=by first|rfl|exact bF rfl|(simp;done)|(simp;omega)|omega) : p:=h
theorem oG{p:Prop}(h:p:=by omega):p:=h
theorem eG{p:Prop}(h:p:=by repeat' (first|exact trivial|exact rfl|refine And.intro ?_ ?_)):p:=h
namespace Go.Abs
inductive D where
 |u
 |s (v:Value)
 |ub
 |cw (c:Bool) (d:D)
 |agg (cs:List D)
 |aM (cs:List D)
 |z
 |sl (es:List D) (n:Nat)
 |sc (es:List D) (n:Nat)
 |pt (cs:List D)
 |rs (i off n:Nat)
 |rp (i off:Nat)
 |mp (i:Nat)
 |im (es:List (Value×D))
 |fn (f:Fn) (fs cs:List D)
 deriving Inhabited
inductive Pl where
 |dead
 |nil
 |cells (b o len room sz:Nat)
 |map (r:Nat)
 |raw (r:Nat)
def Pl.bG:Pl->Option Nat
 | .cells b _ _ _ _=>some b
 | .map r=>some r
 | .raw r=>some r
 |_=>none
def plain:Value->Bool
 | .bool _ | .int _ _ | .string _ | .pointer none | .nilFunc | .nilIface | .map none=>true
 |_=>false
abbrev aE:=Nat->Option Pl
def aE.free(β:aE)(b:Nat):Prop:=∀ i p,β i=some p->p.bG≠some b
inductive R(F:Nat->Prop)(β:aE)(w:World):D->Value->Prop
 |u (v:Value):R F β w .u v
 |s (v:Value) (h:plain v=true):R F β w (.s v) v
 |ub (b:Bool):R F β w .ub (.bool b)
 |cw (c:Bool) (d:D) (v:Value) (h:c=true->R F β w d v) (h':c=false->v=undef):R F β w (.cw c d) v
 |agg (cs:List D) (vs:List Value) (hl:vs.length=cs.length) (h:∀ (k:Nat) (d:D) (v:Value),cs[k]? =some d->vs[k]? =some v->R F β w d v):R F β w (.agg cs) (.agg vs.toArray)
 |aM (cs:List D) (vs:List Value) (hl:vs.length=cs.length) (h:∀ (k:Nat) (d:D) (v:Value),cs[k]? =some d->vs[k]? =some v->R F β w d v):R F β w (.aM cs) (.tuple vs.toArray)
 |z (a:Option Addr):R F β w .z (.slice a 0 0)
 |gg (a:Option Addr) (cap:Nat):R F β w (.sl [] 0) (.slice a 0 cap)
 |sl (es:List D) (n b o cap:Nat) (us:Nat->Value) (hf:¬ F b) (hb:β.free b) (ah:b<w.heap.size) (ot:n<=cap) (dh:cap<=maxLen)
  (hc:∀ k:Nat,k<es.length->w.cell? ⟨b,o+k,none⟩=some (us k)/\(us k).oneCell'=true) (h:∀ (k:Nat) (d:D),es[k]? =some d->R F β w d (us k)):R F β w (.sl es n) (.slice (some ⟨b,o,none⟩) n cap)
 |sc (es:List D) (n:Nat) (a:Option Addr) (h:R F β w (.sl es n) (.slice a n n)):R F β w (.sc es n) (.slice a n n)
 |pt (cs:List D) (b o:Nat) (us:Nat->Value) (hf:¬ F b) (hb:β.free b) (ah:b<w.heap.size)
  (hc:∀ k:Nat,k<cs.length->w.cell? ⟨b,o+k,none⟩=some (us k)/\(us k).oneCell'=true) (h:∀ (k:Nat) (d:D),cs[k]? =some d->R F β w d (us k)):R F β w (.pt cs) (.pointer (some ⟨b,o,none⟩))
 |kG (i off n:Nat) (v:Value) (h:β i=some .dead) (hv:v.oneCell'=true):R F β w (.rs i off n) v
 |iO (i:Nat) (a:Option Addr) (h:β i=some .nil):R F β w (.rs i 0 0) (.slice a 0 0)
 |jK (i off:Nat) (a:Option Addr) (b o len room sz:Nat) (h:β i=some (.cells b o len room sz)):R F β w (.rs i off 0) (.slice a 0 0)
 |rs (i off n cap b o len room sz:Nat) (h:β i=some (.cells b o len room sz)) (hn:n<=cap) (dh:cap<=maxLen)
  (h1:len<=off+cap*sz) (h2:off+cap*sz<=room):R F β w (.rs i off n) (.slice (some ⟨b,o+off,none⟩) n cap)
 |qk (i off:Nat) (v:Value) (h:β i=some .dead) (hv:v.oneCell'=true):R F β w (.rp i off) v
 |rp (i off b o len room sz:Nat) (h:β i=some (.cells b o len room sz)):R F β w (.rp i off) (.pointer (some ⟨b,o+off,none⟩))
 |yM (i:Nat) (v:Value) (h:β i=some .dead) (hv:v.oneCell'=true):R F β w (.mp i) v
 |mp (i r:Nat) (h:β i=some (.map r)):R F β w (.mp i) (.map (some r))
 |im (es:List (Value×D)) (r:Nat) (ms:Array MapEntry) (clock:Nat) (hf:¬ F r) (hb:β.free r) (hc:w.heap[r]? =some (.map ms clock)) (hl:ms.size=es.length) (dZ:(es.map (·.1)).Nodup)
  (hk:∀ (k:Nat) (x:Value×D) (m:MapEntry),es[k]? =some x->ms[k]? =some m->m.key=x.1) (h:∀ (k:Nat) (x:Value×D) (m:MapEntry),es[k]? =some x->ms[k]? =some m->R F β w x.2 m.val):R F β w (.im es) (.map (some r))
 |fn (f:Fn) (fs cs:List D) (us vs:List Value) (hl:us.length=fs.length) (ll:vs.length=cs.length)
  (h:∀ (k:Nat) (d:D) (v:Value),fs[k]? =some d->us[k]? =some v->R F β w d v) (h':∀ (k:Nat) (d:D) (v:Value),cs[k]? =some d->vs[k]? =some v->R F β w d v):R F β w (.fn f fs cs) (.func f us.toArray vs.toArray)
abbrev Out(w w':World):Prop:=w'.os=w.os/\w'.output=w.output
theorem Out.trans{C J M:World}(h:Out C J)(k:Out J M):Out C M:=⟨k.1.trans h.1,k.2.trans h.2⟩
structure Step(β:aE)(w:World)(β':aE)(w':World):Prop where
 size:w.heap.size<=w'.heap.size
 dd:∀ b,b<w.heap.size->β.free b->w'.heap[b]? =w.heap[b]? /\β'.free b
 keep:∀ i p,β i=some p->β' i=some p\/β' i=some .dead
 out:Out w w'
theorem Step.refl(β:aE)(w:World):Step β w β w:=⟨bc _,fun _ _ h=>⟨rfl,h⟩,fun _ _ h=>.inl h,rfl,rfl⟩
theorem Step.trans{U X β₃:aE}{C J M:World}(h:Step U C X J)(k:Step X J β₃ M):Step U C β₃ M:=by
 refine⟨Nat.le_trans h.size k.size,fun b hb hf=>?_,fun i p hp=>?_,h.out.trans k.out⟩
 .obtain⟨h1,h2⟩:=h.dd b hb hf;obtain⟨k1,k2⟩:=k.dd b (Nat.lt_of_lt_of_le hb h.size) h2;exact⟨k1.trans h1,k2⟩
 .rcases h.keep i p hp with h1|h1
  .exact k.keep i p h1
  .right;rcases k.keep i _ h1 with h2|h2<;>exact h2
theorem cell_of_heap{w w':World}{b o:Nat}(h:w'.heap[b]? =w.heap[b]?):w'.cell? ⟨b,o,none⟩=w.cell? ⟨b,o,none⟩:=by
 simp[World.cell?,h]
def ku(w w':World)(b:Nat):Prop:=(∀ o u,w.cell? ⟨b,o,none⟩=some u->w'.cell? ⟨b,o,none⟩=some u)/\∀ ms c,w.heap[b]? =some (.map ms c)->w'.heap[b]? =some (.map ms c)
theorem tE{w w':World}{b:Nat}(h:w'.heap[b]? =w.heap[b]?):ku w w' b:=⟨fun _ _ hu=>(cell_of_heap h).trans hu,fun _ _ hm=>h.trans hm⟩
theorem ku.refl(w:World)(b:Nat):ku w w b:=⟨fun _ _ h=>h,fun _ _ h=>h⟩
theorem R.gen{F F':Nat->Prop}{β β':aE}{w w':World}(bC:w.heap.size<=w'.heap.size)
 (U:∀ b,b<w.heap.size->¬ F b->β.free b->ku w w' b/\β'.free b/\¬ F' b)
 (J:∀ i p,(∀ r,p≠ .raw r)->β i=some p->β' i=some p\/β' i=some .dead) {d:D} {v:Value} (h:R F β w d v):R F' β' w' d v:=by
 induction h with
 |u v=>exact .u v
 |s v h=>exact .s v h
 |ub b=>exact .ub b
 |cw c d v _ h' ih=>exact .cw c d v ih h'
 |agg cs vs hl _ ih=>exact .agg cs vs hl ih
 |aM cs vs hl _ ih=>exact .aM cs vs hl ih
 |z a=>exact .z a
 |gg a cap=>exact .gg a cap
 |sl es n b o cap us hf hb ah ot dh hc _ ih=>
  obtain⟨h1,h2,C⟩:=U b ah hf hb;exact .sl es n b o cap us C h2 (Nat.lt_of_lt_of_le ah bC) ot dh (fun k hk=>⟨h1.1 _ _ (hc k hk).1,(hc k hk).2⟩) ih
 |sc es n a _ ih=>exact .sc es n a ih
 |pt cs b o us hf hb ah hc _ ih=>
  obtain⟨h1,h2,C⟩:=U b ah hf hb;exact .pt cs b o us C h2 (Nat.lt_of_lt_of_le ah bC) (fun k hk=>⟨h1.1 _ _ (hc k hk).1,(hc k hk).2⟩) ih
 |kG i off n v h hv=>exact .kG i off n v (by rcases J i _ oS h with h1|h1<;>exact h1) hv
 |iO i a h=>
  rcases J i _ oS h with h1|h1
  .exact .iO i a h1
  .exact .kG i 0 0 _ h1 rfl
 |jK i off a b o len room sz h=>
  rcases J i _ oS h with h1|h1
  .exact .jK i off a b o len room sz h1
  .exact .kG i off 0 _ h1 rfl
 |rs i off n cap b o len room sz h hn dh h1 h2=>
  rcases J i _ oS h with C|C
  .exact .rs i off n cap b o len room sz C hn dh h1 h2
  .exact .kG i off n _ C rfl
 |qk i off v h hv=>exact .qk i off v (by rcases J i _ oS h with h1|h1<;>exact h1) hv
 |rp i off b o len room sz h=>
  rcases J i _ oS h with h1|h1
  .exact .rp i off b o len room sz h1
  .exact .qk i off _ h1 rfl
 |yM i v h hv=>exact .yM i v (by rcases J i _ oS h with h1|h1<;>exact h1) hv
 |mp i r h=>
  rcases J i _ oS h with h1|h1
  .exact .mp i r h1
  .exact .yM i _ h1 rfl
 |im es r ms clock hf hb hc hl dZ hk _ ih=>
  obtain⟨h1,h2,C⟩:=U r (Array.getElem?_eq_some_iff.1 hc).1 hf hb;exact .im es r ms clock C h2 (h1.2 _ _ hc) hl dZ hk ih
 |fn f fs cs us vs hl ll _ _ ih M=>exact .fn f fs cs us vs hl ll ih M
theorem R.step{F:Nat->Prop}{β β':aE}{w w':World}(hs:Step β w β' w'){d:D}{v:Value}(h:R F β w d v):R F β' w' d v:=
 h.gen hs.size (fun b hb hf C=>⟨tE (hs.dd b hb C).1,(hs.dd b hb C).2,hf⟩) fun i p _=>hs.keep i p
inductive Row where
 |cells (cs:List D) (e:TypeId)
 |map (es:List (Value×D))
 |raw (r:Nat) (o:Obj)
 |bs (u:Bool) (x:D) (T:TypeId)
 |ia (f:Nat->Option Nat) (r:Row)
abbrev Mem:=Nat->Option Row
inductive k9(P:Program)(F:Nat->Prop)(β:aE)(w:World):Row->Pl->Prop
 |nil (e:TypeId):k9 P F β w (.cells [] e) .nil
 |cells (cs:List D) (e:TypeId) (b o room sz:Nat) (c:Array Value) (hb:w.heap[b]? =some (.cells c e (0,0))) (hr:o+room<=c.size) (hlen:cs.length<=room) (bC:sz=P.cellsOf e)
  (h:∀ (k:Nat) (d:D),cs[k]? =some d->∃ v,c[o+k]? =some v/\R F β w d v/\v.oneCell'=true):k9 P F β w (.cells cs e) (.cells b o cs.length room sz)
 |map (es:List (Value×D)) (r:Nat) (ms:Array MapEntry) (clock:Nat) (hb:w.heap[r]? =some (.map ms clock)) (hl:ms.size=es.length) (dZ:(es.map (·.1)).Nodup)
  (h:∀ (k:Nat) (x:Value×D) (m:MapEntry),es[k]? =some x->ms[k]? =some m->m.key=x.1/\R F β w x.2 m.val):k9 P F β w (.map es) (.map r)
 |raw (r:Nat) (o:Obj) (hb:w.heap[r]? =some o):k9 P F β w (.raw r o) (.raw r)
 |bs (u:Bool) (x:D) (T:TypeId) (b:Nat) (v:Value) (hb:w.heap[b]? =some (.cells #[.pointer (if u then some ⟨b,0,none⟩ else none),v] T (0,0))) (bC:P.cellsOf T=2) (h:R F β w x v) (h1:v.oneCell'=true):k9 P F β w (.bs u x T) (.cells b 0 2 2 2)
def aE.via(β:aE)(f:Nat->Option Nat):aE:=fun i=>(f i).bind β
inductive cB(P:Program)(F:Nat->Prop)(β:aE)(w:World):Row->Pl->Prop
 |nil (e:TypeId):cB P F β w (.cells [] e) .nil
 |cells (cs:List D) (e:TypeId) (b o room sz:Nat) (c:Array Value) (hb:w.heap[b]? =some (.cells c e (0,0))) (hr:o+room<=c.size) (hlen:cs.length<=room) (bC:sz=P.cellsOf e)
  (h:∀ (k:Nat) (d:D),cs[k]? =some d->∃ v,c[o+k]? =some v/\R F β w d v/\v.oneCell'=true):cB P F β w (.cells cs e) (.cells b o cs.length room sz)
 |map (es:List (Value×D)) (r:Nat) (ms:Array MapEntry) (clock:Nat) (hb:w.heap[r]? =some (.map ms clock)) (hl:ms.size=es.length) (dZ:(es.map (·.1)).Nodup)
  (h:∀ (k:Nat) (x:Value×D) (m:MapEntry),es[k]? =some x->ms[k]? =some m->m.key=x.1/\R F β w x.2 m.val):cB P F β w (.map es) (.map r)
 |raw (r:Nat) (o:Obj) (hb:w.heap[r]? =some o):cB P F β w (.raw r o) (.raw r)
 |bs (u:Bool) (x:D) (T:TypeId) (b:Nat) (v:Value) (hb:w.heap[b]? =some (.cells #[.pointer (if u then some ⟨b,0,none⟩ else none),v] T (0,0))) (bC:P.cellsOf T=2) (h:R F β w x v) (h1:v.oneCell'=true):cB P F β w (.bs u x T) (.cells b 0 2 2 2)
 |ia (f:Nat->Option Nat) (r:Row) (p:Pl) (F₂:Nat->Prop) (h1:∀ b,F b->F₂ b) (h2:∀ b,¬ β.free b->(β.via f).free b->F₂ b) (h:k9 P F₂ (β.via f) w r p):cB P F β w (.ia f r) p
def uk:List (Nat×Array Value):=[(0, #[.int .u64 1,.int .u64 10,.int .u64 100,.int .u64 1000,.int .u64 10000,.int .u64 100000,.int .u64 1000000,.int .u64 10000000,.int .u64 100000000,.int .u64 1000000000,.int .u64 10000000000,.int .u64 100000000000,.int .u64 1000000000000,.int .u64 10000000000000,.int .u64 100000000000000,.int .u64 1000000000000000,.int .u64 10000000000000000,.int .u64 100000000000000000,.int .u64 1000000000000000000,.int .u64 10000000000000000000])]
def Ap(w:World)(t:Nat×Array Value):Prop:=∃ e k,w.heap[t.1]? =some (.cells t.2 e k)
theorem Ap.of{w w':World}{t:Nat×Array Value}(h:Ap w t)(hk:w'.heap[t.1]? =w.heap[t.1]?):Ap w' t:=by
 obtain⟨e,k,h⟩:=h;exact⟨e,k,hk.trans h⟩
structure FB(F:Nat->Prop)(w:World):Prop where
 lt:∀ b,F b->b<w.heap.size
 ma:∀ t∈uk,F t.1/\Ap w t
theorem FB.next{F F':Nat->Prop}{w w':World}(h:FB F w)(ah:∀ b,F' b->b<w'.heap.size)(C:∀ b,F b->F' b)(hk:∀ t∈uk,F t.1->w'.heap[t.1]? =w.heap[t.1]?):FB F' w':=
 ⟨ah,fun t ht=>⟨C _ (h.ma t ht).1,(h.ma t ht).2.of (hk t ht (h.ma t ht).1)⟩⟩
theorem abL{w:World}{t:Nat×Array Value}(h:Ap w t)(x:Option (List Deferred)):w.heap[t.1]? ≠some (.deferred x):=by
 obtain⟨e,k,h⟩:=h;rw[h];simp
structure aK(P:Program)(F:Nat->Prop)(m:Mem)(β:aE)(w:World):Prop where
 row:∀ i r,m i=some r->∃ p,β i=some p/\cB P F β w r p
 inj:∀ i j p q b,β i=some p->β j=some q->p.bG=some b->q.bG=some b->i=j
 lt:∀ i p b,β i=some p->p.bG=some b->b<w.heap.size
 nf:∀ i p b,β i=some p->p.bG=some b->¬ F b
 fb:FB F w
def up{α:Type}(f:Nat->α)(k:Nat)(v:α):Nat->α:=fun j=>if j=k then v else f j
theorem B5{α:Type}(f:Nat->α)(k:Nat)(v:α)(j:Nat):up f k v j=if j=k then v else f j:=rfl
theorem al{α:Type}(f:Nat->α)(k:Nat)(v:α):up f k v k=v:=by simp[up]
theorem aB{α:Type}(f:Nat->α){k:Nat}(v:α){j:Nat}(h:j≠k):up f k v j=f j:=by simp[up,h]
section
variable{P:Program}{F:Nat->Prop}{β β':aE}{w w':World}{m:Mem}
theorem k9.gen{F':Nat->Prop}(bC:w.heap.size<=w'.heap.size)
 (J:∀ b,b<w.heap.size->¬ F b->β.free b->ku w w' b/\β'.free b/\¬ F' b)
 (C:∀ i p,(∀ r,p≠ .raw r)->β i=some p->β' i=some p\/β' i=some .dead) {r:Row} {p:Pl} (hb:∀ b,p.bG=some b->w'.heap[b]? =w.heap[b]?) (h:k9 P F β w r p):k9 P F' β' w' r p:=by
 cases h with
 |nil e=>exact .nil e
 |cells cs e b o room sz c hc hr hlen hs hh=>
  refine .cells cs e b o room sz c ((hb b rfl).trans hc) hr hlen hs fun k d hk=>?_;obtain⟨v,h1,h2,M⟩:=hh k d hk;exact⟨v,h1,h2.gen bC J C,M⟩
 |map es r ms clock hc hl dZ hh=>
  refine .map es r ms clock ((hb r rfl).trans hc) hl dZ fun k x U hk hm=>?_;obtain⟨h1,h2⟩:=hh k x U hk hm;exact⟨h1,h2.gen bC J C⟩
 |raw r o hc=>exact .raw r o ((hb r rfl).trans hc)
 |bs u x T b v hc hs hx h1=>exact .bs u x T b v ((hb b rfl).trans hc) hs (hx.gen bC J C) h1
theorem aE.oZ{β:aE}{b:Nat}(h:β.free b)(f:Nat->Option Nat):(β.via f).free b:=fun i p hp=>by
 unfold aE.via at hp;obtain⟨j,_,hj⟩:=Option.bind_eq_some_iff.1 hp;exact h j p hj
theorem cB.gen{F':Nat->Prop}(bC:w.heap.size<=w'.heap.size)
 (M:∀ b,b<w.heap.size->¬ F b->β.free b->ku w w' b/\β'.free b/\¬ F' b)
 (J:∀ i p,(∀ r,p≠ .raw r)->β i=some p->β' i=some p\/β' i=some .dead) {r:Row} {p:Pl} (hb:∀ b,p.bG=some b->w'.heap[b]? =w.heap[b]?) (h:cB P F β w r p):cB P F' β' w' r p:=by
 cases h with
 |nil e=>exact .nil e
 |cells cs e b o room sz c hc hr hlen hs hh=>
  refine .cells cs e b o room sz c ((hb b rfl).trans hc) hr hlen hs fun k d hk=>?_;obtain⟨v,h1,h2,h3⟩:=hh k d hk;exact⟨v,h1,h2.gen bC M J,h3⟩
 |map es r ms clock hc hl dZ hh=>
  refine .map es r ms clock ((hb r rfl).trans hc) hl dZ fun k x mm hk hm=>?_;obtain⟨h1,h2⟩:=hh k x mm hk hm;exact⟨h1,h2.gen bC M J⟩
 |raw r o hc=>exact .raw r o ((hb r rfl).trans hc)
 |bs u x T b v hc hs hx h1=>exact .bs u x T b v ((hb b rfl).trans hc) hs (hx.gen bC M J) h1
 |ia f r _ F₂ h1 h2 h=>
  refine .ia f r p (fun b=>F' b\/(¬ β'.free b/\(β'.via f).free b)) (fun b hb=>.inl hb) (fun b C U=>.inr ⟨C,U⟩) (h.gen bC (fun b ah C U=>?_) (fun i q hq hi=>?_) hb)
  .have g3:β.free b:=Classical.byContradiction fun hn=>C (h2 b hn U);obtain⟨k1,X,k3⟩:=M b ah (fun e=>C (h1 b e)) g3;exact⟨k1,aE.oZ X f,fun e=>e.elim k3 fun e=>e.1 X⟩
  .unfold aE.via at hi ⊢;obtain⟨j,hj,hβ⟩:=Option.bind_eq_some_iff.1 hi;rw[hj];exact J j q hq hβ
theorem cB.step{r:Row}{p:Pl}(hs:Step β w β' w')(hb:∀ b,p.bG=some b->w'.heap[b]? =w.heap[b]?)(h:cB P F β w r p):cB P F β' w' r p:=
 h.gen hs.size (fun b hb hf C=>⟨tE (hs.dd b hb C).1,(hs.dd b hb C).2,hf⟩) (fun i p _=>hs.keep i p) hb
theorem k9.live{r:Row}{p:Pl}(h:k9 P F β w r p):p≠ .dead:=by cases h<;>simp
theorem cB.live{r:Row}{p:Pl}(h:cB P F β w r p):p≠ .dead:=by
 cases h with
 |ia _ _ _ _ _ _ h=>exact h.live
 |_=>simp
def Row.lX(f:Nat->Option Nat):Row->Row
 | .ia g r=>.ia (fun i=>(g i).bind f) r
 |r=>.ia f r
theorem cB.base{r:Row}{p:Pl}(hq:∀ f r',r≠ .ia f r')(h:cB P F β w r p):k9 P F β w r p:=by
 cases h with
 |nil e=>exact .nil e
 |cells cs e b o room sz c hc hr hlen hs hh=>exact .cells cs e b o room sz c hc hr hlen hs hh
 |map es r ms clock hc hl dZ hh=>exact .map es r ms clock hc hl dZ hh
 |raw r o hc=>exact .raw r o hc
 |bs u x T b v hc hs hx h1=>exact .bs u x T b v hc hs hx h1
 |ia f r _ _ _ _ _=>exact absurd rfl (hq f r)
theorem k9.row{r:Row}{p:Pl}(h:k9 P F β w r p):cB P F β w r p:=by
 cases h with
 |nil e=>exact .nil e
 |cells cs e b o room sz c hc hr hlen hs hh=>exact .cells cs e b o room sz c hc hr hlen hs hh
 |map es r ms clock hc hl dZ hh=>exact .map es r ms clock hc hl dZ hh
 |raw r o hc=>exact .raw r o hc
 |bs u x T b v hc hs hx h1=>exact .bs u x T b v hc hs hx h1
theorem k9.nD{F':Nat->Prop}{r:Row}{p:Pl}(C:∀ b,b<w.heap.size->β.free b->F' b->F b)(h:k9 P F β w r p):k9 P F' β w r p:=
 h.gen (bc _) (fun b hb h1 h2=>⟨ku.refl w b,h2,fun e=>h1 (C b hb h2 e)⟩) (fun _ _ _ h=>.inl h) fun _ _=>rfl
def hidden(F:Nat->Prop)(β:aE)(f:Nat->Option Nat):Nat->Prop:=fun b=>F b\/(¬ β.free b/\(β.via f).free b)
theorem Cf(β:aE)(f g:Nat->Option Nat):(β.via f).via g=β.via fun i=>(g i).bind f:=by
 funext i;simp only[aE.via];cases g i<;>rfl
theorem cB.seen{f:Nat->Option Nat}{r:Row}{p:Pl}(h:cB P F β w (r.lX f) p):cB P (hidden F β f) (β.via f) w r p:=by
 have key:∀ r',cB P F β w (.ia f r') p->k9 P (hidden F β f) (β.via f) w r' p:=fun r' h=>by
  cases h with
  |ia _ _ _ F₂ h1 h2 h=>exact h.nD fun b _ _ hb=>hb.elim (h1 b) fun e=>h2 b e.1 e.2
 cases r with
 |ia g r=>
  simp only[Row.lX] at h;cases h with
  |ia _ _ _ F₂ h1 h2 h=>
  refine .ia g r p F₂ (fun b hb=>?_) (fun b C J=>?_) (by rw[Cf];exact h)
  .rcases hb with hb|⟨C,J⟩
   .exact h1 b hb
   .exact h2 b C (by rw[<- Cf];exact aE.oZ J g)
  .exact h2 b (fun e=>C (aE.oZ e f)) (by rw[<- Cf];exact J)
 |_=>exact(key _ h).row
theorem cB.GY{F':Nat->Prop}{f:Nat->Option Nat}{r:Row}{p:Pl}(h:cB P F' (β.via f) w r p)(h1:∀ b,F b->F' b)(h2:∀ b,¬ β.free b->(β.via f).free b->F' b):cB P F β w (r.lX f) p:=by
 cases r with
 |ia g r=>
  simp only[Row.lX];cases h with
  |ia _ _ _ F₂ C J h=>
  refine .ia _ r p F₂ (fun b hb=>C b (h1 b hb)) (fun b k1 M=>?_) (by rw[<- Cf];exact h);by_cases hb:(β.via f).free b
  .exact C b (h2 b k1 hb)
  .exact J b hb (by rw[Cf];exact M)
 |_=>exact .ia f _ p F' h1 h2 (h.base oS)
theorem aK.qD(h:aK P F m β w){i:Nat}{p:Pl}{b:Nat}(hp:β i=some p)(hb:p.bG=some b){j:Nat}{q:Pl}(hq:β j=some q)(C:j≠i):q.bG≠some b:=
 fun e=>C (h.inj j i q p b hq hp e hb)
theorem zA(h:aK P F m β w)(o:Obj){nx:Nat}(hn:β nx=none)(p:Pl)(hp:∀ b,p.bG=some b->b=w.heap.size):Step β w (up β nx (some p)) (w.alloc o):=by
 refine⟨oS,fun b hb hf=>⟨heap_alloc_old w o hb,fun i q hq=>?_⟩,fun i q hq=>?_,rfl,rfl⟩
 .by_cases hi:i=nx
  .subst hi;rw[al] at hq;cases hq;intro e;have:=hp b e;omega
  .rw[aB _ _ hi] at hq;exact hf i q hq
 .left;rw[aB _ _ (fun e=>by rw[e,hn] at hq;cases hq)];exact hq
theorem aK.alloc(h:aK P F m β w){nx:Nat}(hn:β nx=none)(o:Obj)(r:Row)(p:Pl)(hp:∀ b,p.bG=some b->b=w.heap.size)
 (hr:cB P F (up β nx (some p)) (w.alloc o) r p):aK P F (up m nx (some r)) (up β nx (some p)) (w.alloc o):=by
 have hs:=zA h o hn p hp;refine⟨fun i r' hi=>?_,fun i j q X b hq C e M=>?_,fun i q b hq e=>?_,fun i q b hq e=>?_,?_⟩
 .by_cases J:i=nx
  .subst J;rw[al] at hi;cases hi;exact⟨p,al _ _ _,hr⟩
  .rw[aB _ _ J] at hi;obtain⟨q,hq,aq⟩:=h.row i r' hi;exact⟨q,by rw[aB _ _ J];exact hq,aq.step hs fun b hb=>heap_alloc_old w o (h.lt i q b hq hb)⟩
 .by_cases hi:i=nx<;>by_cases hj:j=nx
  .rw[hi,hj]
  .subst hi;rw[al] at hq;rw[aB _ _ hj] at C;cases hq;have h1:=hp b e;have h2:=h.lt j X b C M;omega
  .subst hj;rw[al] at C;rw[aB _ _ hi] at hq;cases C;have h1:=hp b M;have h2:=h.lt i q b hq e;omega
  .rw[aB _ _ hi] at hq;rw[aB _ _ hj] at C;exact h.inj i j q X b hq C e M
 .by_cases hi:i=nx
  .subst hi;rw[al] at hq;cases hq;have:=hp b e;simp;omega
  .rw[aB _ _ hi] at hq;have:=h.lt i q b hq e;simp;omega
 .by_cases hi:i=nx
  .subst hi;rw[al] at hq;cases hq;intro U;have h1:=hp b e;have h2:=h.fb.lt b U;omega
  .rw[aB _ _ hi] at hq;exact h.nf i q b hq e
 .exact h.fb.next (fun b hb=>by have:=h.fb.lt b hb;simp;omega) (fun _ h=>h) fun t _ U=>heap_alloc_old w o (h.fb.lt _ U)
theorem zD(β:aE)(w:World)(i:Nat):Step β w (up β i (some .dead)) w:=by
 refine⟨bc _,fun b _ hf=>⟨rfl,fun j q hq=>?_⟩,fun j q hq=>?_,rfl,rfl⟩
 .by_cases hj:j=i
  .subst hj;rw[al] at hq;cases hq;simp[Pl.bG]
  .rw[aB _ _ hj] at hq;exact hf j q hq
 .by_cases hj:j=i
  .subst hj;exact .inr (al _ _ _)
  .exact .inl (by rw[aB _ _ hj];exact hq)
theorem aK.dead(h:aK P F m β w)(i:Nat):aK P F (up m i none) (up β i (some .dead)) w:=by
 have hs:=zD β w i
 have C:∀ j q b,up β i (some .dead) j=some q->q.bG=some b->j≠i/\β j=some q:=fun j q b hq e=>by
  by_cases hj:j=i
  .subst hj;rw[al] at hq;cases hq;simp[Pl.bG] at e
  .rw[aB _ _ hj] at hq;exact⟨hj,hq⟩
 refine⟨fun j r' hj=>?_,fun j k q U b hq X e M=>?_,fun j q b hq e=>h.lt j q b (C j q b hq e).2 e,fun j q b hq e=>h.nf j q b (C j q b hq e).2 e,h.fb⟩
 .by_cases J:j=i
  .subst J;rw[al] at hj;cases hj
  .rw[aB _ _ J] at hj;obtain⟨q,hq,aq⟩:=h.row j r' hj;exact⟨q,by rw[aB _ _ J];exact hq,aq.step hs fun b _=>rfl⟩
 .exact h.inj j k q U b (C j q b hq e).2 (C k U b X M).2 e M
theorem BR(h:aK P F m β w){i:Nat}{p:Pl}{b:Nat}(hp:β i=some p)(hb:p.bG=some b)(J:w.heap.size<=w'.heap.size)
 (C:∀ k,k≠b->w'.heap[k]? =w.heap[k]?) (M:Out w w':=by first|exact⟨rfl,rfl⟩|assumption):Step β w β w':=
 ⟨J,fun k _ hf=>⟨C k fun e=>hf i p hp (e▸hb),hf⟩,fun _ _ hq=>.inl hq,M⟩
theorem aK.write(h:aK P F m β w){i:Nat}{p:Pl}{b:Nat}(hp:β i=some p)(hb:p.bG=some b)(M:w'.heap.size=w.heap.size)
 (J:∀ k,k≠b->w'.heap[k]? =w.heap[k]?) (r:Row) (hr:cB P F β w' r p) (X:Out w w':=by first|exact⟨rfl,rfl⟩|assumption):aK P F (up m i (some r)) β w':=by
 have hs:=BR h hp hb oG J;refine⟨fun j r' hj=>?_,h.inj,fun j q c hq e=>by rw[M];exact h.lt j q c hq e,h.nf,h.fb.next (fun c hc=>by rw[M];exact h.fb.lt c hc) (fun _ h=>h) fun t _ U=>J _ fun e=>h.nf _ _ _ hp hb (e▸U)⟩;by_cases C:j=i
 .subst C;rw[al] at hj;cases hj;exact⟨p,hp,hr⟩
 .rw[aB _ _ C] at hj;obtain⟨q,hq,aq⟩:=h.row j r' hj;exact⟨q,hq,aq.step hs fun c hc=>J c fun e=>h.qD hp hb hq C (e▸hc)⟩
theorem aK.move(h:aK P F m β w){i nx:Nat}{p p':Pl}{b:Nat}(hp:β i=some p)(hb:p.bG=some b)(U:p'.bG=some b)(hn:β nx=none)(hw:w'.heap.size=w.heap.size)
 (ho:∀ k,k≠b->w'.heap[k]? =w.heap[k]?) (r:Row) (hr:Step β w (up (up β i (some .dead)) nx (some p')) w'->cB P F (up (up β i (some .dead)) nx (some p')) w' r p') (yo:Out w w':=by first|exact⟨rfl,rfl⟩|assumption):
 aK P F (up (up m i none) nx (some r)) (up (up β i (some .dead)) nx (some p')) w'/\Step β w (up (up β i (some .dead)) nx (some p')) w':=by
 have dq:i≠nx:=fun e=>by rw[e,hn] at hp;cases hp
 have X:∀ j q,up (up β i (some .dead)) nx (some p') j=some q->(j=nx/\q=p')\/(j=i/\q=.dead)\/(j≠nx/\j≠i/\β j=some q):=fun j q hq=>by
  by_cases hj:j=nx
  .subst hj;rw[al] at hq;cases hq;exact .inl ⟨rfl,rfl⟩
  .rw[aB _ _ hj] at hq;by_cases C:j=i
   .subst C;rw[al] at hq;cases hq;exact .inr (.inl ⟨rfl,rfl⟩)
   .rw[aB _ _ C] at hq;exact .inr (.inr ⟨hj,C,hq⟩)
 have hs:Step β w (up (up β i (some .dead)) nx (some p')) w':=by
  refine⟨oG,fun c hc hf=>⟨ho c fun e=>hf i p hp (e▸hb),fun j q hq e=>?_⟩,fun j q hq=>?_,yo⟩
  .rcases X j q hq with⟨rfl,rfl⟩|⟨rfl,rfl⟩|⟨_,_,fm⟩
   .rw[U] at e;cases e;exact hf i p hp hb
   .simp[Pl.bG] at e
   .exact hf j q fm e
  .by_cases C:j=i
   .subst C;exact .inr (by rw[aB _ _ dq,al])
   .have hj:j≠nx:=fun e=>by rw[e,hn] at hq;cases hq
    exact .inl (by rw[aB _ _ hj,aB _ _ C];exact hq)
 refine⟨⟨fun j r' hj=>?_,fun j k q q' c hq fm e J=>?_,fun j q c hq e=>?_,fun j q c hq e=>?_,h.fb.next (fun c hc=>by rw[hw];exact h.fb.lt c hc) (fun _ h=>h) fun t _ hF=>ho _ fun e=>h.nf _ _ _ hp hb (e▸hF)⟩,hs⟩
 .by_cases iR:j=nx
  .subst iR;rw[al] at hj;cases hj;exact⟨p',al _ _ _,hr hs⟩
  .rw[aB _ _ iR] at hj;by_cases C:j=i
   .subst C;rw[al] at hj;cases hj
   .rw[aB _ _ C] at hj;obtain⟨q,hq,aq⟩:=h.row j r' hj;exact⟨q,by rw[aB _ _ iR,aB _ _ C];exact hq,aq.step hs fun c hc=>ho c fun e=>h.qD hp hb hq C (e▸hc)⟩
 .rcases X j q hq with⟨rfl,rfl⟩|⟨rfl,rfl⟩|⟨h1,h2,M⟩<;>rcases X k q' fm with⟨rfl,rfl⟩|⟨rfl,rfl⟩|⟨k1,k2,k3⟩
  .rfl
  .simp[Pl.bG] at J
  .rw[U] at e;cases e;exact absurd J (h.qD hp hb k3 k2)
  .simp[Pl.bG] at e
  .rfl
  .simp[Pl.bG] at e
  .rw[U] at J;cases J;exact absurd e (h.qD hp hb M h2)
  .simp[Pl.bG] at J
  .exact h.inj j k q q' c M k3 e J
 .rw[hw];rcases X j q hq with⟨rfl,rfl⟩|⟨rfl,rfl⟩|⟨_,_,M⟩
  .rw[U] at e;cases e;exact h.lt i p b hp hb
  .simp[Pl.bG] at e
  .exact h.lt j q c M e
 .rcases X j q hq with⟨rfl,rfl⟩|⟨rfl,rfl⟩|⟨_,_,M⟩
  .rw[U] at e;cases e;exact h.nf i p b hp hb
  .simp[Pl.bG] at e
  .exact h.nf j q c M e
end
def nE:Value->D
 | .bool b=>.s (.bool b)
 | .int k n=>.s (.int k n)
 | .string b=>.s (.string b)
 | .pointer none=>.s (.pointer none)
 | .nilFunc=>.s .nilFunc
 | .nilIface=>.s .nilIface
 | .map none=>.s (.map none)
 | .slice none 0 0=>.z
 |_=>.u
def Mo:Value->D
 | .agg cs=>.agg (cs.toList.map nE)
 | .bool b=>.s (.bool b)
 | .int k n=>.s (.int k n)
 | .string b=>.s (.string b)
 | .pointer none=>.s (.pointer none)
 | .nilFunc=>.s .nilFunc
 | .nilIface=>.s .nilIface
 | .map none=>.s (.map none)
 | .slice none 0 0=>.z
 |_=>.u
abbrev Env:=Nat->D
structure St where
 env:Env
 mem:Mem
 nx:Nat
def St.put(st:St)(d:Option Nat)(v:D):St:=
 match d with
 |some t=>{ st with env:=up st.env t v }
 |none=>st
def opd(env:Env):Operand->D
 | .tmp t=>env t
 | .const v=>Mo v
 | .global _=>.u
 | .func f=>.fn (.func f) [] []
def D.core:D->D
 | .cw _ d=>d
 |d=>d
def D.ask:D->Prop
 | .cw c _=>c=true
 |_=>True
section types
variable(P:Program)
def bl(t:TypeId):Bool:=match P.underlying t with
 |some (.struct _)=>true
 |some (.array _ _)=>true
 |_=>false
def aF(t:TypeId):TypeId:=match P.underlying t with
 |some (.slice e)=>e
 |some (.pointer e)=>e
 |some (.array _ e)=>e
 |_=>0
def cg(t:TypeId)(k:Nat):Option (Nat×TypeId):=match P.underlying t with
 |some (.struct fs)=>(fs[k]?).map fun f=>(f.offset,f.type)
 |_=>none
def a7(t:TypeId):List D:=((P.info? t).bind (·.zero)).elim [] fun v=>v.cells.toList.map nE
def ou(t:TypeId):Nat:=match P.underlying t with
 |some (.array n _)=>n
 |_=>0
end types
def D.one:D->Bool
 | .u | .cw _ _ | .agg _ | .aM _=>false
 |_=>true
def aI(P:Program)(t:TypeId):Bool:=
 (P.underlying t).isSome&&(bl P t||P.cellsOf t==1)&&match (P.info? t).bind (·.zero) with
  |some v=>v.cells.toList.all (fun c=>(nE c).one)&&v.cells.size==P.cellsOf t
  |none=>false
def bg(P:Program)(t:TypeId):Bool:=match P.underlying t with
 |some (.slice e)=>aI P e
 |_=>false
def nP(P:Program)(t:TypeId):Bool:=match P.underlying t with
 |some (.array _ e)=>aI P e
 |_=>false
def fO(P:Program)(t:TypeId):Bool:=match P.underlying t with
 |some .string=>true
 |_=>false
def D.cells:D->List D
 | .agg cs=>cs
 |d=>[d]
def gE(P:Program)(t:TypeId)(cs:List D):D:=if bl P t then .agg (cs.take (P.cellsOf t)) else cs.headD .u
def gB(cs:List D)(off:Nat):List D->List D
 |[x]=>cs.set off x
 |xs=>cs.take off++xs++cs.drop (off+xs.length)
structure dt where
 pre:Prop
 val:D
 aT:List (Nat×Option Row):=[]
 rd:List Nat:=[]
 new:Nat:=0
def cH(m:Mem):List (Nat×Option Row)->Mem
 |[]=>m
 |(i,r)::us=>cH (up m i r) us
def lx(op:BinOp)(k:IntKind)(x y:Int):Int:=
 let a:=BitVec.ofInt k.bits x
 let b:=BitVec.ofInt k.bits y
 k.wrap (match op with
  | .and=>a&&& b
  | .or=>a||| b
  | .xor=>a ^^^ b
  |_=>a&&& ~~~b).toNat
def q9(op:BinOp)(x y:Value):Option (Prop×Value):=
 match op,x,y with
 | .shl,.int k a,.int _ b=>some (0<=b,.int k (k.wrap (a*2 ^ (min b.toNat k.bits))))
 | .shr,.int k a,.int _ b=>some (0<=b,.int k (a.fdiv (2 ^ (min b.toNat k.bits))))
 | .add,.int k a,.int k' b=>some (k=k',.int k (k.wrap (a+b)))
 | .sub,.int k a,.int k' b=>some (k=k',.int k (k.wrap (a - b)))
 | .mul,.int k a,.int k' b=>some (k=k',.int k (k.wrap (a*b)))
 | .quo,.int k a,.int k' b=>some (k=k'/\b≠0,.int k (k.wrap (a.tdiv b)))
 | .rem,.int k a,.int k' b=>some (k=k'/\b≠0,.int k (a.tmod b))
 | .and,.int k a,.int k' b=>some (k=k',.int k (lx .and k a b))
 | .or,.int k a,.int k' b=>some (k=k',.int k (lx .or k a b))
 | .xor,.int k a,.int k' b=>some (k=k',.int k (lx .xor k a b))
 | .andNot,.int k a,.int k' b=>some (k=k',.int k (lx .andNot k a b))
 | .eql,.int k a,.int k' b=>some (k=k',.bool (a==b))
 | .neq,.int k a,.int k' b=>some (k=k',.bool (a !=b))
 | .lss,.int k a,.int k' b=>some (k=k',.bool (decide (a<b)))
 | .leq,.int k a,.int k' b=>some (k=k',.bool (decide (a<=b)))
 | .gtr,.int k a,.int k' b=>some (k=k',.bool (decide (b<a)))
 | .geq,.int k a,.int k' b=>some (k=k',.bool (decide (b<=a)))
 | .eql,.string a,.string b=>some (True,.bool (a.toList==b.toList))
 | .neq,.string a,.string b=>some (True,.bool !(a.toList==b.toList))
 | .lss,.string a,.string b=>some (True,.bool (Op.bytesLess a.toList b.toList))
 | .geq,.string a,.string b=>some (True,.bool !(Op.bytesLess a.toList b.toList))
 |_,_,_=>none
def jF:Value->Nat
 | .int _ _=>0
 | .bool _=>1
 | .string _=>2
 |_=>3
def vG(P:Program)(t:TypeId):Nat:=match P.underlying t with
 |some (.int _)=>0
 |some .bool=>1
 |some .string=>2
 |_=>9
def sJ(P:Program)(t:TypeId):Bool:=vG P t !=9&&P.cellsOf t==1&&aI P t&& !bl P t
def vH(P:Program)(t:TypeId):Option (List Nat):=match P.underlying t with
 |some (.array n e)=>if sJ P e&&P.cellsOf t==n then some (List.replicate n (vG P e)) else none
 |some (.struct fs)=>if(fs.toList.all fun f=>f.name !="_"&&sJ P f.type)&&P.runs 0 fs.toList==some fs.toList.length&& !P.stoodInHeld t then some (fs.toList.map fun f=>vG P f.type) else none
 |_=>none
def xR:Value->Value->Bool
 | .int k _,.int k' _=>k==k'
 | .bool _,.bool _=>true
 | .string _,.string _=>true
 |_,_=>false
def ov:List D->List D->Option (List Value×List Value)
 |[],[]=>some ([],[])
 | .s x::xs,.s y::ys=>if xR x y then(ov xs ys).map fun q=>(x::q.1,y::q.2) else none
 |_,_=>none
def p0:Value->Value->Bool
 | .int k a,.int k' b=>k==k'&&a==b
 | .bool a,.bool b=>a==b
 | .string a,.string b=>a.data.toList==b.data.toList
 |_,_=>false
def gK:List Value->List Value->Bool
 |[],[]=>true
 |a::aS,b::bs=>p0 a b&&gK aS bs
 |_,_=>false
def xx(P:Program)(op:BinOp)(t:TypeId)(xs ys:List D):Option (Prop×D):=
 match op,vH P t,ov xs ys with
 | .eql,some ks,some q=>some (q.1.map jF=ks/\P.eqGuardType P.depth t=false,.s (.bool (gK q.1 q.2)))
 | .neq,some ks,some q=>some (q.1.map jF=ks/\P.eqGuardType P.depth t=false,.s (.bool !(gK q.1 q.2)))
 |_,_,_=>none
def sU(P:Program)(t:TypeId):Bool:=match P.underlying t with
 |some .bool=>true
 |_=>false
def wE(P:Program)(t:TypeId):Bool:=match P.underlying t with
 |some (.pointer _)=>true
 |_=>false
def um(P:Program)(op:BinOp)(t:TypeId)(x y:D):Option (Prop×D):=
 match x,y with
 | .s (.bool a),.s (.bool b)=>match op with
  | .eql=>some (sU P t=true,.s (.bool (a==b)))
  | .neq=>some (sU P t=true,.s (.bool !(a==b)))
  |_=>none
 | .s a,.s b=>(q9 op a b).map fun r=>(r.1,.s r.2)
 | .agg xs,.agg ys=>xx P op t xs ys
 |_,_=>none
def mG(P:Program)(m:Mem)(op:BinOp)(t:TypeId)(x:D)(y:Operand):Option dt:=
 match y,op,x with
 | .const (.slice none 0 0),.eql,.sl _ n=>some { pre:=bg P t=true,val:=if n=0 then .ub else .s (.bool false) }
 | .const (.pointer none),.eql,.rp i _=>match m i with
  |some _=>some { pre:=wE P t=true,val:=.s (.bool false),rd:=[i] }
  |none=>none
 | .const (.pointer none),.neq,.rp i _=>match m i with
  |some _=>some { pre:=wE P t=true,val:=.s (.bool true),rd:=[i] }
  |none=>none
 |_,_,_=>none
def yN(op:UnOp)(x:Value):Option Value:=
 match op,x with
 | .neg,.int k n=>some (.int k (k.wrap (0 - n)))
 | .xor,.int k n=>some (.int k (lx .xor k (if k.signed then -1 else k.max) n))
 | .not,.bool b=>some (.bool !b)
 |_,_=>none
def D.eV :D->Option Bool
 | .s (.bool b)=>some b
 |_=>none
def D.int? :D->Option Int
 | .s (.int _ n)=>some n
 |_=>none
def gF(place:Nat->Option (Nat×Nat))(cells:List D):List (Nat×D)->Option (List D)
 |[]=>some cells
 |(i,d)::rest=>
  match place i with
  |none=>none
  |some (off,size)=>if d.cells.length=size/\off+size<=cells.length/\d.cells.all D.one=true then gF place (gB cells off d.cells) rest else none
def dz(n:Nat)(z:List D):List D:=(List.replicate n z).flatten
def nF(P:Program)(m:Mem)(t:TypeId):D->Option dt
 | .sl _ n=>some { pre:=bg P t=true,val:=.s (.int .i64 n) }
 | .rs i _ n=>match m i with
  |some _=>some { pre:=bg P t=true,val:=.s (.int .i64 n),rd:=[i] }
  |none=>none
 | .z=>some { pre:=bg P t=true,val:=.s (.int .i64 0) }
 | .s (.string b)=>some { pre:=fO P t=true,val:=.s (.int .i64 b.size) }
 | .agg _=>some { pre:=nP P t=true,val:=.s (.int .i64 (ou P t)) }
 |_=>none
def jx(m:Mem)(sz:Nat):D->Option (Prop×List Nat×Nat×List D)
 | .sl es n=>some (n*sz<=es.length,[],n,es.take (n*sz))
 | .z=>some (True,[],0,[])
 | .rs i off n=>match m i with
  |some (.cells cs _)=>some (off+n*sz<=cs.length,[i],n,(cs.drop off).take (n*sz))
  |_=>none
 |_=>none
def qP(P:Program)(m:Mem)(nx:Nat)(t:TypeId)(s x:D):Option dt:=
 let e:=aF P t
 let sz:=P.cellsOf e
 match jx m sz x with
 |none=>none
 |some (p,rd,k,news)=>
  match s with
  | .z=>some { pre:=bg P t=true/\p/\0<sz/\k<=maxLen/\k*P.bytesOf e<=140737488355328,val:=.rs nx 0 k,aT:=[(nx,some (.cells news e))],rd:=rd,new:=1 }
  | .rs i off n=>match m i with
   |some (.cells cs e')=>some { pre:=bg P t=true/\e'=e/\p/\0<sz/\off+n*sz=cs.length/\n+k<=maxLen/\(n+k)*P.bytesOf e<=140737488355328/\i∉rd,val:=.rs nx 0 (n+k),aT:=[(i,none),(nx,some (.cells (cs.drop off++news) e))],rd:=i::rd,new:=1 }
   |_=>none
  |_=>none
def kJ:Value->Value->Bool
 | .agg a,.agg b=>gK a.toList b.toList
 |a,b=>p0 a b
def Aq:List D->Option (List Value)
 |[]=>some []
 | .s v::ds=>(Aq ds).map (v::·)
 |_=>none
def p6:D->Option Value
 | .s v=>some v
 | .agg cs=>(Aq cs).map fun vs=>.agg vs.toArray
 |_=>none
def cQ(k:Value):List (Value×D)->Option (Nat×D)
 |[]=>none
 |(k',d)::es=>if kJ k' k then some (0,d) else(cQ k es).map fun x=>(x.1+1,x.2)
def fY(k:Value)(d:D)(es:List (Value×D)):List (Value×D):=match cQ k es with
 |some (i,_)=>es.set i (k,d)
 |none=>es++[(k,d)]
def sK(k:Value)(es:List (Value×D)):List (Value×D):=match cQ k es with
 |some (i,_)=>es.eraseIdx i
 |none=>es
def eB(P:Program)(t:TypeId):TypeId:=match P.underlying t with
 |some (.map k _)=>k
 |_=>0
def la(P:Program)(t:TypeId):TypeId:=match P.underlying t with
 |some (.map _ e)=>e
 |_=>0
def cI(P:Program)(kt:TypeId)(v:Value):Bool:=match P.underlying kt with
 |some (.int k)=>(match v with | .int k' _=>k'==k|_=>false)
 |some .bool=>(match v with | .bool _=>true|_=>false)
 |some .string=>(match v with | .string _=>true|_=>false)
 |some (.array _ _)=>(keyOf P kt v).isSome
 |some (.struct _)=>(keyOf P kt v).isSome
 |_=>false
def Be(P:Program)(t:TypeId):Bool:=match (P.info? t).bind (·.zero) with
 |some (.agg _)=>bl P t
 |some _=> !bl P t
 |none=>false
def fL(P:Program)(t:TypeId):Bool:=match P.underlying t with
 |some (.map kt et)=>(aI P et&&Be P et)&&match P.underlying kt with
  |some (.int _)=>true
  |some .bool=>true
  |some .string=>true
  |some (.array _ _)=>P.keyTypeAt 9 kt&&P.tiled 9 kt
  |some (.struct _)=>P.keyTypeAt 9 kt&&P.tiled 9 kt
  |_=>false
 |_=>false
def lM(P:Program)(t:TypeId):D:=if bl P t then .agg (a7 P t) else(a7 P t).headD .u
def fz(P:Program)(t:TypeId)(ok:Bool):Option (Nat×D)->D
 |some (_,d)=>if ok then .aM [d,.s (.bool true)] else d
 |none=>if ok then .aM [lM P (la P t),.s (.bool false)] else lM P (la P t)
def n4(P:Program)(m:Mem)(t:TypeId)(x k:D)(ok:Bool):Option dt:=match p6 k,x with
 |some key,.mp i=>match m i with
  |some (.map es)=>some { pre:=fL P t=true/\cI P (eB P t) key=true/\es.all (fun e=>cI P (eB P t) e.1)=true,val:=fz P t ok (cQ key es),rd:=[i] }
  |_=>none
 |some key,.im es=>some { pre:=fL P t=true/\cI P (eB P t) key=true/\es.all (fun e=>cI P (eB P t) e.1)=true,val:=fz P t ok (cQ key es) }
 |some key,.s (.map none)=>some { pre:=fL P t=true/\cI P (eB P t) key=true,val:=fz P t ok none }
 |_,_=>none
def nh(P:Program)(m:Mem)(t:TypeId)(x k v:D):Option dt:=match p6 k,x with
 |some key,.mp i=>match m i with
  |some (.map es)=>some { pre:=fL P t=true/\cI P (eB P t) key=true/\es.all (fun e=>cI P (eB P t) e.1)=true,val:=.aM [],aT:=[(i,some (.map (fY key v es)))],rd:=[i] }
  |_=>none
 |_,_=>none
def rW(P:Program)(m:Mem)(t:TypeId)(x k:D):Option dt:=match p6 k,x with
 |some key,.mp i=>match m i with
  |some (.map es)=>some { pre:=fL P t=true/\cI P (eB P t) key=true/\es.all (fun e=>cI P (eB P t) e.1)=true,val:=.aM [],aT:=[(i,some (.map (sK key es)))],rd:=[i] }
  |_=>none
 |_,_=>none
def fE(P:Program)(m:Mem)(nx:Nat)(b:Builtin)(ts:Array TypeId)(args:List D):Option dt:=
 match b,args with
 | .len,[x]=>nF P m (ts.getD 0 0) x
 | .append,[s,x]=>if ts.getD 0 0=ts.getD 1 0 then qP P m nx (ts.getD 0 0) s x else none
 | .min,[.s (.int k a),.s (.int k' b)]=>some { pre:=k=k',val:=.s (.int k (if b<a then b else a)) }
 | .clear,[.rs i off n]=>match m i with
  |some (.cells cs e)=>some { pre:=bg P (ts.getD 0 0)=true/\off+n*P.cellsOf e<=cs.length/\e=aF P (ts.getD 0 0),val:=.aM [],aT:=[(i,some (.cells (gB cs off (dz n (a7 P e))) e))],rd:=[i] }
  |_=>none
 | .delete,[x,k]=>rW P m (ts.getD 0 0) x k
 |_,_=>none
def dX(d:Option D)(C:Int):Option Int:=match d with
 |none=>some C
 |some d=>d.int?
def mv(P:Program)(m:Mem)(t:TypeId)(x:D)(lo hi C:Option D):Option dt:=
 match x with
 | .sl es n=>match dX lo 0,dX hi n,C with
  |some l,some h,none=>some { pre:=bg P t=true/\0<=l/\l<=h/\h<=n,val:=.sl ((es.drop (l.toNat*P.cellsOf (aF P t))).take ((h - l).toNat*P.cellsOf (aF P t))) (h - l).toNat }
  |some l,some h,some d=>match d.int? with
   |some k=>some { pre:=bg P t=true/\hi.isSome=true/\0<=l/\l<=h/\h<=k/\k<=n,val:=.sl ((es.drop (l.toNat*P.cellsOf (aF P t))).take ((h - l).toNat*P.cellsOf (aF P t))) (h - l).toNat }
   |none=>none
  |_,_,_=>none
 | .rs i off n=>match m i with
  |some (.cells _ e)=>match dX lo 0,dX hi n,C with
   |some l,some h,none=>some { pre:=(bg P t=true/\P.cellsOf e=P.cellsOf (aF P t))/\0<=l/\l<=h/\h<=n,val:=.rs i (off+l.toNat*P.cellsOf (aF P t)) (h - l).toNat,rd:=[i] }
   |_,_,_=>none
  |_=>none
 | .s (.string b)=>match dX lo 0,dX hi b.size,C with
  |some l,some h,none=>some { pre:=fO P t=true/\0<=l/\l<=h/\h<=b.size,val:=.s (.string (b.extract l.toNat h.toNat)) }
  |_,_,_=>none
 |_=>none
def bd(P:Program)(o:Op)(ρ:Operand->D)(m:Mem)(nx:Nat):Option dt:=
 match o with
 | .move x=>some { pre:=True,val:=ρ x }
 | .assign x=>some { pre:=True,val:=ρ x }
 | .pick c a b=>match (ρ c).core.eV with
  |some t=>some { pre:=(t=true->(ρ a).ask/\(ρ a).core.eV.isSome=true)/\(t=false->(ρ b).ask/\(ρ b).core.eV.isSome=true),val:=.s (.bool (if t then(ρ a).core.eV.getD false else(ρ b).core.eV.getD false)) }
  |none=>none
 | .alloc t=>some { pre:=aI P t=true,val:=.rp nx 0,aT:=[(nx,some (.cells (a7 P t) t))],new:=1 }
 | .box t x=>some { pre:=(ρ x).cells.all D.one=true,val:=.rp nx 0,aT:=[(nx,some (.cells (ρ x).cells t))],new:=1 }
 | .build t ps=>match P.underlying t with
  |some (.struct fs)=>(gF (fun i=>(fs[i]?).map fun f=>(f.offset,P.cellsOf f.type)) (a7 P t) (ps.toList.map fun q=>(q.1,ρ q.2))).map fun cs=>{ pre:=aI P t=true/\fs.toList.all (fun f=>(P.info? f.type).isSome)=true,val:=.agg cs }
  |some (.array _ e)=>(gF (fun i=>some (i*P.cellsOf e,P.cellsOf e)) (a7 P t) (ps.toList.map fun q=>(q.1,ρ q.2))).map fun cs=>{ pre:=aI P t=true/\aI P e=true,val:=.agg cs }
  |_=>none
 | .buildSlice t n ps=>(gF (fun i=>some (i*P.cellsOf (aF P t),P.cellsOf (aF P t))) (dz n (a7 P (aF P t))) (ps.toList.map fun q=>(q.1,ρ q.2))).map fun cs=>
   { pre:=cs.all D.one=true/\n*P.cellsOf (aF P t)<=2 ^ 24/\bg P t=true/\n<=maxLen,val:=.rs nx 0 n,aT:=[(nx,some (.cells cs (aF P t)))],new:=1 }
 | .load t a=>match ρ a with
  | .pt cs=>some { pre:=aI P t=true/\P.cellsOf t<=cs.length,val:=gE P t cs }
  | .rp i off=>match m i with
   |some (.cells cs _)=>some { pre:=aI P t=true/\off+P.cellsOf t<=cs.length,val:=gE P t (cs.drop off),rd:=[i] }
   |_=>none
  |_=>none
 | .store t a x=>match ρ a with
  | .rp i off=>match m i with
   |some (.cells cs e)=>some { pre:=aI P t=true/\(ρ x).cells.length=P.cellsOf t/\off+P.cellsOf t<=cs.length/\(ρ x).cells.all D.one=true,val:=.aM [],aT:=[(i,some (.cells (gB cs off (ρ x).cells) e))],rd:=[i] }
   |_=>none
  |_=>none
 | .nilCheck x=>match ρ x with
  | .pt cs=>some { pre:=True,val:=.pt cs }
  | .rp i off=>match m i with
   |some _=>some { pre:=True,val:=.rp i off,rd:=[i] }
   |none=>none
  |_=>none
 | .binOp op t x y _=>match mG P m op t (ρ x) y with
  |some e=>some e
  |none=>(um P op t (ρ x) (ρ y)).map fun r=>{ pre:=r.1,val:=r.2 }
 | .unOp op _ x=>match ρ x with
  | .s v=>(yN op v).map fun r=>{ pre:=True,val:=.s r }
  |_=>none
 | .convert src dst x=>match P.underlying dst,ρ x with
  |some (.int k),.s (.int _ n)=>some { pre:=aI P src=true,val:=.s (.int k (k.wrap n)) }
  |some (.slice e),.s (.string b)=>match P.underlying e with
   |some (.int .u8)=>some { pre:=fO P src=true/\b.size<=maxLen,val:=.sl (b.data.toList.map fun c=>.s (.int .u8 c.toNat)) b.size }
   |_=>none
  |_,_=>none
 | .makeFunc f fs cs=>some { pre:=True,val:=.fn f (fs.toList.map ρ) (cs.toList.map ρ) }
 | .makeMap _ r=>match r with
  |none=>some { pre:=True,val:=.mp nx,aT:=[(nx,some (.map []))],new:=1 }
  |some _=>none
 | .makeSlice t l c=>match ρ l,ρ c with
  | .s (.int .i64 n),.s (.int .i64 k)=>some { pre:=0<=n/\n=k/\n<=9223372036854775807/\P.bytesOf (aF P t)*n<=281474976710656/\bg P t=true,val:=.rs nx 0 n.toNat,aT:=[(nx,some (.cells (dz n.toNat (a7 P (aF P t))) (aF P t)))],new:=1 }
  |_,_=>none
 | .lookup t x k ok=>n4 P m t (ρ x) (ρ k) ok
 | .mapUpdate t x k v=>nh P m t (ρ x) (ρ k) (ρ v)
 | .insert t x k v=>nh P m t (ρ x) (ρ k) (ρ v)
 | .slice t x lo hi C=>mv P m t (ρ x) (lo.map ρ) (hi.map ρ) (C.map ρ)
 | .fieldAddr t x k=>match cg P t k,ρ x with
  |some (off,ft),.pt cs=>some { pre:=0<P.cellsOf ft,val:=.pt (cs.drop off) }
  |some (off,ft),.rp i o=>match m i with
   |some _=>some { pre:=0<P.cellsOf ft,val:=.rp i (o+off),rd:=[i] }
   |none=>none
  |_,_=>none
 | .field t x k=>match cg P t k,ρ x with
  |some (off,ft),.agg cs=>some { pre:=aI P ft=true/\off+P.cellsOf ft<=cs.length,val:=gE P ft (cs.drop off) }
  |_,_=>none
 | .indexAddr t x i=>match ρ x,ρ i with
  | .sl es n,.s (.int _ k)=>some { pre:=bg P t=true/\0<=k/\k<n/\(k.toNat+1)*P.cellsOf (aF P t)<=es.length,val:=.pt (es.drop (k.toNat*P.cellsOf (aF P t))) }
  | .rs j off n,.s (.int _ k)=>match m j with
   |some _=>some { pre:=bg P t=true/\0<=k/\k<n,val:=.rp j (off+k.toNat*P.cellsOf (aF P t)),rd:=[j] }
   |none=>none
  | .rp j off,.s (.int _ k)=>match m j with
   |some _=>some { pre:=nP P t=true/\0<=k/\k<ou P t,val:=.rp j (off+k.toNat*P.cellsOf (aF P t)),rd:=[j] }
   |none=>none
  |_,_=>none
 | .index t x i=>match ρ x,ρ i with
  | .s (.string b),.s (.int _ k)=>some { pre:=fO P t=true/\0<=k/\k<b.size,val:=.s (.int .u8 (b.data.toList.getD k.toNat 0).toNat) }
  | .agg cs,.s (.int _ k)=>some { pre:=nP P t=true/\0<=k/\k<ou P t/\(k.toNat+1)*P.cellsOf (aF P t)<=cs.length,val:=gE P (aF P t) (cs.drop (k.toNat*P.cellsOf (aF P t))) }
  |_,_=>none
 | .extract x k=>match ρ x with
  | .aM cs=>some { pre:=k<cs.length,val:=cs.getD k .u }
  |_=>none
 | .call c=>match c.callee with
  | .builtin b=>if c.argTypes.size=c.args.size then fE P m nx b c.argTypes (c.args.toList.map ρ) else none
  |_=>none
 |_=>none
def G0(t:TypeId):Bool:=([183,213]:List Nat).contains t
def mkStr(l:List Int):ByteArray:=⟨(l.map fun n=>UInt8.ofNat n.toNat).toArray⟩
def lI(l:List Int):List D:=l.map fun n=>.s (.int .u8 n)
def fj(b:ByteArray):List D:=b.data.toList.map fun c=>.s (.int .u8 c.toNat)
def qm(P:Program)(t:TypeId):Prop:=bg P t=true/\P.underlying (aF P t)=some (.int .u8)/\P.cellsOf (aF P t)=1
inductive dc(P:Program)(ρ:Operand->D)(m:Mem)(nx:Nat):Op->dt->Prop
 |add (t p:TypeId) (x y:Operand) (a b:ByteArray) (hx:ρ x=.s (.string a)) (hy:ρ y=.s (.string b)) (h:a.size+b.size<=maxLen):dc P ρ m nx (.binOp .add t x y p) { pre:=True,val:=.s (.string (a++b)) }
 |CP (src dst:TypeId) (x:Operand) (l:List Int) (hx:ρ x=.sl (lI l) l.length) (hs:qm P src) (hd:fO P dst=true):dc P ρ m nx (.convert src dst x) { pre:=True,val:=.s (.string (mkStr l)) }
 |CQ (src dst:TypeId) (x:Operand) (l:List Int) (i off:Nat) (cs:List D) (e:TypeId) (hx:ρ x=.rs i off l.length) (hi:m i=some (.cells cs e)) (hl:(cs.drop off).take l.length=lI l) (hs:qm P src) (hd:fO P dst=true):
  dc P ρ m nx (.convert src dst x) { pre:=True,val:=.s (.string (mkStr l)),rd:=[i] }
 |rune (src dst:TypeId) (x:Operand) (k k':IntKind) (n:Int) (hx:ρ x=.s (.int k n)) (hs:P.underlying src=some (.int k')) (hd:fO P dst=true) (h0:0<=n) (h1:n<128):dc P ρ m nx (.convert src dst x) { pre:=True,val:=.s (.string (mkStr [n])) }
 |cut (t:TypeId) (x h c:Operand) (es:List D) (n:Nat) (k:IntKind) (k':IntKind) (hx:ρ x=.sl es n) (hh:ρ h=.s (.int k n)) (hc:ρ c=.s (.int k' n)) (ht:bg P t=true) (hn:n*P.cellsOf (aF P t)=es.length):
  dc P ρ m nx (.slice t x none (some h) (some c)) { pre:=True,val:=.sc es n }
 |xS (c:Call) (s x:Operand) (t:TypeId) (es news:List D) (n k:Nat) (p:Prop) (rd:List Nat) (hc:c={ callee:=.builtin .append,args:= #[s,x],argTypes:= #[t,t] }) (hs:ρ s=.sc es n) (hx:jx m (P.cellsOf (aF P t)) (ρ x)=some (p,rd,k,news)) (hp:p)
  (ht:bg P t=true) (hn:n*P.cellsOf (aF P t)=es.length) (hk:0<k) (hz:0<P.cellsOf (aF P t)) (hm:n+k<=maxLen) (hb:(n+k)*P.bytesOf (aF P t)<=140737488355328):
  dc P ρ m nx (.call c) { pre:=True,val:=.rs nx 0 (n+k),aT:=[(nx,some (.cells (es++news) (aF P t)))],rd:=rd,new:=1 }
 |xg (c:Call) (s x:Operand) (t u:TypeId) (b:ByteArray) (hc:c={ callee:=.builtin .append,args:= #[s,x],argTypes:= #[t,u] }) (hs:ρ s=.z) (hx:ρ x=.s (.string b)) (ht:qm P t) (hu:fO P u=true) (hm:b.size<=maxLen) (hb:b.size*P.bytesOf (aF P t)<=140737488355328):
  dc P ρ m nx (.call c) { pre:=True,val:=.rs nx 0 b.size,aT:=[(nx,some (.cells (fj b) (aF P t)))],new:=1 }
 |xy (c:Call) (s x:Operand) (t u:TypeId) (b:ByteArray) (i off n:Nat) (cs:List D) (hc:c={ callee:=.builtin .append,args:= #[s,x],argTypes:= #[t,u] }) (hs:ρ s=.rs i off n) (hx:ρ x=.s (.string b)) (hi:m i=some (.cells cs (aF P t))) (ht:qm P t) (hu:fO P u=true)
  (hf:off+n=cs.length) (hm:n+b.size<=maxLen) (hb:(n+b.size)*P.bytesOf (aF P t)<=140737488355328):
  dc P ρ m nx (.call c) { pre:=True,val:=.rs nx 0 (n+b.size),aT:=[(i,none),(nx,some (.cells (cs.drop off++fj b) (aF P t)))],rd:=[i],new:=1 }
 |yp (c:Call) (x:Operand) (t:TypeId) (i:Nat) (es:List (Value×D)) (hc:c={ callee:=.builtin .len,args:= #[x],argTypes:= #[t] }) (hx:ρ x=.mp i) (hi:m i=some (.map es)) (ht:fL P t=true):dc P ρ m nx (.call c) { pre:=True,val:=.s (.int .i64 es.length),rd:=[i] }
 |xT (c:Call) (s:Operand) (t:TypeId) (i off n:Nat) (r:Row) (hc:c={ callee:=.builtin .unsafeSliceData,args:= #[s],argTypes:= #[t] }) (hs:ρ s=.rs i off n) (hi:m i=some r) (hn:0<n):dc P ρ m nx (.call c) { pre:=True,val:=.rp i off,rd:=[i] }
 |yq (c:Call) (p n:Operand) (t u e:TypeId) (l:List Int) (i off:Nat) (cs:List D) (k:IntKind) (hc:c={ callee:=.builtin .unsafeString,args:= #[p,n],argTypes:= #[t,u] }) (hp:ρ p=.rp i off) (hn:ρ n=.s (.int k l.length)) (hi:m i=some (.cells cs e)) (hl:(cs.drop off).take l.length=lI l) (h0:l≠[])
  (ht:P.underlying t=some (.pointer e)) (he:P.cellsOf e=1) (hm:l.length<=maxLen) (hr:∀ x∈l,0<=x/\x<256):dc P ρ m nx (.call c) { pre:=True,val:=.s (.string (mkStr l)),aT:=[(i,none)],rd:=[i] }
 |Ab (t:TypeId) (hb:G0 t=true) (ht:aI P t=true) (hz:a7 P t=[.s (.pointer none),.z]):dc P ρ m nx (.alloc t) { pre:=True,val:=.rp nx 0,aT:=[(nx,some (.bs false .z t))],new:=1 }
 |AJ (t:TypeId) (x:Operand) (d:D) (hb:G0 t=true) (hx:(ρ x).cells=[.s (.pointer none),d]) (hd:d.one=true) (hs:P.cellsOf t=2):dc P ρ m nx (.box t x) { pre:=True,val:=.rp nx 0,aT:=[(nx,some (.bs false d t))],new:=1 }
 |Ar (t:TypeId) (a:Operand) (i:Nat) (u:Bool) (x:D) (T:TypeId) (ha:ρ a=.rp i 1) (hi:m i=some (.bs u x T)) (ht:aI P t=true) (hg:bl P t=false):dc P ρ m nx (.load t a) { pre:=True,val:=x,rd:=[i] }
 |xz (t:TypeId) (a y:Operand) (i:Nat) (u:Bool) (x:D) (T:TypeId) (ha:ρ a=.rp i 1) (hi:m i=some (.bs u x T)) (ht:aI P t=true) (hg:bl P t=false) (hy:(ρ y).one=true):dc P ρ m nx (.store t a y) { pre:=True,val:=.aM [],aT:=[(i,some (.bs u (ρ y) T))],rd:=[i] }
def dI(ρ:Operand->D):Op->Option (FuncId×List D)
 | .call c=>match c.callee with
  | .value f=>match ρ f with
   | .fn (.func k) fs cs=>some (k,fs++c.args.toList.map ρ++cs)
   |_=>none
  |_=>none
 |_=>none
def Rs(F:Nat->Prop)(β:aE)(w:World)(ds:List D)(vs:Array Value):Prop:=
 vs.size=ds.length/\∀ (k:Nat) (d:D) (v:Value),ds[k]? =some d->vs[k]? =some v->R F β w d v
def gz:aE:=fun _=>none
def owned(F:Nat->Prop)(β:aE):Nat->Prop:=fun b=>F b\/¬ β.free b
def Tr(d:D):Prop:=∀ F β w v,R F β w d v->R (owned F β) gz w d v
def D.gn:D->Bool
 | .s _=>true
 | .ub=>true
 | .aM [.s _,.s _]=>true
 | .aM [.s _]=>true
 | .aM []=>true
 |_=>false
def Kept(w w':World):Prop:=w.heap.size<=w'.heap.size/\(∀ b,b<w.heap.size->w'.heap[b]? =w.heap[b]?)/\Out w w'
def n3(P:Program)(f:FuncId):Bool:=match P.funcs[f]? with
 |some fn=> !(fn.name=="runtime.NumGoroutine")&&fn.body.isSome
 |none=>false
def aD(P:Program)(f:FuncId)(args:List D)(r:D):Prop:=
 n3 P f=true/\(∀ a∈args,Tr a)/\∀ F w vs,FB F w->Rs F gz w args vs->
  Calls P f vs w fun e w'=>∃ v,e=.returned v/\R F gz w' r v/\Kept w w'
def kv(P:Program)(f:FuncId)(args:List D)(es:List D)(n:Nat)(t:TypeId):Prop:=
 n3 P f=true/\(∀ a∈args,Tr a)/\∀ F w vs,FB F w->Rs F gz w args vs->
  Calls P f vs w fun e w'=>∃ v p,e=.returned v/\p≠ .dead/\(∀ b,p.bG=some b->w.heap.size<=b/\b<w'.heap.size)/\
   cB P (fun x=>F x\/p.bG=some x) gz w' (.cells es t) p/\R F (up gz 0 (some p)) w' (.rs 0 0 n) v/\Kept w w'
def fG(P:Program)(f:FuncId)(args:List D)(m:Mem)(nx:Nat)(dY:D->Mem->Nat->Prop):Prop:=
 n3 P f=true/\∀ F β w vs,aK P F m β w->(∀ i,nx<=i->β i=none)->Rs F β w args vs->
  Calls P f vs w fun e w'=>∃ v d m' C β',e=.returned v/\dY d m' C/\aK P F m' β' w'/\(∀ i,C<=i->β' i=none)/\R F β' w' d v/\Step β w β' w'/\nx<=C/\∀ i,i<nx->β i=none->β' i=none
def ns(P:Program)(F:Nat->Prop)(M:aE)(J:World)(l:Nat)(args:List D)(m:Mem)(nx:Nat)(dY:D->Mem->Nat->Prop):Prop:=
 ∀ β w us,Step M J β w->aK P F m β w->(∀ i,nx<=i->β i=none)->Rs F β w args us->
  ∃ f tmps assign body,(Instr.yield l us).run P w=.ok (.round l f tmps assign body) w/\∀ n,RoundIn Fence.wide n P l f tmps assign body w fun e w'=>
   ∃ v d m' C β',e=.returned v/\dY d m' C/\aK P F m' β' w'/\(∀ i,C<=i->β' i=none)/\R F β' w' d v/\Step β w β' w'/\nx<=C/\∀ i,i<nx->β i=none->β' i=none
def se(I:Mem->Nat->Prop):Prop:=∀ m nx m' C,I m nx->nx<=C->(∀ i,i<nx->m' i=m i)->I m' C
def QT(I:Nat->Mem->Nat->Prop)(Stop:Mem->Nat->Prop)(k:Nat)(d:D)(m:Mem)(nx:Nat):Prop:=
 (d=.s (.bool true)/\I (k+1) m nx)\/(d=.s (.bool false)/\Stop m nx)
def vX(P:Program)(f:FuncId)(fs cs:List D)(xs:List (List D)):Prop:=
 n3 P f=true/\∀ (F:Nat->Prop) (l:Nat) (I:Nat->Mem->Nat->Prop) (Stop:Mem->Nat->Prop) (m:Mem) (nx:Nat) (β:aE) (w:World) (vs:Array Value),(∀ k,se (I k))->se Stop->
  aK P F m β w->(∀ i,nx<=i->β i=none)->Rs F β w (fs++[.fn (.yield l) [] []]++cs) vs->
  (∀ k x m nx,xs[k]? =some x->I k m nx->ns P F β w l x m nx (QT I Stop k))->I 0 m nx->
  Calls P f vs w fun e w'=>∃ v d m' C β',e=.returned v/\(I xs.length m' C\/Stop m' C)/\aK P F m' β' w'/\(∀ i,C<=i->β' i=none)/\R F β' w' d v/\Step β w β' w'/\nx<=C/\∀ i,i<nx->β i=none->β' i=none
abbrev eb:=Nat->List D->Mem->Nat->(D->Mem->Nat->Prop)->Prop
def cZ:eb:=fun _ _ _ _ _=>False
def kU(ρ:Operand->D):Op->Option (Nat×List D)
 | .call c=>match c.callee with
  | .value f=>match ρ f with
   | .fn (.yield l) [] []=>some (l,c.args.toList.map ρ)
   |_=>none
  |_=>none
 |_=>none
def Sn(P:Program)(rds:List Nat)(m:Mem)(a a':D):Prop:=
 ∀ F β w v,(∀ i∈rds,∀ r,m i=some r->∃ p,β i=some p/\cB P F β w r p/\∀ b,p.bG=some b->¬ F b)->R F β w a v->R F gz w a' v
def jr(P:Program)(rds:List Nat)(m:Mem):List D->List D->Prop
 |[],[]=>True
 |a::aS,b::bs=>Sn P rds m a b/\jr P rds m aS bs
 |_,_=>False
def Ff(r:Row):Prop:=∃ cs e,r=.cells cs e/\∀ d∈cs,d.gn=true
def QU(m:Mem)(rds:List Nat)(aT:List (Nat×Option Row))(args:List D):Prop:=
 (∀ i∈rds,∃ r,m i=some r/\Ff r)/\(∀ x∈aT,x.1∈rds/\∀ r,x.2=some r->Ff r)/\∀ a∈args,Tr a\/∃ i off n,i∈rds/\a=.rs i off n
def only(rds:List Nat)(m:Mem):Mem:=fun i=>if i∈rds then m i else none
def sf(P:Program)(dr:Bool)(st:St)(f:FuncId)(args:List D)(K:D->Mem->Nat->List Nat->List Nat->Prop):Prop:=
 (∃ r,aD P f args r/\K r st.mem st.nx [] [])\/
 (∃ M rds r,jr P rds st.mem args M/\aD P f M r/\r.gn=true/\K r st.mem st.nx rds [])\/
 (∃ es n t,kv P f args es n t/\K (.rs st.nx 0 n) (up st.mem st.nx (some (.cells es t))) (st.nx+1) [] [st.nx])\/
 (dr=false/\fG P f args st.mem st.nx fun r m nx=>K r m nx [] [])\/
 (∃ r aT rds,(∀ J C,(∀ i∈rds,st.mem i≠none->J i=st.mem i)->fG P f args J C fun r' m' U=>r'=r/\m'=cH J aT/\U=C)/\(∀ i∈aT.map (·.1),i∈rds/\st.mem i≠none)/\K r (cH st.mem aT) st.nx rds (aT.map (·.1)))\/
 (∃ es n t aT rds,QU st.mem rds aT args/\(∀ d∈es,d.gn=true)/\(∀ C,fG P f args (only rds st.mem) C fun r' m' _=>∃ q,C<=q/\r'=.rs q 0 n/\m' q=some (.cells es t)/\∀ i∈rds,m' i=cH st.mem aT i)/\
  K (.rs st.nx 0 n) (up (cH st.mem aT) st.nx (some (.cells es t))) (st.nx+1) rds (aT.map (·.1)++[st.nx]))
def asks(env:Env)(o:Op):Prop:=match o with
 | .pick c _ _=>(opd env c).ask
 |o=>∀ x∈o.operands.toList,(opd env x).ask
def aZ(env:Env)(o:Op):Operand->D:=match o with
 | .pick _ _ _=>opd env
 |_=>fun x=>(opd env x).core
def jV:D->Bool->Option Bool
 | .s (.bool g),b=>some (g==b)
 | .cw c d,b=>match d with
  | .s (.bool g)=>some (c&&(g==b))
  |_=>bif c then none else some false
 |_,_=>none
abbrev jN:=List (List Nat×List Nat)
def pH(tr:jN)(i j:Nat):Prop:=
 let a:=tr.getD i ([],[])
 let b:=tr.getD j ([],[])
 (∀ x∈a.2,x∉b.1/\x∉b.2)/\∀ x∈b.2,x∉a.1
def ua:D:=.cw false .u
def iS(P:Program)(Y:eb)(ops:Array Oper)(dr:Bool)(o:Oper)(st:St)(K:St->List Nat->List Nat->Prop):Prop:=
 match o.guard with
  |none=>asks st.env o.op/\match dI (aZ st.env o.op) o.op with
   |some (f,args)=>sf P dr st f args fun r m nx rd wr=>K (St.put ⟨st.env,m,nx⟩ o.dst r) rd wr
   |none=>match kU (aZ st.env o.op) o.op with
    |some (l,args)=>dr=false/\Y l args st.mem st.nx fun r m nx=>K (St.put ⟨st.env,m,nx⟩ o.dst r) [] []
    |none=>match bd P o.op (aZ st.env o.op) st.mem st.nx with
     |some e=>e.pre/\K (St.put ⟨st.env,cH st.mem e.aT,st.nx+e.new⟩ o.dst e.val) e.rd (e.aT.map (·.1))
     |none=>False
  |some (j,b)=>match ((ops[j]?).bind (·.dst)).bind fun t=>jV (st.env t) b with
   |none=>False
   |some c=>match dI (aZ st.env o.op) o.op with
    |some (f,args)=>
     (∃ r,(c=true->asks st.env o.op/\aD P f args r)/\K (st.put o.dst (.cw c r)) [] [])\/
     ((c=true->asks st.env o.op/\sf P dr st f args fun r m nx rd wr=>K (St.put ⟨st.env,m,nx⟩ o.dst r) rd wr)/\
      (c=false->K (st.put o.dst ua) [] []))
    |none=>match kU (aZ st.env o.op) o.op with
     |some (l,args)=>(c=true->asks st.env o.op/\dr=false/\Y l args st.mem st.nx fun r m nx=>K (St.put ⟨st.env,m,nx⟩ o.dst r) [] [])/\(c=false->K (st.put o.dst ua) [] [])
     |none=>match bd P o.op (aZ st.env o.op) st.mem st.nx with
      |some e=>if e.aT.isEmpty&&e.new==0 then(c=true->asks st.env o.op/\e.pre)/\K (st.put o.dst (.cw c e.val)) e.rd []
       else(c=true->asks st.env o.op/\e.pre/\K (St.put ⟨st.env,cH st.mem e.aT,st.nx+e.new⟩ o.dst e.val) e.rd (e.aT.map (·.1)))/\
        (c=false->K (st.put o.dst ua) [] [])
      |none=>c=false/\K (st.put o.dst ua) [] []
def TL(P:Program)(o:Oper)(st:St)(K:St->List Nat->List Nat->Prop):Prop:=
 o.guard=none/\asks st.env o.op/\∃ e,dc P (aZ st.env o.op) st.mem st.nx o.op e/\K (St.put ⟨st.env,cH st.mem e.aT,st.nx+e.new⟩ o.dst e.val) e.rd (e.aT.map (·.1))
def av(P:Program)(Y:eb)(ops:Array Oper)(dr:Bool)(cf:List (Nat×Nat))(Q:Exit->St->Prop):List Oper->St->jN->Prop
 |[],st,tr=>(∀ q∈cf,pH tr q.1 q.2)/\Q .normal st
 |o::rest,st,tr=>iS P Y ops dr o st (fun st' rd wr=>av P Y ops dr cf Q rest st' (tr++[(rd,wr)]))\/TL P o st fun st' rd wr=>av P Y ops dr cf Q rest st' (tr++[(rd,wr)])
def cY:Op->Nat
 | .call { callee:=.builtin .len,.. }=>1
 | .call { callee:=.builtin .min,.. }=>0
 | .store .. | .mapUpdate .. | .insert .. | .call _=>2
 | .load .. | .lookup .. | .fieldAddr .. | .indexAddr .. | .slice .. | .nilCheck _ | .convert .. =>1
 | .alloc _ | .box .. | .buildSlice .. | .makeSlice .. | .makeMap .. =>3
 | .binOp .eql .. | .binOp .neq .. =>1
 | .move _ | .assign _ | .pick .. | .build .. | .binOp .. | .unOp .. | .makeFunc .. | .field .. | .index .. | .extract .. =>0
 |_=>2
def As(acc:List Nat)(o:Oper):Nat:=o.after.toList.foldl (fun s e=>if Region.binds .any e then s||| 2 ^ e.on||| acc.getD e.on 0 else s) 0
def ir:List Oper->List Nat->List Nat
 |[],acc=>acc
 |o::r,acc=>ir r (acc++[As acc o])
def unordered(bs:List Nat)(n:Nat):List (Nat×Nat):=
 (List.range n).flatMap fun j=>((List.range j).filter fun i=> !(bs.getD j 0).testBit i).map fun i=>(i,j)
def IF(ops:Array Oper)(i j:Nat):Bool:=match ops[i]?,ops[j]? with
 |some x,some y=>x.apart ops y
 |_,_=>true
def Fg(ops:Array Oper)(i j:Nat):Bool:=match ops[i]?,ops[j]? with
 |some x,some y=>(cY y.op==1||cY y.op==2)&&cY x.op !=0&& !(cY x.op==1&&cY y.op==1)
 |_,_=>false
def bR(ops:Array Oper):Option (List (Nat×Nat)):=
 let u:=unordered (ir ops.toList []) ops.size
 if(ops.toList.zipIdx.all fun(o,i)=>o.after.toList.all fun e=> !Region.binds .any e||Nat.blt e.on i)&&u.all fun q=>IF ops q.1 q.2 then
  some (u.filter fun q=>Fg ops q.1 q.2)
 else none
def CR(ops:Array Oper):Bool:=Nat.blt 0 ops.size&&(List.range (ops.size - 1)).all fun i=>((ir ops.toList []).getD (ops.size - 1) 0).testBit i
def fM(K:St->Prop)(Q:Exit->St->Prop):Exit->St->Prop
 | .normal,st=>K st
 |e,st=>Q e st
def fx(id:Nat)(Q:Exit->St->Prop):Exit->St->Prop
 | .exit i,st=>if i=id then Q .normal st else Q (.exit i) st
 |e,st=>Q e st
def Cw(Q:Exit->St->Prop):Exit->St->Prop
 | .goto _,_=>False
 |e,st=>Q e st
def cJ(i:Nat)(cs:List D)(sz:Nat):D->D
 | .rs j off n=>if j=i then .sl ((cs.drop off).take (n*sz)) n else .rs j off n
 | .rp j off=>if j=i then .pt (cs.drop off) else .rp j off
 |d=>d
def yD(i:Nat)(es:List (Value×D)):D->D
 | .mp j=>if j=i then .im es else .mp j
 |d=>d
def pg(σ:D->D):D->D
 | .agg ds=>.agg (ds.map σ)
 | .cw c d=>.cw c (σ d)
 |d=>σ d
def sub(σ:D->D):D->D
 | .aM ds=>.aM (ds.map (pg σ))
 | .fn f fs ds=>.fn f (fs.map (pg σ)) (ds.map (pg σ))
 |d=>pg σ d
def Row.sub(σ:D->D):Row->Row
 | .cells ds e=>.cells (ds.map (Abs.sub σ)) e
 | .map es=>.map (es.map fun x=>(x.1,Abs.sub σ x.2))
 | .bs u x T=>.bs u (Abs.sub σ x) T
 |r=>r
def Wk(d d':D):Prop:=∀ F β w v,R F β w d v->R F β w d' v
inductive aL(P:Program):St->St->Prop
 |refl (st:St):aL P st st
 |trans {a b c:St} (h:aL P a b) (k:aL P b c):aL P a c
 |forget (env env':Env) (m:Mem) (nx:Nat) (h:∀ t,env' t=env t\/env' t=.u):aL P ⟨env,m,nx⟩ ⟨env',m,nx⟩
 |drop (env:Env) (m m':Mem) (nx:Nat) (h:∀ i,m' i=m i\/m' i=none):aL P ⟨env,m,nx⟩ ⟨env,m',nx⟩
 |freeze (env:Env) (m:Mem) (nx i:Nat) (cs:List D) (e:TypeId) (h:m i=some (.cells cs e)):
  aL P ⟨env,m,nx⟩ ⟨fun t=>sub (cJ i cs (P.cellsOf e)) (env t),fun j=>if j=i then none else(m j).map (Row.sub (cJ i cs (P.cellsOf e))),nx⟩
 |Ce (env:Env) (m:Mem) (nx i:Nat) (es:List (Value×D)) (h:m i=some (.map es)):
  aL P ⟨env,m,nx⟩ ⟨fun t=>sub (yD i es) (env t),fun j=>if j=i then none else(m j).map (Row.sub (yD i es)),nx⟩
 |sd (env:Env) (m:Mem) (nx t:Nat) (e:TypeId) (h:env t=.z):aL P ⟨env,m,nx⟩ ⟨up env t (.rs nx 0 0),up m nx (some (.cells [] e)),nx+1⟩
 |nD (env env':Env) (m m':Mem) (nx:Nat) (h:∀ t,Wk (env t) (env' t)) (hm:∀ i,m' i=m i\/∃ cs cs' e,m i=some (.cells cs e)/\m' i=some (.cells cs' e)/\cs'.length=cs.length/\∀ (k:Nat) (d d':D),cs[k]? =some d->cs'[k]? =some d'->Wk d d'):
  aL P ⟨env,m,nx⟩ ⟨env',m',nx⟩
def nj(env:Env):List Tmp->List D->Env
 |t::ts,d::ds=>nj (up env t d) ts ds
 |_,_=>env
def Cg(K:St->Prop):Exit->St->Prop
 | .normal,st=>K st
 |_,_=>False
def xA(env:Env)(I':Mem->Nat->Prop)(Q:Exit->St->Prop):Exit->St->Prop
 | .normal,st=>I' st.mem st.nx
 | .ret,st=>Q .ret ⟨env,st.mem,st.nx⟩
 | .exit id,st=>Q (.exit id) ⟨env,st.mem,st.nx⟩
 |_,_=>False
def adW(P:Program)(ops:Array Oper)(Q:Exit->St->Prop):Exit->St->Prop:=fun e st=>e=.normal/\av P cZ ops false [] Q (ops.toList.drop (ops.size - 1)) st []
def Cx(P:Program)(Y:eb)(ops:Array Oper)(cf:List (Nat×Nat))(Q:Exit->St->Prop)(st:St):Prop:=
 av P Y ops true cf Q ops.toList st []\/(CR ops=true/\av P cZ ops true cf (adW P ops Q) (ops.toList.take (ops.size - 1)) st [])
def AW(P:Program)(Y:eb)(rf:Bool):Code->(Exit->St->Prop)->St->Prop
 | .skip,Q,st=>Q .normal st
 | .region _ ops false,Q,st=>av P Y ops false [] Q ops.toList st []
 | .region _ ops true,Q,st=>match bR ops with
  |some cf=>Cx P Y ops cf Q st
  |none=>False
 | .seq a b,Q,st=>AW P Y rf a (fM (fun st'=>∃ C,aL P st' C/\AW P Y rf b Q C) Q) st
 | .cond c a b,Q,st=>(opd st.env c).ask/\match (opd st.env c).core with
  | .s (.bool t)=>(t=true->AW P Y rf a Q st)/\(t=false->AW P Y rf b Q st)
  | .ub=>AW P Y rf a Q st/\AW P Y rf b Q st
  |_=>False
 | .block id b,Q,st=>AW P Y rf b (fx id Q) st
 | .scope b,Q,st=>AW P Y rf b (Cw Q) st
 | .loop b,Q,st=>∃ (I:St->Prop) (μ:St->Nat),I st/\∀ st',I st'->AW P Y rf b (fM (fun C=>∃ J,aL P C J/\I J/\μ J<μ st') Q) st'
 | .rangeFunc g ps assign body,Q,st=>rf=true/\(opd st.env g).ask/\∃ f fs cs xs,∃ I:Nat->Mem->Nat->Prop,(opd st.env g).core=.fn (.func f) fs cs/\vX P f fs cs xs/\(∀ x∈xs,x.length=ps.size/\∀ d∈x,Tr d)/\I 0 st.mem st.nx/\
   (∀ k m nx x,xs[k]? =some x->I k m nx->AW P cZ false assign (Cg fun s=>AW P cZ false body (xA st.env (I (k+1)) Q) s) ⟨nj st.env ps.toList x,m,nx⟩)/\
   ∀ m nx,I xs.length m nx->Q .normal ⟨st.env,m,nx⟩
 | .exit id,Q,st=>Q (.exit id) st
 | .label _,Q,st=>Q .normal st
 | .ret,Q,st=>Q .ret st
 |_,_,_=>False
def nG(P:Program)(st:St):ResultVar->Option (Prop×D)
 | .tmp t=>some (True,st.env t)
 | .cell a t=>match st.env a with
  | .rp i off=>match st.mem i with
   |some (.cells cs _)=>some (aI P t=true/\off+P.cellsOf t<=cs.length,gE P t (cs.drop off))
   |_=>none
  | .pt cs=>some (aI P t=true/\P.cellsOf t<=cs.length,gE P t cs)
  |_=>none
def nH(P:Program)(st:St):List ResultVar->List D->(List D->Prop)->Prop
 |[],acc,K=>K acc
 |r::rs,acc,K=>match nG P st r with
  |some (p,d)=>p/\nH P st rs (acc++[d]) K
  |none=>False
def p7:List D->D
 |[d]=>d
 |ds=>.aM ds
def gX(P:Program)(rs:List ResultVar)(K:D->St->Prop):Exit->St->Prop
 | .normal,st=>nH P st rs [] fun ds=>K (p7 ds) st
 | .ret,st=>nH P st rs [] fun ds=>K (p7 ds) st
 |_,_=>False
def io(args:List D):Env:=fun t=>args.getD t .u
section inv
variable{F:Nat->Prop}{β:aE}{w:World}{v:Value}
theorem R.cX{x:Value}(h:R F β w (.s x) v):v=x/\plain x=true:=by cases h;exact⟨rfl,‹_›⟩
theorem R.F5(h:R F β w .ub v):∃ b,v=.bool b:=by cases h;exact⟨_,rfl⟩
theorem R.tY(h:R F β w .z v):∃ a,v=.slice a 0 0:=by cases h;exact⟨_,rfl⟩
theorem R.rV{cs:List D}(h:R F β w (.agg cs) v):∃ vs:List Value,v=.agg vs.toArray/\vs.length=cs.length/\∀ (k:Nat) (d:D) (u:Value),cs[k]? =some d->vs[k]? =some u->R F β w d u:=by
 cases h with|agg _ vs hl h=>exact⟨vs,rfl,hl,h⟩
theorem R.Cd{cs:List D}(h:R F β w (.aM cs) v):∃ vs:List Value,v=.tuple vs.toArray/\vs.length=cs.length/\∀ (k:Nat) (d:D) (u:Value),cs[k]? =some d->vs[k]? =some u->R F β w d u:=by
 cases h with|aM _ vs hl h=>exact⟨vs,rfl,hl,h⟩
theorem R.tD(d:D)(h:R F β w d v)(ha:d.ask):R F β w d.core v:=by
 cases h with
 |cw c d v h h'=>exact h ha
 |u v=>exact .u _
 |s v h=>exact .s _ h
 |ub b=>exact .ub _
 |agg cs vs h h'=>exact .agg _ _ h h'
 |aM cs vs h h'=>exact .aM _ _ h h'
 |z a=>exact .z _
 |gg a c=>exact .gg _ _
 |sc es n a h=>exact .sc _ _ _ h
 |sl es n b o cap us h1 h2 C J M U X=>exact .sl _ _ _ _ _ _ h1 h2 C J M U X
 |pt cs b o us h1 h2 C J M=>exact .pt _ _ _ _ h1 h2 C J M
 |kG i off n v h hv=>exact .kG _ _ _ _ h hv
 |iO i a h=>exact .iO _ _ h
 |jK i off a b o len room sz h=>exact .jK _ _ _ _ _ _ _ _ h
 |rs i off n cap b o len room sz h h1 h2 C J=>exact .rs _ _ _ _ _ _ _ _ _ h h1 h2 C J
 |qk i off v h hv=>exact .qk _ _ _ h hv
 |rp i off b o len room sz h=>exact .rp _ _ _ _ _ _ _ h
 |yM i v h hv=>exact .yM _ _ h hv
 |mp i r h=>exact .mp _ _ h
 |im es r ms c h1 h2 C J M U X=>exact .im _ _ _ _ h1 h2 C J M U X
 |fn f fs cs us vs h1 h2 C J=>exact .fn _ _ _ _ _ h1 h2 C J
theorem YO{x:Value}(h:plain x=true):x.oneCell'=true:=by cases x<;>simp_all[plain,Value.oneCell']
theorem R.one{d:D}(h:R F β w d v)(hd:d.one=true):v.oneCell'=true:=by
 cases h<;>first|rfl|assumption|(simp[D.one] at hd;done)|(exact YO ‹_›)
theorem R.cells{d:D}(h:R F β w d v)(hd:d.cells.all D.one=true):v.cells.size=d.cells.length/\(∀ (k:Nat) (e:D) (u:Value),d.cells[k]? =some e->v.cells[k]? =some u->R F β w e u/\u.oneCell'=true)/\(∀ u∈v.cells.toList,u.oneCell'=true):=by
 have single:d.cells=[d]->v.cells.size=d.cells.length/\(∀ (k:Nat) (e:D) (u:Value),d.cells[k]? =some e->v.cells[k]? =some u->R F β w e u/\u.oneCell'=true)/\(∀ u∈v.cells.toList,u.oneCell'=true):=fun hs=>by
  have h1:d.one=true:=by simpa[hs] using hd
  have h2:=h.one h1;have J:v.cells= #[v]:=by cases v<;>first|rfl|(simp[Value.oneCell'] at h2;done)
  rw[J,hs];refine⟨rfl,fun k e u hk hu=>?_,fun u hu=>?_⟩
  .cases k with
   |zero=>simp at hk hu;subst hk;subst hu;exact⟨h,h2⟩
   |succ k=>simp at hk
  .simp at hu;subst hu;exact h2
 cases d with
 |agg cs=>
  obtain⟨vs,rfl,hl,hr⟩:=h.rV
  have C:∀ (k:Nat) (u:Value),vs[k]? =some u->u.oneCell'=true:=fun k u hu=>by
   have hk:k<cs.length:=by
    have:=(bM.1 hu).1;omega
   have h1:=hr k cs[k] u (by simp[hk]) hu;exact h1.one (bV.1 hd _ (gi hk))
  refine⟨by simpa[Value.cells,D.cells] using hl,fun k e u hk hu=>?_,fun u hu=>?_⟩
  .simp[Value.cells] at hu;exact⟨hr k e u hk hu,C k u hu⟩
  .simp[Value.cells] at hu;obtain⟨k,hk⟩:=ep hu;exact C k u hk
 |_=>exact single rfl
end inv
section opd
variable{F:Nat->Prop}{β:aE}{w:World}
theorem Ke(v:Value):R F β w (nE v) v:=by
 unfold nE;split<;>first|exact .u _|exact .s _ rfl|exact .z _
theorem ad9(v:Value):R F β w (Mo v) v:=by
 unfold Mo;split
 .rename_i cs
  have:=R.agg (F:=F) (β:=β) (w:=w) (cs.toList.map nE) cs.toList oS (fun k d u hk hu=>by
   simp only[List.getElem?_map,hu,Option.map_some,aH] at hk;subst hk
   exact Ke u)
  simpa using this
 all_goals first|exact .u _|exact .s _ rfl|exact .z _
def gI(F:Nat->Prop)(β:aE)(w:World)(env:Env)(a:Act):Prop:=∀ t,R F β w (env t) (a.tmps.getD t undef)
theorem gI.opd{env:Env}{a:Act}(h:gI F β w env a)(x:Operand):R F β w (opd env x) (a.eval x):=by
 cases x with
 |tmp t=>exact h t
 |const v=>exact ad9 v
 |global g=>exact .u _
 |func f=>exact .fn (.func f) [] [] [] [] rfl rfl oS oS
theorem gI.step{β':aE}{w':World}{env:Env}{a:Act}(h:gI F β w env a)(hs:Step β w β' w'):gI F β' w' env a:=fun t=>(h t).step hs
theorem gI.put{env:Env}{a:Act}(h:gI F β w env a)(dst:Option Nat)(d:D)(v:Value)(hr:R F β w d v)(hd:∀ t,dst=some t->t<a.tmps.size):
 gI F β w (match dst with|some t=>up env t d|none=>env) (a.put dst v):=by
 cases dst with
 |none=>exact h
 |some t=>
  intro j;have ht:=hd t rfl;by_cases hj:j=t
  .subst hj;simp only[al,Act.put];simpa[Array.getD_eq_getD_getElem?,ht] using hr
  .simp only[aB _ _ hj,Act.put];have:=h j;simpa[Array.getD_eq_getD_getElem?,Array.getElem?_setIfInBounds_ne (Ne.symm hj)] using this
end opd
section types
variable{P:Program}(w:World)
theorem qF{t:TypeId}(h:aI P t=true):∃ i d z,P.info? t=some i/\P.underlying t=some d/\i.zero=some z/\(bl P t=false->P.cellsOf t=1)/\z.cells.size=P.cellsOf t/\
 a7 P t=z.cells.toList.map nE/\i.size=P.cellsOf t/\i.bytes=P.bytesOf t/\(∀ u∈z.cells.toList,(nE u).one=true):=by
 unfold aI at h;simp only[ba,Bool.or_eq_true,beq_iff_eq] at h;obtain⟨⟨h1,h2⟩,C⟩:=h;obtain⟨d,hd⟩:=Option.isSome_iff_exists.1 h1;cases hi:P.info? t with
 |none=>simp[hi] at C
 |some i=>
  cases hz:i.zero with
  |none=>simp[hi,hz] at C
  |some z=>
   simp only[hi,hz,Option.bind_some,ba,beq_iff_eq,bV] at C;refine⟨i,d,z,rfl,hd,hz,fun ha=>?_,C.2,?_,?_,?_,C.1⟩
   .rcases h2 with h2|h2
    .rw[h2] at ha;cases ha
    .exact h2
   .simp[a7,hi,hz]
   .simp[Program.cellsOf,hi]
   .simp[Program.bytesOf,hi]
theorem BS{t:TypeId}(h:(P.underlying t).isSome=true):(isAgg t).run P w=.ok (bl P t) w:=by
 obtain⟨d,hd⟩:=Option.isSome_iff_exists.1 h;simp only[isAgg,Sem.run_bind,run_underlying hd,Result.andThen_ok,bl,hd];cases d<;>rfl
theorem iz{t:TypeId}(h:(P.info? t).isSome=true):(sizeOf t).run P w=.ok (P.cellsOf t) w:=by
 obtain⟨i,hi⟩:=Option.isSome_iff_exists.1 h;simp[sizeOf,typeInfo,Program.cellsOf,hi]
theorem jy{t:TypeId}(h:aI P t=true):(P.info? t).isSome=true:=by
 obtain⟨i,_,_,hi,_⟩:=qF h;simp[hi]
theorem zM{t:TypeId}(h:aI P t=true):(P.underlying t).isSome=true:=by
 obtain⟨_,d,_,_,hd,_⟩:=qF h;simp[hd]
theorem zx{t:TypeId}(h:aI P t=true):∃ z,(zeroValue t).run P w=.ok z w/\z.cells.size=P.cellsOf t/\a7 P t=z.cells.toList.map nE/\(∀ u∈z.cells.toList,(nE u).one=true):=by
 obtain⟨i,d,z,hi,_,hz,_,h1,h2,_,_,C⟩:=qF h;exact⟨z,by simp[zeroValue,typeInfo,hi,hz],h1,h2,C⟩
theorem jU{t:TypeId}(h:bg P t=true):P.underlying t=some (.slice (aF P t))/\aI P (aF P t)=true:=by
 unfold bg at h;unfold aF;split at h
 .rename_i e he;rw[he];exact⟨rfl,h⟩
 .cases h
theorem Jh{t:TypeId}(h:nP P t=true):P.underlying t=some (.array (ou P t) (aF P t))/\aI P (aF P t)=true:=by
 unfold nP at h;unfold aF ou;split at h
 .rename_i e he;rw[he];exact⟨rfl,h⟩
 .cases h
theorem ve{t:TypeId}(h:fO P t=true):P.underlying t=some .string:=by
 unfold fO at h;split at h
 .assumption
 .cases h
end types
def aX(P:Program)(F:Nat->Prop)(m:Mem)(nx:Nat)(β:aE)(w:World)(e:dt)(s:Sem Next):Prop:=
 ∃ n v w' β',s.run P w=.ok n w'/\(n=.value v\/(n=.skip/\v=undef))/\R F β' w' e.val v/\aK P F (cH m e.aT) β' w'/\Step β w β' w'/\∀ i,β i=none->(i<nx\/nx+e.new<=i)->β' i=none
section
variable{P:Program}{F:Nat->Prop}{m:Mem}{nx:Nat}{β:aE}{w:World}
theorem aX.pure(hm:aK P F m β w){pre:Prop}{d:D}{rd:List Nat}{s:Sem Value}{v:Value}(hr:s.run P w=.ok v w)(h:R F β w d v):
 aX P F m nx β w { pre:=pre,val:=d,rd:=rd } (do Pure.pure (Next.value (<- s))):=
 ⟨.value v,v,w,β,by simp[hr],.inl rfl,h,hm,Step.refl β w,fun _ h _=>h⟩
def Rd(F:Nat->Prop)(β:aE)(w:World)(b o:Nat)(cs:List D):Prop:=
 ∃ us:Nat->Value,(∀ k:Nat,k<cs.length->w.cell? ⟨b,o+k,none⟩=some (us k)/\(us k).oneCell'=true)/\∀ (k:Nat) (d:D),cs[k]? =some d->R F β w d (us k)
theorem Rd.drop{b o:Nat}{cs:List D}(h:Rd F β w b o cs)(k:Nat):Rd F β w b (o+k) (cs.drop k):=by
 obtain⟨us,h1,h2⟩:=h;refine⟨fun j=>us (k+j),fun j hj=>?_,fun j d hj=>?_⟩
 .have:=h1 (k+j) (by simp at hj;omega);rw[<- Nat.add_assoc] at this;exact this
 .exact h2 (k+j) d (by simpa[List.getElem?_drop] using hj)
theorem Rd.take{b o:Nat}{cs:List D}(h:Rd F β w b o cs)(k:Nat):Rd F β w b o (cs.take k):=by
 obtain⟨us,h1,h2⟩:=h;refine⟨us,fun j hj=>h1 j (by simp at hj;omega),fun j d hj=>h2 j d ?_⟩;rw[List.getElem?_take] at hj;split at hj
 .exact hj
 .cases hj
theorem cB.rd{cs:List D}{e:TypeId}{b o len room sz:Nat}(h:cB P F β w (.cells cs e) (.cells b o len room sz)):Rd F β w b o cs/\len=cs.length/\sz=P.cellsOf e/\len<=room:=by
 cases h with
 |cells _ _ _ _ _ _ c hc hr hlen bC hh=>
  refine⟨⟨fun k=>(c[o+k]?).getD undef,fun k hk=>?_,fun k d hk=>?_⟩,rfl,bC,hlen⟩
  .have:o+k<c.size:=by omega
   obtain⟨v,h1,_,C⟩:=hh k cs[k] (by simp[hk]);exact⟨by simp[World.cell?,hc,h1],by simpa[h1] using C⟩
  .obtain⟨v,h1,h2,_⟩:=hh k d hk;simpa[h1] using h2
theorem R.Gc{cs:List D}{v:Value}(h:R F β w (.pt cs) v):∃ b o,v=.pointer (some ⟨b,o,none⟩)/\¬ F b/\β.free b/\b<w.heap.size/\Rd F β w b o cs:=by
 cases h with|pt _ b o us h1 h2 h3 h4 h5=>exact⟨b,o,rfl,h1,h2,h3,us,h4,h5⟩
theorem R.SP{cs:List D}{b o:Nat}(h1:¬ F b)(h2:β.free b)(C:b<w.heap.size)(h:Rd F β w b o cs):R F β w (.pt cs) (.pointer (some ⟨b,o,none⟩)):=by
 obtain⟨us,J,M⟩:=h;exact .pt cs b o us h1 h2 C J M
theorem R.Gb(hm:aK P F m β w){i off:Nat}{cs:List D}{e:TypeId}{v:Value}(h:R F β w (.rp i off) v)(hi:m i=some (.cells cs e)):
 ∃ b o room sz,β i=some (.cells b o cs.length room sz)/\v=.pointer (some ⟨b,o+off,none⟩)/\cB P F β w (.cells cs e) (.cells b o cs.length room sz):=by
 obtain⟨p,hp,aq⟩:=hm.row i _ hi;cases h with
 |qk _ _ _ h _=>
  rw[h] at hp;cases hp;cases aq
 |rp _ _ b o len room sz h=>
  rw[h] at hp;cases hp;obtain⟨_,h2,_,_⟩:=aq.rd;subst h2;exact⟨b,o,room,sz,h,rfl,aq⟩
theorem Ev{t:TypeId}(ht:aI P t=true){b o:Nat}{cs:List D}(h:Rd F β w b o cs)(hl:P.cellsOf t<=cs.length):
 ∃ v,(loadVar t ⟨b,o,none⟩).run P w=.ok v w/\R F β w (gE P t cs) v:=by
 obtain⟨us,h1,h2⟩:=h;obtain⟨i,d,z,hi,hd,hz,C,_⟩:=qF ht;unfold loadVar gE;simp only[Sem.run_bind,BS w (zM ht),Result.andThen_ok];cases ha:bl P t with
 |true=>
  have hc:=run_loadCells (P:=P) w ⟨b,o,none⟩ (P.cellsOf t) us (fun j hj=>by rw[Addr.add_lit];exact(h1 j oG).1);refine⟨_,by simp[iz w (jy ht),hc];rfl,?_⟩;refine .agg _ _ oP fun k d v hk hv=>?_;simp only[List.getElem?_map] at hv;rw[List.getElem?_take] at hk;split at hk
  .rename_i ah;have:(List.range (P.cellsOf t))[k]? =some k:=by simp[ah]
   rw[this] at hv;simp at hv;subst hv;exact h2 k d hk
  .cases hk
 |false=>
  have J:=C ha;have h0:=(h1 0 oG).1;rw[Nat.add_zero] at h0;refine⟨us 0,by simp[h0],?_⟩;cases cs with
  |nil=>simp at hl;omega
  |cons d ds=>exact h2 0 d rfl
theorem W9(hm:aK P F m β w){t:TypeId}{cs:List D}{v:Value}{pre:Prop}(h:R F β w (.pt cs) v)(ht:aI P t=true)(hl:P.cellsOf t<=cs.length):
 aX P F m nx β w { pre:=pre,val:=gE P t cs } (do Pure.pure (Next.value (<- Instr.loadAt t v))):=by
 obtain⟨b,o,rfl,_,_,_,C⟩:=h.Gc;obtain⟨u,hu,hr⟩:=Ev ht C hl;exact aX.pure hm (by simp[Instr.loadAt,Instr.sureAddr,hu]) hr
theorem Xa(hm:aK P F m β w){t:TypeId}{i off:Nat}{cs:List D}{e:TypeId}{v:Value}{pre:Prop}{rd:List Nat}(h:R F β w (.rp i off) v)(hi:m i=some (.cells cs e))
 (ht:aI P t=true) (hl:off+P.cellsOf t<=cs.length):
 aX P F m nx β w { pre:=pre,val:=gE P t (cs.drop off),rd:=rd } (do Pure.pure (Next.value (<- Instr.loadAt t v))):=by
 obtain⟨b,o,room,sz,C,rfl,aq⟩:=h.Gb hm hi;obtain⟨u,hu,hr⟩:=Ev ht (aq.rd.1.drop off) oP;exact aX.pure hm (by simp[Instr.loadAt,Instr.sureAddr,hu]) hr
theorem IK{cs:List D}{off:Nat}{xs:List D}(h:off+xs.length<=cs.length):gB cs off xs=cs.take off++xs++cs.drop (off+xs.length):=by
 unfold gB;split
 .rename_i x;simp at h;rw[List.set_eq_take_append_cons_drop,if_pos oG];simp
 .rfl
theorem Ic{cs:List D}{off:Nat}{xs:List D}(h:off+xs.length<=cs.length):(gB cs off xs).length=cs.length:=by
 rw[IK h];simp;omega
theorem OD{cs:List D}{off:Nat}{xs:List D}(h:off+xs.length<=cs.length)(k:Nat):(gB cs off xs)[k]? =if k<off then cs[k]? else if k<off+xs.length then xs[k - off]? else cs[k]? :=by
 rw[IK h];by_cases h1:k<off
 .rw[if_pos h1,List.append_assoc,List.getElem?_append_left oP,List.getElem?_take,if_pos h1]
 .rw[if_neg h1];by_cases h2:k<off+xs.length
  .rw[if_pos h2,List.append_assoc,List.getElem?_append_right oP,List.length_take,Nat.min_eq_left oG,List.getElem?_append_left oG]
  .rw[if_neg h2,List.getElem?_append_right oP,List.length_append,List.length_take,Nat.min_eq_left oG,List.getElem?_drop];congr 1;omega
theorem Ex(c:List Value)(off:Nat)(xs:List Value)(h:off+xs.length<=c.length)(k:Nat):(c.take off++xs++c.drop (off+xs.length))[k]? =if k<off then c[k]? else if k<off+xs.length then xs[k - off]? else c[k]? :=by
 by_cases h1:k<off
 .rw[if_pos h1,List.append_assoc,List.getElem?_append_left oP,List.getElem?_take,if_pos h1]
 .rw[if_neg h1];by_cases h2:k<off+xs.length
  .rw[if_pos h2,List.append_assoc,List.getElem?_append_right oP,List.length_take,Nat.min_eq_left oG,List.getElem?_append_left oG]
  .rw[if_neg h2,List.getElem?_append_right oP,List.length_append,List.length_take,Nat.min_eq_left oG,List.getElem?_drop];congr 1;omega
theorem Oa(hm:aK P F m β w){i off:Nat}{cs:List D}{e:TypeId}{b o room sz:Nat}(hβ:β i=some (.cells b o cs.length room sz))(aq:cB P F β w (.cells cs e) (.cells b o cs.length room sz))
 {ds:List D} {vs:List Value} (hlen:vs.length=ds.length) (nI:off+ds.length<=cs.length) (h1:∀ u∈vs,u.oneCell'=true) (hr:∀ (k:Nat) (d:D) (u:Value),ds[k]? =some d->vs[k]? =some u->R F β w d u):
 ∃ w',(storeCells ⟨b,o+off,none⟩ vs).run P w=.ok () w'/\aK P F (up m i (some (.cells (gB cs off ds) e))) β w'/\Step β w β w':=by
 cases aq with
 |cells _ _ _ _ _ _ c hc uc hle bC hh=>
 have U:=run_storeCells_at P b (o+off) e vs 0 c w hc oG h1;simp only[Nat.add_zero] at U;have qY:=setRow_heap w b c (c.toList.take (o+off)++vs++c.toList.drop (o+off+vs.length)).toArray e (0,0) hc
 have hs:Step β w β (w.setRow b (c.toList.take (o+off)++vs++c.toList.drop (o+off+vs.length)).toArray):=
  BR hm hβ rfl oS fun k hk=>setRow_other w b k _ hk
 refine⟨_,U,hm.write hβ rfl oS (fun k hk=>setRow_other w b k _ hk) _ ?_,hs⟩;have hl:=Ic (cs:=cs) (off:=off) (xs:=ds) oG
 have GJ:(c.toList.take (o+off)++vs++c.toList.drop (o+off+vs.length)).toArray.size=c.size:=by
  simp only[List.size_toArray,List.length_append,List.length_take,List.length_drop,Array.length_toList];omega
 have key:=cB.cells (P:=P) (F:=F) (β:=β) (w:=w.setRow b (c.toList.take (o+off)++vs++c.toList.drop (o+off+vs.length)).toArray) (gB cs off ds) e b o room sz _ qY (by rw[GJ];exact uc) oG bC (fun k d hk=>by
  rw[OD oG] at hk;have hv:=Ex c.toList (o+off) vs oP (o+k);simp only[List.getElem?_toArray];by_cases h2:k<off
  .rw[if_pos h2] at hk;rw[if_pos oG] at hv;obtain⟨u,C,J,M⟩:=hh k d hk;exact⟨u,by rw[hv];simpa using C,J.step hs,M⟩
  .rw[if_neg h2] at hk;rw[if_neg oG] at hv;by_cases X:k<off+ds.length
   .rw[if_pos X] at hk;rw[if_pos oG] at hv;have ah:k - off<vs.length:=by omega
    refine⟨vs[k - off],by rw[hv,show o+k - (o+off)=k - off from by omega];simp[ah],?_,h1 _ (gi ah)⟩;exact(hr (k - off) d vs[k - off] hk (by simp[ah])).step hs
   .rw[if_neg X] at hk;rw[if_neg oG] at hv;obtain⟨u,C,J,M⟩:=hh k d hk
    exact⟨u,by rw[hv];simpa using C,J.step hs,M⟩)
 rw[hl] at key;exact key
theorem YP(hm:aK P F m β w){t:TypeId}{i off:Nat}{cs:List D}{e:TypeId}{a x:Value}{d:D}{pre:Prop}{rd:List Nat}(h:R F β w (.rp i off) a)(hx:R F β w d x)(hi:m i=some (.cells cs e))
 (ht:aI P t=true) (hlen:d.cells.length=P.cellsOf t) (hl:off+P.cellsOf t<=cs.length) (h1:d.cells.all D.one=true):
 aX P F m nx β w { pre:=pre,val:=.aM [],aT:=[(i,some (.cells (gB cs off d.cells) e))],rd:=rd } (do Instr.storeAt t a x;Pure.pure Next.skip):=by
 obtain⟨b,o,room,sz,U,rfl,aq⟩:=h.Gb hm hi;obtain⟨c1,C,c3⟩:=hx.cells h1;obtain⟨w',J,M,hs⟩:=Oa (P:=P) hm U aq (off:=off) (ds:=d.cells) (vs:=x.cells.toList) (by simpa using c1) oG c3 (fun k d' u hk hu=>(C k d' u hk (by simpa using hu)).1);refine⟨.skip,undef,w',β,?_,.inr ⟨rfl,rfl⟩,.aM [] [] rfl oS,M,hs,fun _ h _=>h⟩;have bC:x.cells.size=P.cellsOf t:=by omega
 simp[Instr.storeAt,Instr.sureAddr,storeVar,iz w (jy ht),bC,J]
theorem Ck(hm:aK P F m β w)(hn:β nx=none){cs:List D}{c:List Value}{e:TypeId}(hl:c.length=cs.length)(h1:∀ (k:Nat) (d:D) (u:Value),cs[k]? =some d->c[k]? =some u->R F β w d u/\u.oneCell'=true)(C:List Value):
 aK P F (up m nx (some (.cells cs e))) (up β nx (some (.cells w.heap.size 0 cs.length (cs.length+C.length) (P.cellsOf e)))) (w.alloc (.cells (c++C).toArray e))/\
 Step β w (up β nx (some (.cells w.heap.size 0 cs.length (cs.length+C.length) (P.cellsOf e)))) (w.alloc (.cells (c++C).toArray e)):=by
 have hs:=zA hm (.cells (c++C).toArray e) hn (.cells w.heap.size 0 cs.length (cs.length+C.length) (P.cellsOf e)) (fun b hb=>by simp[Pl.bG] at hb;exact hb.symm);refine⟨hm.alloc hn _ _ _ (fun b hb=>by simp[Pl.bG] at hb;exact hb.symm) ?_,hs⟩;refine .cells cs e w.heap.size 0 _ _ (c++C).toArray (heap_alloc_new w _) oP oG rfl fun k d hk=>?_;have U:k<cs.length:=(bM.1 hk).1;have J:k<c.length:=by omega
 obtain⟨h2,M⟩:=h1 k d c[k] hk (by simp[J]);refine⟨c[k],?_,h2.step hs,M⟩;rw[Nat.zero_add,List.getElem?_toArray,List.getElem?_append_left J];simp[J]
theorem vf{p:Pl}:∀ i,β i=none->(i<nx\/nx+1<=i)->up β nx (some p) i=none:=fun i h hi=>by
 rw[aB _ _ oG];exact h
theorem EB(t:TypeId)(v:Value):(newVar t v).run P w=.ok ⟨w.heap.size,0,none⟩ (w.alloc (.cells v.cells t)):=by
 simp[newVar,newRow]
theorem ab2(hm:aK P F m β w)(hn:β nx=none){t:TypeId}{d:D}{v:Value}{pre:Prop}(h:R F β w d v)(h1:d.cells.all D.one=true):
 aX P F m nx β w { pre:=pre,val:=.rp nx 0,aT:=[(nx,some (.cells d.cells t))],new:=1 } (do Pure.pure (Next.value (<- Instr.box t v))):=by
 obtain⟨c1,J,c3⟩:=h.cells h1;obtain⟨h2,C⟩:=Ck hm hn (cs:=d.cells) (c:=v.cells.toList) (e:=t) (by simpa using c1) (fun k e u hk hu=>J k e u hk (by simpa using hu)) [];simp only[List.append_nil,Array.toArray_toList] at h2 C;refine⟨_,_,_,_,by simp[Instr.box,EB];rfl,.inl rfl,?_,h2,C,vf⟩;exact .rp nx 0 w.heap.size 0 _ _ _ (al _ _ _)
theorem Ae{z:Value}{t:TypeId}(hz:a7 P t=z.cells.toList.map nE)(C:∀ u∈z.cells.toList,(nE u).one=true):
 z.cells.toList.length=(a7 P t).length/\∀ (k:Nat) (d:D) (u:Value),(a7 P t)[k]? =some d->z.cells.toList[k]? =some u->R F β w d u/\u.oneCell'=true:=by
 rw[hz];refine⟨oS,fun k d u hk hu=>?_⟩;rw[List.getElem?_map,hu] at hk;simp only[Option.map_some,aH] at hk;subst hk;have:=Ke (F:=F) (β:=β) (w:=w) u;exact⟨this,this.one (C u (bz hu))⟩
theorem YQ(hm:aK P F m β w)(hn:β nx=none){t:TypeId}{pre:Prop}(ht:aI P t=true):
 aX P F m nx β w { pre:=pre,val:=.rp nx 0,aT:=[(nx,some (.cells (a7 P t) t))],new:=1 } (do Pure.pure (Next.value (<- Instr.alloc t true (.tuple #[])))):=by
 obtain⟨z,hz,_,U,X⟩:=zx (P:=P) w ht;obtain⟨c1,M⟩:=Ae (F:=F) (β:=β) (w:=w) U X;obtain⟨C,J⟩:=Ck hm hn (cs:=a7 P t) (c:=z.cells.toList) (e:=t) c1 M [];simp only[List.append_nil,Array.toArray_toList] at C J;refine⟨_,_,_,_,by simp[Instr.alloc,hz,EB];rfl,.inl rfl,?_,C,J,vf⟩;exact .rp nx 0 w.heap.size 0 _ _ _ (al _ _ _)
end
section
variable{P:Program}{F:Nat->Prop}{m:Mem}{nx:Nat}{β:aE}{w:World}
def Rl(F:Nat->Prop)(β:aE)(w:World)(cs:List D)(c:List Value):Prop:=
 c.length=cs.length/\∀ (k:Nat) (d:D) (u:Value),cs[k]? =some d->c[k]? =some u->R F β w d u/\u.oneCell'=true
theorem Ph(off:Nat):∀ (l:List Value) (j:Nat) (cells:Array Value) (k:Nat),off+j+l.length<=cells.size->
 ((l.zipIdx j).foldl (fun cs (c,j)=>cs.setIfInBounds (off+j) c) cells)[k]? =if k<off+j then cells[k]? else if k<off+j+l.length then l[k - (off+j)]? else cells[k]?
 |[],j,cells,k,_=>by
  simp only[List.zipIdx_nil,List.foldl_nil,List.length_nil,Nat.add_zero];split
  .rfl
  .rfl
 |v::l,j,cells,k,h=>by
  simp only[List.zipIdx_cons,List.foldl_cons];simp at h;rw[Ph off l (j+1) _ k oP];simp only[List.length_cons];by_cases h1:k<off+j
  .rw[if_pos oG,if_pos h1,Array.getElem?_setIfInBounds_ne oG]
  .rw[if_neg h1];by_cases h2:k=off+j
   .subst h2;rw[if_pos oG,if_pos oG];have:off+j<cells.size:=by omega
    simp[this]
   .rw[if_neg oG];by_cases C:k<off+(j+1)+l.length
    .rw[if_pos C,if_pos oG,show k - (off+j)=(k - (off+(j+1)))+1 from by omega];simp
    .rw[if_neg C,if_neg oG,Array.getElem?_setIfInBounds_ne oG]
theorem Xb(off:Nat)(l:List Value)(cells:Array Value)(h:off+l.length<=cells.size):
 (l.zipIdx.foldl (fun cs (c,j)=>cs.setIfInBounds (off+j) c) cells).toList=cells.toList.take off++l++cells.toList.drop (off+l.length):=by
 apply List.ext_getElem?;intro k;rw[Ex _ _ _ (by simpa using h) k];have:=Ph off l 0 cells k (by simpa using h);simpa using this
theorem Gg(place:Nat->Option (Nat×Nat)):∀ (ps:List (Nat×D)) (C:List (Nat×Value)) (cs:List D) (c:Array Value) (cs':List D),Rl F β w cs c.toList->ps.length=C.length->
 (∀ (k:Nat) (p:Nat×D) (q:Nat×Value),ps[k]? =some p->C[k]? =some q->p.1=q.1/\R F β w p.2 q.2)->gF place cs ps=some cs'->∃ c',Instr.fill place c C=some c'/\Rl F β w cs' c'.toList
 |[],[],cs,c,cs',h,_,_,hf=>by
  simp only[gF,aH] at hf;subst hf;exact⟨c,rfl,h⟩
 |[],_::_,_,_,_,_,hl,_,_=>by simp at hl
 |_::_,[],_,_,_,_,hl,_,_=>by simp at hl
 |(i,d)::ps,(i',v)::C,cs,c,cs',h,hl,hp,hf=>by
  obtain⟨h1,h2⟩:=hp 0 _ _ rfl rfl;simp only at h1 h2;subst h1;simp only[gF] at hf;cases X:place i with
  |none=>simp[X] at hf
  |some q=>
   obtain⟨off,size⟩:=q;simp only[X] at hf;split at hf
   .rename_i hc;obtain⟨sZ,mR,U⟩:=hc;obtain⟨k1,k2,k3⟩:=h2.cells U;have dy:=h.1;simp at dy
    have J:¬ (v.cells.size≠size||off+v.cells.size>c.size)=true:=by
     simp;omega
    simp only[Instr.fill,X];rw[if_neg J];have M:=Xb off v.cells.toList c oP
    have mE:v.cells.zipIdx.foldl (fun cs (c,j)=>cs.setIfInBounds (off+j) c) c=(v.cells.toList.zipIdx.foldl (fun cs (c,j)=>cs.setIfInBounds (off+j) c) c):=by
     rw[<- Array.foldl_toList];simp
    rw[mE];refine Gg place ps C (gB cs off d.cells) _ cs' ?_ (by simpa using hl) (fun k p q hk hq=>hp (k+1) p q hk hq) hf;rw[M];refine⟨?_,fun k e u hk hu=>?_⟩
    .rw[Ic oG];simp;omega
    .rw[OD oG] at hk;rw[Ex _ _ _ oP] at hu;simp only[Array.length_toList] at hu;by_cases g1:k<off
     .rw[if_pos g1] at hk hu;exact h.2 k e u hk hu
     .rw[if_neg g1] at hk hu;by_cases g2:k<off+d.cells.length
      .rw[if_pos g2] at hk;rw[if_pos oG] at hu;exact k2 (k - off) e u hk (by simpa using hu)
      .rw[if_neg g2] at hk;rw[if_neg oG] at hu;exact h.2 k e u hk hu
   .cases hf
theorem P'(z:List D)(hz:0<z.length):∀ (n k:Nat),k<n*z.length->(dz n z)[k]? =z[k % z.length]?
 |0,k,h=>by simp at h
 |n+1,k,h=>by
  have e:dz (n+1) z=z++dz n z:=by simp[dz,List.replicate_succ]
  rw[e];by_cases hk:k<z.length
  .rw[List.getElem?_append_left hk,Nat.mod_eq_of_lt hk]
  .rw[List.getElem?_append_right oG,P' z hz n (k - z.length) (by rw[Nat.add_mul] at h;omega)];rw[<- Nat.mod_eq_sub_mod oG]
theorem BP(n:Nat)(z:List D):(dz n z).length=n*z.length:=by
 simp[dz,List.length_flatten]
theorem JK{t:TypeId}{z:Value}(hs:z.cells.size=P.cellsOf t)(hz:a7 P t=z.cells.toList.map nE)(U:∀ u∈z.cells.toList,(nE u).one=true)(n N:Nat)(J:N=n*P.cellsOf t)(zero:Array Value)(hzero:0<N->zero=z.cells):
 Rl F β w (dz n (a7 P t)) ((Array.range N).map (zero[· % zero.size]!)).toList:=by
 obtain⟨c1,M⟩:=Ae (F:=F) (β:=β) (w:=w) hz U;have hlen:(a7 P t).length=P.cellsOf t:=by rw[<- c1];simpa using hs
 refine⟨by simp[BP,hlen,J],fun k d u hk hu=>?_⟩
 have ah:k<N:=by
  have:=(bM.1 hk).1;rw[BP,hlen] at this;omega
 have X:0<N:=by omega
 have C:=hzero X;subst C
 have h0:0<P.cellsOf t:=by
  rcases Nat.eq_zero_or_pos (P.cellsOf t) with h|h
  .rw[h] at J;omega
  .exact h
 rw[P' _ oG n k (by rw[hlen];omega),hlen] at hk;simp[ah] at hu;have hm:k % P.cellsOf t<z.cells.size:=by rw[hs];exact Nat.mod_lt _ h0
 refine M (k % P.cellsOf t) d u hk ?_;rw[<- hu,hs];simp[hm]
theorem V0(hm:aK P F m β w){t:TypeId}{fs:Array Field}{ps:List (Nat×D)}{C:Array (Nat×Value)}{cs':List D}{pre:Prop}(ht:aI P t=true)(hu:P.underlying t=some (.struct fs))(X:fs.toList.all (fun f=>(P.info? f.type).isSome)=true)
 (hl:ps.length=C.size) (hp:∀ (k:Nat) (p:Nat×D) (q:Nat×Value),ps[k]? =some p->C[k]? =some q->p.1=q.1/\R F β w p.2 q.2)
 (hf:gF (fun i=>(fs[i]?).map fun f=>(f.offset,P.cellsOf f.type)) (a7 P t) ps=some cs'):
 aX P F m nx β w { pre:=pre,val:=.agg cs' } (do Pure.pure (Next.value (<- Instr.build t C))):=by
 obtain⟨z,hz,ju,h3,h4⟩:=zx (P:=P) w ht;obtain⟨c1,c2⟩:=Ae (F:=F) (β:=β) (w:=w) h3 h4
 have J:(fs.mapM fun f=>(do pure (f.offset, <- sizeOf f.type):Sem (Nat×Nat))).run P w=.ok (fs.map fun f=>(f.offset,P.cellsOf f.type)) w:=by
  rw[Array.mapM_eq_mapM_toList]
  have key:∀ l:List Field,l.all (fun f=>(P.info? f.type).isSome)=true->(l.mapM fun f=>(Prod.mk f.offset<$>sizeOf f.type:Sem (Nat×Nat))).run P w=.ok (l.map fun f=>(f.offset,P.cellsOf f.type)) w:=by
   intro l
   induction l with
   |nil=>intro _;simp
   |cons f l ih=>
    intro hl;simp only[List.all_cons,ba] at hl;simp[List.mapM_cons,iz w hl.1,ih hl.2]
  simp[key fs.toList X, <- Array.toList_map]
 obtain⟨M,vL,U⟩:=Gg (F:=F) (β:=β) (w:=w) (fun i=>(fs.map fun f=>(f.offset,P.cellsOf f.type))[i]?) ps C.toList (a7 P t) z.cells cs' ⟨c1,c2⟩ (by simpa using hl) (fun k p q hk hq=>hp k p q hk (by simpa using hq)) (by
  rw[<- hf];congr 1;funext i
  simp[Array.getElem?_map])
 refine aX.pure hm (v:=.agg M) ?_ ?_
 .simp only[Instr.build,Sem.run_bind,hz,Result.andThen_ok,run_underlying hu,J,vL,Sem.run_pure]
 .have:=R.agg (F:=F) (β:=β) (w:=w) cs' M.toList U.1 (fun k d v hk hv=>(U.2 k d v hk hv).1);simpa using this
theorem Wf(hm:aK P F m β w){t e:TypeId}{n:Nat}{ps:List (Nat×D)}{C:Array (Nat×Value)}{cs':List D}{pre:Prop}(ht:aI P t=true)(hu:P.underlying t=some (.array n e))(he:aI P e=true)
 (hl:ps.length=C.size) (hp:∀ (k:Nat) (p:Nat×D) (q:Nat×Value),ps[k]? =some p->C[k]? =some q->p.1=q.1/\R F β w p.2 q.2)
 (hf:gF (fun i=>some (i*P.cellsOf e,P.cellsOf e)) (a7 P t) ps=some cs'):
 aX P F m nx β w { pre:=pre,val:=.agg cs' } (do Pure.pure (Next.value (<- Instr.build t C))):=by
 obtain⟨z,hz,ju,X,h4⟩:=zx (P:=P) w ht;obtain⟨c1,U⟩:=Ae (F:=F) (β:=β) (w:=w) X h4;obtain⟨J,vL,M⟩:=Gg (F:=F) (β:=β) (w:=w) _ ps C.toList (a7 P t) z.cells cs' ⟨c1,U⟩ (by simpa using hl) (fun k p q hk hq=>hp k p q hk (by simpa using hq)) hf;refine aX.pure hm (v:=.agg J) ?_ ?_
 .simp only[Instr.build,Sem.run_bind,hz,Result.andThen_ok,run_underlying hu,iz w (jy he),vL,Sem.run_pure]
 .have:=R.agg (F:=F) (β:=β) (w:=w) cs' J.toList M.1 (fun k d v hk hv=>(M.2 k d v hk hv).1);simpa using this
theorem Wm(hm:aK P F m β w)(hn:β nx=none){t:TypeId}{n:Nat}{ps:List (Nat×D)}{C:Array (Nat×Value)}{cs':List D}{pre:Prop}(ht:bg P t=true)(h24:n*P.cellsOf (aF P t)<=2 ^ 24)(dh:n<=maxLen)
 (hl:ps.length=C.size) (hp:∀ (k:Nat) (p:Nat×D) (q:Nat×Value),ps[k]? =some p->C[k]? =some q->p.1=q.1/\R F β w p.2 q.2)
 (hf:gF (fun i=>some (i*P.cellsOf (aF P t),P.cellsOf (aF P t))) (dz n (a7 P (aF P t))) ps=some cs'):
 aX P F m nx β w { pre:=pre,val:=.rs nx 0 n,aT:=[(nx,some (.cells cs' (aF P t)))],new:=1 } (do Pure.pure (Next.value (<- Instr.buildSlice t n C))):=by
 obtain⟨hu,he⟩:=jU ht;obtain⟨z,hz,ju,U,h4⟩:=zx (P:=P) w he;have DZ:=JK (F:=F) (β:=β) (w:=w) (P:=P) ju U h4 n (n*P.cellsOf (aF P t)) rfl (if n*P.cellsOf (aF P t)=0 then #[] else z.cells) (fun h=>by rw[if_neg oG]);obtain⟨M,J,hR⟩:=Gg (F:=F) (β:=β) (w:=w) _ ps C.toList _ _ cs' DZ (by simpa using hl) (fun k p q hk hq=>hp k p q hk (by simpa using hq)) hf;obtain⟨X,h6⟩:=Ck hm hn (cs:=cs') (c:=M.toList) (e:=aF P t) hR.1 hR.2 [];simp only[List.append_nil,Array.toArray_toList,List.length_nil,Nat.add_zero] at X h6
 have qt:(if n*P.cellsOf (aF P t)=0 then Result.ok #[] w else Result.ok z.cells w)=.ok (if n*P.cellsOf (aF P t)=0 then #[] else z.cells) w:=by
  split<;>rfl
 have di:(Instr.buildSlice t n C).run P w=.ok (.slice (some ⟨w.heap.size,0,none⟩) n n) (w.alloc (.cells M (aF P t))):=by
  unfold Instr.buildSlice;simp only[Sem.run_bind,run_underlying hu,Result.andThen_ok,iz w (jy he),Sem.run_ite,if_neg (show ¬ n*P.cellsOf (aF P t)>2 ^ 24 by omega)];by_cases s3:n*P.cellsOf (aF P t)=0
  .simp only[s3,↓reduceIte] at J ⊢;simp only[Sem.run_bind,Sem.run_pure,Result.andThen_ok,J];simp[newRow]
  .simp only[s3,↓reduceIte] at J ⊢;simp[J,newRow,hz]
 have dy:cs'.length=n*P.cellsOf (aF P t):=by
  have nT:∀ (place:Nat->Option (Nat×Nat)) (ps:List (Nat×D)) (cs cs':List D),gF place cs ps=some cs'->cs'.length=cs.length:=by
   intro place ps
   induction ps with
   |nil=>intro cs cs' h;simp only[gF,aH] at h;rw[h]
   |cons p ps ih=>
    intro cs cs' h;obtain⟨i,d⟩:=p;simp only[gF] at h;split at h
    .cases h
    .split at h
     .rename_i hc;rw[ih _ _ h,Ic oG]
     .cases h
  rw[nT _ _ _ _ hf,BP,U];simp[ju]
 refine⟨_,_,_,_,by simp only[Sem.run_bind,di,Result.andThen_ok,Sem.run_pure];rfl,.inl rfl,?_,X,h6,vf⟩;exact .rs nx 0 n n w.heap.size 0 _ _ _ (al _ _ _) (bc _) dh oG oG
theorem Wu(hm:aK P F m β w)(hn:β nx=none){t:TypeId}{n:Int}{pre:Prop}(h0:0<=n)(h1:n<=9223372036854775807)(h2:P.bytesOf (aF P t)*n<=281474976710656)(ht:bg P t=true):
 aX P F m nx β w { pre:=pre,val:=.rs nx 0 n.toNat,aT:=[(nx,some (.cells (dz n.toNat (a7 P (aF P t))) (aF P t)))],new:=1 } (do Pure.pure (Next.value (<- Instr.makeSlice t (.int .i64 n) (.int .i64 n)))):=by
 obtain⟨hu,he⟩:=jU ht;obtain⟨i,d,z,hi,hd,hz,_,ju,U,bC,j4,h4⟩:=qF he;have rC:(zeroValue (aF P t)).run P w=.ok z w:=by simp[zeroValue,typeInfo,hi,hz]
 have C:=JK (F:=F) (β:=β) (w:=w) (P:=P) ju U h4 n.toNat (n.toNat*P.cellsOf (aF P t)) rfl (if n.toNat*P.cellsOf (aF P t)=0 then #[] else z.cells) (fun h=>by rw[if_neg oG]);generalize hc:((Array.range (n.toNat*P.cellsOf (aF P t))).map ((if n.toNat*P.cellsOf (aF P t)=0 then #[] else z.cells)[· % (if n.toNat*P.cellsOf (aF P t)=0 then #[] else z.cells).size]!))=c at C;obtain⟨X,h6⟩:=Ck hm hn (cs:=dz n.toNat (a7 P (aF P t))) (c:=c.toList) (e:=aF P t) C.1 C.2 [];simp only[List.append_nil,Array.toArray_toList,List.length_nil,Nat.add_zero] at X h6
 have qt:(if n.toNat*P.cellsOf (aF P t)=0 then Result.ok #[] w else Result.ok z.cells w)=.ok (if n.toNat*P.cellsOf (aF P t)=0 then #[] else z.cells) w:=by
  split<;>rfl
 have J:IntKind.i64.wrap n=n:=Go.IntWalk.i64_in n ⟨oG,h1⟩;have Lu:¬ n<0:=by omega
 have M:¬ (P.bytesOf (aF P t):Int)*n>2 ^ 48:=by omega
 have di:(Instr.makeSlice t (.int .i64 n) (.int .i64 n)).run P w=.ok (.slice (some ⟨w.heap.size,0,none⟩) n.toNat n.toNat) (w.alloc (.cells c (aF P t))):=by
  unfold Instr.makeSlice
  simp only[Sem.run_bind,run_underlying hu,Result.andThen_ok,asInt,asIntOf,Sem.run_pure,typeInfo,run_program,hi,J,j4,Lu,M,decide_false,Bool.or_false,Bool.false_or,Bool.false_eq_true,if_false,Sem.run_ite,run_askRoom,iz w (jy he),
   show ¬ n>n from by omega]
  by_cases s3:n.toNat*P.cellsOf (aF P t)=0
  .simp only[s3,↓reduceIte] at hc ⊢;simp only[Sem.run_bind,Sem.run_pure,Result.andThen_ok,hc];simp[newRow]
  .simp only[s3,↓reduceIte] at hc ⊢;simp only[Sem.run_bind,Sem.run_pure,rC,Result.andThen_ok,hc];simp[newRow]
 have hlen:(dz n.toNat (a7 P (aF P t))).length=n.toNat*P.cellsOf (aF P t):=by rw[BP,U];simp[ju]
 refine⟨_,_,_,_,by simp only[Sem.run_bind,di,Result.andThen_ok,Sem.run_pure];rfl,.inl rfl,?_,X,h6,vf⟩;exact .rs nx 0 n.toNat n.toNat w.heap.size 0 _ _ _ (al _ _ _) (bc _) (by simp only[maxLen];omega) oG oG
end
section
variable{P:Program}{F:Nat->Prop}{m:Mem}{nx:Nat}{β:aE}{w:World}
theorem aX.val(hm:aK P F m β w){pre:Prop}{d:D}{rd:List Nat}{s:Sem Next}{v:Value}(hr:s.run P w=.ok (.value v) w)(h:R F β w d v):aX P F m nx β w { pre:=pre,val:=d,rd:=rd } s:=
 ⟨.value v,v,w,β,hr,.inl rfl,h,hm,Step.refl β w,fun _ h _=>h⟩
theorem uY(op:BinOp)(t:TypeId)(x y:Operand)(a b:Value)(h1:∀ u,a≠ .agg u)(h2:a≠ .nilIface):(eqGuard op t x y a b).run P w=.ok () w:=by
 unfold eqGuard;generalize (!(op matches .eql | .neq))=c;cases c
 .cases a<;>first|rfl|exact absurd rfl h2|exact absurd rfl (h1 _)
 .rfl
theorem IL{t:TypeId}{x y:Value}{b:Bool}(h:∀ d,(Op.equalIn (d+1) t x y).run P w=.ok b w):(Op.equal t x y).run P w=.ok b w:=h 9999
theorem Ji{t:TypeId}{x y:Value}{b:Bool}(h:(Op.equal t x y).run P w=.ok b w):
 (do pure (Value.bool (<- Op.equal t x y)):Sem Value).run P w=.ok (.bool b) w/\(do pure (Value.bool (!(<- Op.equal t x y))):Sem Value).run P w=.ok (.bool !b) w:=by
 constructor<;>simp only[Sem.run_bind,h,Result.andThen_ok,Sem.run_pure]
theorem aan(op:BinOp)(t:TypeId)(x y v:Value)(p:Prop)(h:q9 op x y=some (p,v))(hp:p):(binOp op t x y).run P w=.ok v w:=by
 cases x<;>cases y<;>cases op<;>simp only[q9,aH,bP,reduceCtorEq] at h<;>
  (obtain⟨rfl,rfl⟩:=h)<;>
  first
  |(subst hp;simp[binOp,Op.intArith,Op.intCmp,Op.intBits,lx];done)
  |(obtain⟨rfl,hb⟩:=hp;simp[binOp,Op.intDiv,hb];done)
  |(simp[binOp,Op.shift,show ¬ _<(0:Int) from Int.not_lt.2 hp];done)
  |(simp[binOp,Op.stringOp];done)
theorem XO{op:BinOp}{x y v:Value}{p:Prop}(h:q9 op x y=some (p,v)):plain v=true/\(∀ u,x≠ .agg u)/\x≠ .nilIface:=by
 cases x<;>cases y<;>cases op<;>simp only[q9,aH,bP,reduceCtorEq] at h<;>(obtain⟨rfl,rfl⟩:=h)<;>simp[plain]
theorem aao(hm:aK P F m β w)(op:BinOp)(t:TypeId)(C J:Operand){a b x y v:Value}{p pre:Prop}(hx:R F β w (.s a) x)(hy:R F β w (.s b) y)(h:q9 op a b=some (p,v))(hp:p):
 aX P F m nx β w { pre:=pre,val:=.s v } ((do eqGuard op t C J x y;binOp op t x y)>>=fun r=>Pure.pure (Next.value r)):=by
 obtain⟨rfl,_⟩:=hx.cX;obtain⟨rfl,_⟩:=hy.cX;obtain⟨h1,h2,M⟩:=XO h;refine aX.val hm (v:=v) ?_ (.s v h1);simp only[Sem.run_bind,uY op t C J x y h2 M,Result.andThen_ok,aan op t x y v p h hp,Sem.run_pure]
theorem aap{t:TypeId}(h:sU P t=true):P.underlying t=some .bool:=by
 unfold sU at h;split at h
 .assumption
 .cases h
theorem aaq{t:TypeId}(h:wE P t=true):∃ e,P.underlying t=some (.pointer e):=by
 unfold wE at h;split at h
 .exact⟨_,‹_›⟩
 .cases h
theorem Ob{t:TypeId}(h:sU P t=true)(a b:Bool):(binOp .eql t (.bool a) (.bool b)).run P w=.ok (.bool (a==b)) w/\(binOp .neq t (.bool a) (.bool b)).run P w=.ok (.bool !(a==b)) w:=by
 have hu:=aap h;exact Ji (IL fun d=>by simp[Op.equalIn,run_underlying hu])
theorem OE{t:TypeId}(h:wE P t=true)(a:Addr):(binOp .eql t (.pointer (some a)) (.pointer none)).run P w=.ok (.bool false) w/\(binOp .neq t (.pointer (some a)) (.pointer none)).run P w=.ok (.bool true) w:=by
 obtain⟨e,hu⟩:=aaq h;exact Ji (IL fun d=>by simp[Op.equalIn,run_underlying hu])
theorem XP{t:TypeId}(h:bg P t=true)(a:Option Addr)(l c:Nat):(binOp .eql t (.slice a l c) (.slice none 0 0)).run P w=.ok (.bool a.isNone) w:=by
 obtain⟨hu,_⟩:=jU h;exact(Ji (IL fun d=>by cases a<;>simp[Op.equalIn,run_underlying hu])).1
theorem Oc(hm:aK P F m β w)(op:BinOp)(t:TypeId)(C J:Operand){a b:Bool}{x y:Value}{d:D}{pre:Prop}(hx:R F β w (.s (.bool a)) x)(hy:R F β w (.s (.bool b)) y)(ht:sU P t=true)
 (h:(op=.eql/\d=.s (.bool (a==b)))\/(op=.neq/\d=.s (.bool !(a==b)))):
 aX P F m nx β w { pre:=pre,val:=d } ((do eqGuard op t C J x y;binOp op t x y)>>=fun r=>Pure.pure (Next.value r)):=by
 obtain⟨rfl,_⟩:=hx.cX;obtain⟨rfl,_⟩:=hy.cX;rcases h with⟨rfl,rfl⟩|⟨rfl,rfl⟩
 .refine aX.val hm (v:=.bool (a==b)) ?_ (.s _ rfl);simp only[Sem.run_bind,uY _ t C J (.bool a) _ oS oS,Result.andThen_ok,(Ob ht a b).1,Sem.run_pure]
 .refine aX.val hm (v:=.bool !(a==b)) ?_ (.s _ rfl);simp only[Sem.run_bind,uY _ t C J (.bool a) _ oS oS,Result.andThen_ok,(Ob ht a b).2,Sem.run_pure]
theorem R.adh{i off:Nat}{v:Value}(h:R F β w (.rp i off) v)(hl:β i≠some .dead):∃ a,v=.pointer (some a):=by
 cases h with
 |qk _ _ _ h _=>exact absurd h hl
 |rp=>exact⟨_,rfl⟩
theorem OF(hm:aK P F m β w)(op:BinOp)(t:TypeId)(C J:Operand){i off:Nat}{x y:Value}{d:D}{pre:Prop}{rd:List Nat}{r:Row}(hx:R F β w (.rp i off) x)(hi:m i=some r)(hy:R F β w (.s (.pointer none)) y)(ht:wE P t=true)
 (h:(op=.eql/\d=.s (.bool false))\/(op=.neq/\d=.s (.bool true))):
 aX P F m nx β w { pre:=pre,val:=d,rd:=rd } ((do eqGuard op t C J x y;binOp op t x y)>>=fun r=>Pure.pure (Next.value r)):=by
 obtain⟨p,hp,aq⟩:=hm.row i _ hi;obtain⟨a,rfl⟩:=hx.adh (fun e=>by rw[e] at hp;cases hp;exact aq.live rfl);obtain⟨rfl,_⟩:=hy.cX;rcases h with⟨rfl,rfl⟩|⟨rfl,rfl⟩
 .refine aX.val hm (v:=.bool false) ?_ (.s _ rfl);simp only[Sem.run_bind,uY _ t C J (.pointer (some a)) _ oS oS,Result.andThen_ok,(OE ht a).1,Sem.run_pure]
 .refine aX.val hm (v:=.bool true) ?_ (.s _ rfl);simp only[Sem.run_bind,uY _ t C J (.pointer (some a)) _ oS oS,Result.andThen_ok,(OE ht a).2,Sem.run_pure]
theorem XQ(hm:aK P F m β w)(t:TypeId)(C J:Operand){es:List D}{n:Nat}{x:Value}{pre:Prop}(hx:R F β w (.sl es n) x)(ht:bg P t=true):
 aX P F m nx β w { pre:=pre,val:=if n=0 then .ub else .s (.bool false) } ((do eqGuard .eql t C J x (.slice none 0 0);binOp .eql t x (.slice none 0 0))>>=fun r=>Pure.pure (Next.value r)):=by
 have M:=fun a l c=>XP (P:=P) (w:=w) ht a l c;cases hx with
 |gg a cap=>
  refine aX.val hm (v:=.bool a.isNone) ?_ (by simpa using R.ub _);simp only[Sem.run_bind,uY _ t C J (.slice a 0 cap) _ oS oS,Result.andThen_ok,M,Sem.run_pure]
 |sl _ _ b o cap us h1 h2 U X h5 h6 h7=>
  refine aX.val hm (v:=.bool false) ?_ ?_
  .simp only[Sem.run_bind,uY _ t C J (.slice (some ⟨b,o,none⟩) n cap) _ oS oS,Result.andThen_ok,M,Sem.run_pure];rfl
  .split
   .exact .ub _
   .exact .s _ rfl
theorem ab4(hm:aK P F m β w)(op:UnOp){a x v:Value}{pre:Prop}(hx:R F β w (.s a) x)(h:yN op a=some v):
 aX P F m nx β w { pre:=pre,val:=.s v } (do Pure.pure (Next.value (<- Op.unary op x))):=by
 obtain⟨rfl,_⟩:=hx.cX
 have:(Op.unary op x).run P w=.ok v w/\plain v=true:=by
  cases x<;>cases op<;>simp only[yN,aH,reduceCtorEq] at h<;>subst h<;>simp[Op.unary,Op.intArith,Op.intBits,lx,plain]
 exact aX.val hm (by simp[this.1]) (.s _ this.2)
theorem WG(hm:aK P F m β w)(src dst:TypeId){k k':IntKind}{n:Int}{x:Value}{pre:Prop}(hx:R F β w (.s (.int k' n)) x)(hd:P.underlying dst=some (.int k))(hs:(P.underlying src).isSome=true):
 aX P F m nx β w { pre:=pre,val:=.s (.int k (k.wrap n)) } (do Pure.pure (Next.value (<- convert src dst x))):=by
 obtain⟨rfl,_⟩:=hx.cX;obtain⟨d,hs⟩:=Option.isSome_iff_exists.1 hs;refine aX.val hm (v:=.int k (k.wrap n)) ?_ (.s _ rfl);cases d<;>simp[convert,run_underlying hd,run_underlying hs,Conv.intToInt]
theorem OG{t:TypeId}(h:0<P.cellsOf t):(P.info? t).isSome=true:=by
 cases hi:P.info? t with
 |none=>simp[Program.cellsOf,hi] at h
 |some i=>rfl
theorem V'(hm:aK P F m β w){t:TypeId}{cs:List D}{x:Value}{k off:Nat}{C:TypeId}{pre:Prop}(hx:R F β w (.pt cs) x)(hf:cg P t k=some (off,C))(h0:0<P.cellsOf C):
 aX P F m nx β w { pre:=pre,val:=.pt (cs.drop off) } (do Pure.pure (Next.value (<- Instr.fieldAt t x k))):=by
 obtain⟨b,o,rfl,h1,h2,M,J⟩:=hx.Gc;unfold cg at hf;split at hf
 .rename_i fs hu;cases hk:fs[k]? with
  |none=>simp[hk] at hf
  |some f=>
   simp[hk] at hf;obtain⟨rfl,rfl⟩:=hf;refine aX.val hm (v:=.pointer (some ⟨b,o+f.offset,none⟩)) ?_ (R.SP h1 h2 M (J.drop _));simp[Instr.fieldAt,run_underlying hu,hk,Instr.sureAddr,fieldPlace,iz w (OG h0),Nat.ne_of_gt h0,Addr.add_lit]
 .cases hf
end
section
variable{P:Program}{F:Nat->Prop}{m:Mem}{nx:Nat}{β:aE}{w:World}
theorem R.Kg{i off:Nat}{v:Value}(h:R F β w (.rp i off) v){r:Row}{p:Pl}(hp:β i=some p)(aq:cB P F β w r p):
 ∃ b o len room sz,β i=some (.cells b o len room sz)/\v=.pointer (some ⟨b,o+off,none⟩):=by
 cases h with
 |qk _ _ _ h _=>rw[h] at hp;cases hp;exact absurd rfl aq.live
 |rp _ _ b o len room sz h=>exact⟨b,o,len,room,sz,h,rfl⟩
theorem Wa(hm:aK P F m β w){t:TypeId}{i o:Nat}{x:Value}{k off:Nat}{C:TypeId}{pre:Prop}{rd:List Nat}{r:Row}(hx:R F β w (.rp i o) x)(hi:m i=some r)(hf:cg P t k=some (off,C))(h0:0<P.cellsOf C):
 aX P F m nx β w { pre:=pre,val:=.rp i (o+off),rd:=rd } (do Pure.pure (Next.value (<- Instr.fieldAt t x k))):=by
 obtain⟨p,hp,aq⟩:=hm.row i _ hi;obtain⟨b,bo,len,room,sz,J,rfl⟩:=hx.Kg hp aq;unfold cg at hf;split at hf
 .rename_i fs hu;cases hk:fs[k]? with
  |none=>simp[hk] at hf
  |some f=>
   simp[hk] at hf;obtain⟨rfl,rfl⟩:=hf;refine aX.val hm (v:=.pointer (some ⟨b,bo+(o+f.offset),none⟩)) ?_ (.rp i (o+f.offset) b bo len room sz J);simp[Instr.fieldAt,run_underlying hu,hk,Instr.sureAddr,fieldPlace,iz w (OG h0),Nat.ne_of_gt h0,Addr.add_lit,Nat.add_assoc]
 .cases hf
theorem Qa{t:TypeId}(ht:aI P t=true){cs:List D}{vs:List Value}{off:Nat}(hl:vs.length=cs.length)(h:∀ (k:Nat) (d:D) (u:Value),cs[k]? =some d->vs[k]? =some u->R F β w d u)(M:off+P.cellsOf t<=cs.length):
 ∃ v,(part t vs.toArray off).run P w=.ok v w/\R F β w (gE P t (cs.drop off)) v:=by
 obtain⟨i,d,z,hi,hd,hz,J,_⟩:=qF ht;unfold part gE;simp only[Sem.run_bind,BS w (zM ht),Result.andThen_ok];cases ha:bl P t with
 |true=>
  refine⟨.agg ((vs.drop off).take (P.cellsOf t)).toArray,?_,?_⟩
  .simp[iz w (jy ht)]
  .refine .agg _ _ oP fun k d v hk hv=>?_;rw[List.getElem?_take] at hk hv;split at hk
   .rename_i ah;rw[if_pos ah] at hv;rw[List.getElem?_drop] at hk hv;exact h _ d v hk hv
   .cases hk
 |false=>
  have:=J ha;have ah:off<vs.length:=by omega
  refine⟨vs[off],by simp[ah],?_⟩;have C:off<cs.length:=by omega
  have e:(cs.drop off).headD .u=cs[off]:=by simp[List.headD_eq_head?_getD,List.head?_drop,C]
  simp only[Bool.false_eq_true,if_false,e];exact h off _ _ (by simp[C]) (by simp[ah])
theorem YR(hm:aK P F m β w){t:TypeId}{cs:List D}{x:Value}{k off:Nat}{C:TypeId}{pre:Prop}(hx:R F β w (.agg cs) x)(hf:cg P t k=some (off,C))(ht:aI P C=true)(M:off+P.cellsOf C<=cs.length):
 aX P F m nx β w { pre:=pre,val:=gE P C (cs.drop off) } (do Pure.pure (Next.value (<- Instr.field t x k))):=by
 obtain⟨vs,rfl,hl,h⟩:=hx.rV;obtain⟨v,hr,J⟩:=Qa (P:=P) ht hl h M;unfold cg at hf;split at hf
 .rename_i fs hu;cases hk:fs[k]? with
  |none=>simp[hk] at hf
  |some f=>
   simp[hk] at hf;obtain⟨rfl,rfl⟩:=hf;exact aX.val hm (v:=v) (by simp[Instr.field,run_underlying hu,hk,asAgg,hr]) J
 .cases hf
theorem Xc(hm:aK P F m β w){cs:List D}{x:Value}{k:Nat}{pre:Prop}(hx:R F β w (.aM cs) x)(hk:k<cs.length):
 aX P F m nx β w { pre:=pre,val:=cs.getD k .u } (do Pure.pure (Next.value (<- Instr.extract x k))):=by
 obtain⟨vs,rfl,hl,h⟩:=hx.Cd;have C:k<vs.length:=by omega
 refine aX.val hm (v:=vs[k]) (by simp[Instr.extract,C]) ?_;have e:cs.getD k .u=cs[k]:=by simp[du,hk]
 rw[e];exact h k _ _ (by simp[hk]) (by simp[C])
theorem R.tS{es:List D}{n:Nat}{v:Value}(h:R F β w (.sl es n) v):(es=[]/\n=0/\∃ a cap,v=.slice a 0 cap)\/
 ∃ b o cap,v=.slice (some ⟨b,o,none⟩) n cap/\n<=cap/\cap<=maxLen/\¬ F b/\β.free b/\b<w.heap.size/\Rd F β w b o es:=by
 cases h with
 |gg a cap=>exact .inl ⟨rfl,rfl,a,cap,rfl⟩
 |sl _ _ b o cap us h1 h2 C J M U X=>exact .inr ⟨b,o,cap,rfl,J,M,h1,h2,C,us,U,X⟩
theorem Wb(hm:aK P F m β w){t:TypeId}{es:List D}{n:Nat}{x y:Value}{X:IntKind}{k:Int}{pre:Prop}(hx:R F β w (.sl es n) x)(hy:R F β w (.s (.int X k)) y)(ht:bg P t=true)(h0:0<=k)(h1:k<n):
 aX P F m nx β w { pre:=pre,val:=.pt (es.drop (k.toNat*P.cellsOf (aF P t))) } (do Pure.pure (Next.value (<- Instr.indexAt t x y))):=by
 obtain⟨hu,he⟩:=jU ht;obtain⟨rfl,_⟩:=hy.cX;rcases hx.tS with⟨_,rfl,_⟩|⟨b,o,cap,rfl,h2,h3,J,M,U,C⟩
 .omega
 .refine aX.val hm (v:=.pointer (some ⟨b,o+k.toNat*P.cellsOf (aF P t),none⟩)) ?_ (R.SP J M U (C.drop _));simp[Instr.indexAt,asIntOf,run_underlying hu,h0,h1,iz w (jy he),Addr.add_lit]
theorem R.CC{i off n:Nat}{v:Value}(h:R F β w (.rs i off n) v){cs:List D}{e:TypeId}(hm:aK P F m β w)(hi:m i=some (.cells cs e)):
 (cs=[]/\off=0/\n=0/\β i=some .nil/\∃ a,v=.slice a 0 0)\/
 ∃ b o room,β i=some (.cells b o cs.length room (P.cellsOf e))/\cB P F β w (.cells cs e) (.cells b o cs.length room (P.cellsOf e))/\
  ((n=0/\∃ a,v=.slice a 0 0)\/∃ cap,v=.slice (some ⟨b,o+off,none⟩) n cap/\n<=cap/\cap<=maxLen/\cs.length<=off+cap*P.cellsOf e/\off+cap*P.cellsOf e<=room):=by
 obtain⟨p,hp,aq⟩:=hm.row i _ hi;cases h with
 |kG _ _ _ _ h _=>rw[h] at hp;cases hp;cases aq
 |iO _ a h=>
  rw[h] at hp;cases hp;cases aq;exact .inl ⟨rfl,rfl,rfl,h,a,rfl⟩
 |jK _ _ a b o len room sz h=>
  rw[h] at hp;cases hp;obtain⟨_,h2,C,_⟩:=aq.rd;subst h2;subst C;exact .inr ⟨b,o,room,h,aq,.inl ⟨rfl,a,rfl⟩⟩
 |rs _ _ _ cap b o len room sz h hn dh h1 h2=>
  rw[h] at hp;cases hp;obtain⟨_,C,J,_⟩:=aq.rd;subst C;subst J;exact .inr ⟨b,o,room,h,aq,.inr ⟨cap,rfl,hn,dh,h1,h2⟩⟩
theorem R.aar{i off n:Nat}{v:Value}(h:R F β w (.rs i off n) v)(hl:∃ p,β i=some p/\p≠ .dead):∃ a cap,v=.slice a n cap:=by
 cases h with
 |kG _ _ _ _ h _=>obtain⟨p,h1,h2⟩:=hl;rw[h] at h1;cases h1;exact absurd rfl h2
 |iO _ a h=>exact⟨a,0,rfl⟩
 |jK _ _ a=>exact⟨a,0,rfl⟩
 |rs=>exact⟨_,_,rfl⟩
theorem Qb{r:Row}{p:Pl}(h:cB P F β w r p):p≠ .dead:=h.live
theorem Wc(hm:aK P F m β w){t:TypeId}{i off n:Nat}{x y:Value}{C:IntKind}{k:Int}{pre:Prop}{rd:List Nat}{r:Row}(hx:R F β w (.rs i off n) x)(hi:m i=some r)(hy:R F β w (.s (.int C k)) y)(ht:bg P t=true)(h0:0<=k)(h1:k<n):
 aX P F m nx β w { pre:=pre,val:=.rp i (off+k.toNat*P.cellsOf (aF P t)),rd:=rd } (do Pure.pure (Next.value (<- Instr.indexAt t x y))):=by
 obtain⟨hu,he⟩:=jU ht;obtain⟨rfl,_⟩:=hy.cX;obtain⟨p,hp,aq⟩:=hm.row i _ hi;cases hx with
 |kG _ _ _ _ h _=>rw[h] at hp;cases hp;exact absurd rfl (Qb aq)
 |iO _ a h=>omega
 |jK _ _ a b o len room sz h=>omega
 |rs _ _ _ cap b o len room sz h hn dh J M=>
  refine aX.val hm (v:=.pointer (some ⟨b,o+(off+k.toNat*P.cellsOf (aF P t)),none⟩)) ?_ (.rp i _ b o len room sz h);simp[Instr.indexAt,asIntOf,run_underlying hu,h0,h1,iz w (jy he),Addr.add_lit,Nat.add_assoc]
theorem VZ(hm:aK P F m β w){t:TypeId}{i off:Nat}{x y:Value}{J:IntKind}{k:Int}{pre:Prop}{rd:List Nat}{r:Row}(hx:R F β w (.rp i off) x)(hi:m i=some r)(hy:R F β w (.s (.int J k)) y)(ht:nP P t=true)(h0:0<=k)(h1:k<ou P t):
 aX P F m nx β w { pre:=pre,val:=.rp i (off+k.toNat*P.cellsOf (aF P t)),rd:=rd } (do Pure.pure (Next.value (<- Instr.indexAt t x y))):=by
 obtain⟨hu,he⟩:=Jh ht;obtain⟨rfl,_⟩:=hy.cX;obtain⟨p,hp,aq⟩:=hm.row i _ hi;obtain⟨b,bo,len,room,sz,C,rfl⟩:=hx.Kg hp aq;refine aX.val hm (v:=.pointer (some ⟨b,bo+(off+k.toNat*P.cellsOf (aF P t)),none⟩)) ?_ (.rp i _ b bo len room sz C);simp[Instr.indexAt,asIntOf,run_underlying hu,h0,h1,iz w (jy he),Addr.add_lit,Nat.add_assoc,Instr.sureAddr]
theorem Wv(hm:aK P F m β w){t:TypeId}{b:ByteArray}{x y:Value}{J:IntKind}{k:Int}{pre:Prop}(hx:R F β w (.s (.string b)) x)(hy:R F β w (.s (.int J k)) y)(ht:fO P t=true)(h0:0<=k)(h1:k<b.size):
 aX P F m nx β w { pre:=pre,val:=.s (.int .u8 (b.data.toList.getD k.toNat 0).toNat) } (do Pure.pure (Next.value (<- Instr.index t x y))):=by
 have hu:=ve ht;obtain⟨rfl,_⟩:=hy.cX;obtain⟨rfl,_⟩:=hx.cX;have hk:k.toNat<b.size:=by omega
 have C:k.toNat<b.data.size:=hk;refine aX.val hm (v:=.int .u8 (b.data.toList.getD k.toNat 0).toNat) ?_ (.s _ rfl)
 have e:b[k.toNat]? =some (b.data.toList.getD k.toNat 0):=by
  have e1:b[k.toNat]? =some b[k.toNat]:=getElem?_pos b k.toNat hk;rw[e1];congr 1;show b.data[k.toNat]=_;rw[du,Array.getElem?_toList,Array.getElem?_eq_getElem C];rfl
 simp only[Instr.index,Sem.run_bind,asIntOf,Sem.run_pure,Result.andThen_ok,run_underlying hu,h0,if_true,e]
theorem Ww(hm:aK P F m β w){t:TypeId}{cs:List D}{x y:Value}{J:IntKind}{k:Int}{pre:Prop}(hx:R F β w (.agg cs) x)(hy:R F β w (.s (.int J k)) y)(ht:nP P t=true)(h0:0<=k)(h1:k<ou P t)
 (ll:(k.toNat+1)*P.cellsOf (aF P t)<=cs.length):
 aX P F m nx β w { pre:=pre,val:=gE P (aF P t) (cs.drop (k.toNat*P.cellsOf (aF P t))) } (do Pure.pure (Next.value (<- Instr.index t x y))):=by
 obtain⟨hu,he⟩:=Jh ht;obtain⟨rfl,_⟩:=hy.cX;obtain⟨vs,rfl,hl,h⟩:=hx.rV;obtain⟨v,hr,C⟩:=Qa (P:=P) he hl h (off:=k.toNat*P.cellsOf (aF P t)) (by rw[Nat.add_mul] at ll;omega);exact aX.val hm (v:=v) (by simp[Instr.index,asIntOf,run_underlying hu,h0,h1,iz w (jy he),hr]) C
theorem WH(hm:aK P F m β w)(f:Fn){fs cs:List D}{us vs:List Value}{pre:Prop}(hl:us.length=fs.length)(ll:vs.length=cs.length)(h:∀ (k:Nat) (d:D) (v:Value),fs[k]? =some d->us[k]? =some v->R F β w d v)
 (h':∀ (k:Nat) (d:D) (v:Value),cs[k]? =some d->vs[k]? =some v->R F β w d v):
 aX P F m nx β w { pre:=pre,val:=.fn f fs cs } (do Pure.pure (Next.value (<- Instr.makeFunc f us.toArray vs.toArray))):=
 aX.val hm (v:=.func f us.toArray vs.toArray) (by simp[Instr.makeFunc]) (.fn f fs cs us vs hl ll h h')
theorem wW(b:Int)(C:IntKind)(y:Nat)(code:BoundsCode)(h0:0<=b)(h1:b<=y):(Instr.sliceBound (.int C b) y code).run P w=.ok b.toNat w:=by
 simp[Instr.sliceBound,asIntOf,h0,h1]
theorem zB(isSlice:Bool)(len cap:Nat){lo hi:Option Value}{l h:Int}(M:(lo=none/\l=0)\/∃ C,lo=some (.int C l))(J:(hi=none/\h=len)\/∃ C,hi=some (.int C h))(h0:0<=l)(h1:l<=h)(h2:h<=cap):
 (Instr.sliceBounds isSlice len cap lo hi none).run P w=.ok (l.toNat,h.toNat,cap) w:=by
 unfold Instr.sliceBounds;simp only[Sem.run_bind,Sem.run_pure,Result.andThen_ok];rcases J with⟨rfl,rfl⟩|⟨C,rfl⟩<;>rcases M with⟨rfl,rfl⟩|⟨kl,rfl⟩
 .simp
 .simp[wW (P:=P) (w:=w) l kl len _ h0 oG]
 .simp[wW (P:=P) (w:=w) h C cap _ oG oG]
 .have:=wW (P:=P) (w:=w) h C cap (if isSlice then .sliceAcap else .sliceAlen) oG oG;simp[this,wW (P:=P) (w:=w) l kl h.toNat _ h0 oG]
theorem EA(len cap:Nat){lo:Option Value}{kh km:IntKind}{l h k:Int}(U:(lo=none/\l=0)\/∃ J,lo=some (.int J l))(h0:0<=l)(h1:l<=h)(h2:h<=k)(C:k<=cap):
 (Instr.sliceBounds true len cap lo (some (.int kh h)) (some (.int km k))).run P w=.ok (l.toNat,h.toNat,k.toNat) w:=by
 unfold Instr.sliceBounds;have e1:=wW (P:=P) (w:=w) k km cap .slice3Acap oG C;have e2:=wW (P:=P) (w:=w) h kh k.toNat .slice3B oG oG;simp only[Sem.run_bind,e1,e2,Result.andThen_ok,if_true];rcases U with⟨rfl,rfl⟩|⟨M,rfl⟩
 .simp
 .simp[wW (P:=P) (w:=w) l M h.toNat _ h0 oG]
theorem D.Re{d:D}{b:Int}(h:d.int? =some b):∃ C,d=.s (.int C b):=by
 unfold D.int? at h;split at h
 .cases h;exact⟨_,rfl⟩
 .cases h
def Ro(F:Nat->Prop)(β:aE)(w:World)(d:Option D)(v:Option Value):Prop:=
 (d=none/\v=none)\/∃ q u,d=some q/\v=some u/\R F β w q u
theorem Ro.yY{d:Option D}{v:Option Value}{C b:Int}(h:Ro F β w d v)(hb:dX d C=some b):(v=none/\b=C/\d=none)\/∃ J,v=some (.int J b)/\d.isSome=true:=by
 rcases h with⟨rfl,rfl⟩|⟨q,u,rfl,rfl,M⟩
 .simp[dX] at hb;exact .inl ⟨rfl,hb.symm,rfl⟩
 .simp only[dX] at hb;obtain⟨J,rfl⟩:=D.Re hb;obtain⟨rfl,_⟩:=M.cX;exact .inr ⟨_,rfl,rfl⟩
theorem tk{t e:TypeId}(hu:P.underlying t=some (.slice e))(v:Value)(lo hi C:Option Value):(Instr.sliceAt t v lo hi C).run P w=(Instr.slice t v lo hi C).run P w:=by
 simp[Instr.sliceAt,run_underlying hu]
theorem Qc{es:List D}{n l h sz:Nat}{a:Option Addr}{b o cap m':Nat}(h1:¬ F b)(h2:β.free b)(U:b<w.heap.size)(C:Rd F β w b o es)(X:l<=h)(hn:h<=n)(hm:h<=m')(ot:m'<=cap)(dh:cap<=maxLen)
 (ha:a=(if m'=l then some ⟨b,o,none⟩ else some ⟨b,o+l*sz,none⟩)):R F β w (.sl ((es.drop (l*sz)).take ((h - l)*sz)) (h - l)) (.slice a (h - l) (m' - l)):=by
 subst ha;by_cases ig:m'=l
 .have:h=l:=by omega
  subst this;simp only[Nat.sub_self,Nat.zero_mul,List.take_zero];exact .gg _ _
 .rw[if_neg ig];obtain⟨us,J,M⟩:=(C.drop (l*sz)).take ((h - l)*sz);exact .sl _ _ _ _ _ us h1 h2 U oG oG J M
theorem YS(hm:aK P F m β w){t:TypeId}{x:D}{v:Value}{lo hi mx:Option D}{wJ uM UX:Option Value}{e:dt}(hx:R F β w x v)(mS:Ro F β w lo wJ)(Bm:Ro F β w hi uM)(fq:Ro F β w mx UX)
 (hs:mv P m t x lo hi mx=some e) (hp:e.pre):e.aT=[]/\e.new=0/\aX P F m nx β w e (do Pure.pure (Next.value (<- Instr.sliceAt t v wJ uM UX))):=by
 cases x with
 |sl es n=>
  simp only[mv] at hs;cases J:dX lo 0 with
  |none=>simp[J] at hs
  |some l=>
  cases M:dX hi n with
  |none=>simp[J,M] at hs
  |some h=>
  have X:(wJ=none/\l=0)\/∃ C,wJ=some (.int C l):=by
   rcases mS.yY J with⟨a,b,_⟩|⟨C,a,_⟩
   .exact .inl ⟨a,b⟩
   .exact .inr ⟨C,a⟩
  rcases fq with⟨rfl,rfl⟩|⟨q,u,rfl,rfl,hq⟩
  .simp only[J,M,aH] at hs;subst hs;obtain⟨ht,h0,h1,h2⟩:=hp;obtain⟨hu,he⟩:=jU ht
   have vZ:(uM=none/\h=(n:Int))\/∃ C,uM=some (.int C h):=by
    rcases Bm.yY M with⟨a,b,_⟩|⟨C,a,_⟩
    .exact .inl ⟨a,b⟩
    .exact .inr ⟨C,a⟩
   refine⟨rfl,rfl,?_⟩;rcases hx.tS with⟨rfl,rfl,a,cap,rfl⟩|⟨b,o,cap,rfl,g1,g2,g3,g4,g5,dp⟩
   .have hb:=zB (P:=P) (w:=w) true 0 cap X (by simpa using vZ) h0 h1 oG;have oL:l=0:=by omega
    have yZ:h=0:=by omega
    subst oL;subst yZ;refine aX.val hm (v:=.slice (if cap=0 then a else a.map (·.add (0*P.cellsOf (aF P t)))) 0 cap) ?_ (by simpa using R.gg _ _);simp[tk hu,Instr.slice,run_underlying hu,hb,iz w (jy he)]
   .have hb:=zB (P:=P) (w:=w) true n cap X vZ h0 h1 oG;refine aX.val hm (v:=.slice (if cap=l.toNat then some ⟨b,o,none⟩ else some ⟨b,o+l.toNat*P.cellsOf (aF P t),none⟩) (h.toNat - l.toNat) (cap - l.toNat)) ?_ ?_
    .simp[tk hu,Instr.slice,run_underlying hu,hb,iz w (jy he),Addr.add_lit]
    .have:=Qc (F:=F) (β:=β) (w:=w) (es:=es) (n:=n) (l:=l.toNat) (h:=h.toNat) (sz:=P.cellsOf (aF P t)) (cap:=cap) (m':=cap) g3 g4 g5 dp oG oG oG (bc _) g2 rfl;rw[show(h - l).toNat=h.toNat - l.toNat from by omega];exact this
  .simp only[J,M] at hs;cases y3:q.int? with
   |none=>simp[y3] at hs
   |some k=>
   simp only[y3,aH] at hs;subst hs;obtain⟨ht,GK,h0,h1,h2,h3⟩:=hp;obtain⟨hu,he⟩:=jU ht;obtain⟨km,rfl⟩:=D.Re y3;obtain⟨rfl,_⟩:=hq.cX
   obtain⟨kh,rfl⟩:∃ C,uM=some (.int C h):=by
    rcases Bm.yY M with⟨_,_,c⟩|⟨C,a,_⟩
    .rw[c] at GK;cases GK
    .exact⟨C,a⟩
   refine⟨rfl,rfl,?_⟩;rcases hx.tS with⟨rfl,rfl,a,cap,rfl⟩|⟨b,o,cap,rfl,g1,g2,g3,g4,g5,dp⟩
   .have hb:=EA (P:=P) (w:=w) 0 cap (kh:=kh) (km:=km) X h0 h1 h2 oG;have oL:l=0:=by omega
    have yZ:h=0:=by omega
    have sY:k=0:=by omega
    subst oL;subst yZ;subst sY;refine aX.val hm (v:=.slice a 0 0) ?_ (by simpa using R.gg _ _);simp[tk hu,Instr.slice,run_underlying hu,hb,iz w (jy he)]
   .have hb:=EA (P:=P) (w:=w) n cap (kh:=kh) (km:=km) X h0 h1 h2 oG;refine aX.val hm (v:=.slice (if k.toNat=l.toNat then some ⟨b,o,none⟩ else some ⟨b,o+l.toNat*P.cellsOf (aF P t),none⟩) (h.toNat - l.toNat) (k.toNat - l.toNat)) ?_ ?_
    .simp[tk hu,Instr.slice,run_underlying hu,hb,iz w (jy he),Addr.add_lit]
    .have:=Qc (F:=F) (β:=β) (w:=w) (es:=es) (n:=n) (l:=l.toNat) (h:=h.toNat) (sz:=P.cellsOf (aF P t)) (cap:=cap) (m':=k.toNat) g3 g4 g5 dp oG oG oG oG g2 rfl;rw[show(h - l).toNat=h.toNat - l.toNat from by omega];exact this
 |rs i off n=>
  simp only[mv] at hs;cases U:m i with
  |none=>simp[U] at hs
  |some r=>
  cases r with
  |map es=>simp[U] at hs
  |raw es=>simp[U] at hs
  |bs u x T=>simp[U] at hs
  |ia f r=>simp[U] at hs
  |cells cs ee=>
  cases J:dX lo 0 with
  |none=>simp[U,J] at hs
  |some l=>
  cases M:dX hi n with
  |none=>simp[U,J,M] at hs
  |some h=>
  rcases fq with⟨rfl,rfl⟩|⟨q,u,rfl,rfl,hq⟩
  .simp only[U,J,M,aH] at hs;subst hs;obtain⟨⟨ht,bC⟩,h0,h1,h2⟩:=hp;obtain⟨hu,he⟩:=jU ht
   have X:(wJ=none/\l=0)\/∃ C,wJ=some (.int C l):=by
    rcases mS.yY J with⟨a,b,_⟩|⟨C,a,_⟩
    .exact .inl ⟨a,b⟩
    .exact .inr ⟨C,a⟩
   have vZ:(uM=none/\h=(n:Int))\/∃ C,uM=some (.int C h):=by
    rcases Bm.yY M with⟨a,b,_⟩|⟨C,a,_⟩
    .exact .inl ⟨a,b⟩
    .exact .inr ⟨C,a⟩
   refine⟨rfl,rfl,?_⟩;rcases hx.CC hm U with⟨_,rfl,rfl,gZ,a,rfl⟩|⟨b,o,room,hβ,aq,pW⟩
   .have hb:=zB (P:=P) (w:=w) true 0 0 X (by simpa using vZ) h0 h1 oG;have oL:l=0:=by omega
    have yZ:h=0:=by omega
    subst oL;subst yZ;refine aX.val hm (v:=.slice a 0 0) ?_ (by simpa using R.iO i a gZ);simp[tk hu,Instr.slice,run_underlying hu,hb,iz w (jy he)]
   .rcases pW with⟨rfl,a,rfl⟩|⟨cap,rfl,g1,g2,g3,g4⟩
    .have hb:=zB (P:=P) (w:=w) true 0 0 X (by simpa using vZ) h0 h1 oG;have oL:l=0:=by omega
     have yZ:h=0:=by omega
     subst oL;subst yZ;refine aX.val hm (v:=.slice a 0 0) ?_ (by simpa using R.jK i off a b o _ room _ hβ);simp[tk hu,Instr.slice,run_underlying hu,hb,iz w (jy he)]
    .have hb:=zB (P:=P) (w:=w) true n cap X vZ h0 h1 oG;refine aX.val hm (v:=.slice (if cap=l.toNat then some ⟨b,o+off,none⟩ else some ⟨b,o+off+l.toNat*P.cellsOf (aF P t),none⟩) (h.toNat - l.toNat) (cap - l.toNat)) ?_ ?_
     .simp[tk hu,Instr.slice,run_underlying hu,hb,iz w (jy he),Addr.add_lit]
     .rw[show(h - l).toNat=h.toNat - l.toNat from by omega];by_cases dy:cap=l.toNat
      .have:h.toNat=l.toNat:=by omega
       rw[this,dy,Nat.sub_self];exact .jK i _ _ b o _ room _ hβ
      .rw[if_neg dy,Nat.add_assoc];have hmul:(cap - l.toNat)*P.cellsOf ee+l.toNat*P.cellsOf ee=cap*P.cellsOf ee:=by rw[<- Nat.add_mul];congr 1;omega
       exact .rs i _ _ _ b o _ room _ hβ oG oG (by rw[<- bC];omega) (by rw[<- bC];omega)
  .simp only[U,J,M,reduceCtorEq] at hs
 |s x=>
  cases x with
  |string b=>
   simp only[mv] at hs;cases J:dX lo 0 with
   |none=>simp[J] at hs
   |some l=>
   cases M:dX hi b.size with
   |none=>simp[J,M] at hs
   |some h=>
   rcases fq with⟨rfl,rfl⟩|⟨q,u,rfl,rfl,hq⟩
   .simp only[J,M,aH] at hs;subst hs;obtain⟨ht,h0,h1,h2⟩:=hp;have hu:=ve ht;obtain⟨rfl,_⟩:=hx.cX
    have X:(wJ=none/\l=0)\/∃ C,wJ=some (.int C l):=by
     rcases mS.yY J with⟨a,b,_⟩|⟨C,a,_⟩
     .exact .inl ⟨a,b⟩
     .exact .inr ⟨C,a⟩
    have vZ:(uM=none/\h=(b.size:Int))\/∃ C,uM=some (.int C h):=by
     rcases Bm.yY M with⟨a,b,_⟩|⟨C,a,_⟩
     .exact .inl ⟨a,b⟩
     .exact .inr ⟨C,a⟩
    have hb:=zB (P:=P) (w:=w) false b.size b.size X vZ h0 h1 oG;refine⟨rfl,rfl,aX.val hm (v:=.string (b.extract l.toNat h.toNat)) ?_ (.s _ rfl)⟩;simp[Instr.sliceAt,Instr.slice,run_underlying hu,hb]
   .simp only[J,M,reduceCtorEq] at hs
  |_=>simp[mv] at hs
 |_=>simp[mv] at hs
end
section
variable{P:Program}{F:Nat->Prop}{m:Mem}{nx:Nat}{β:aE}{w w':World}
theorem zJ(hs:w.heap.size<=w'.heap.size)(h:∀ b,b<w.heap.size->w'.heap[b]? =w.heap[b]?)(C:Out w w':=by first|exact⟨rfl,rfl⟩|assumption):Step β w β w':=
 ⟨hs,fun b hb hf=>⟨h b hb,hf⟩,fun _ _ hp=>.inl hp,C⟩
theorem aK.ext(hm:aK P F m β w)(hs:w.heap.size<=w'.heap.size)(h:∀ b,b<w.heap.size->w'.heap[b]? =w.heap[b]?)(J:Out w w':=by first|exact⟨rfl,rfl⟩|assumption):aK P F m β w':=
 ⟨fun i r hi=>by
  obtain⟨p,hp,aq⟩:=hm.row i r hi;exact⟨p,hp,aq.step (zJ hs h) fun b hb=>h b (hm.lt i p b hp hb)⟩,
  hm.inj,fun i p b hp hb=>Nat.lt_of_lt_of_le (hm.lt i p b hp hb) hs,hm.nf,hm.fb.next (fun b hb=>Nat.lt_of_lt_of_le (hm.fb.lt b hb) hs) (fun _ h=>h) fun t _ C=>h _ (hm.fb.lt _ C)⟩
theorem aK.drew(hm:aK P F m β w):aK P F m β w.drew:=hm.ext (bc _) (fun _ _=>rfl)
theorem Pj:Step β w β w.drew:=zJ (bc _) (fun _ _=>rfl)
theorem YT(hm:aK P F m β w){src dst e:TypeId}{b:ByteArray}{x:Value}{pre:Prop}(hx:R F β w (.s (.string b)) x)(hs:fO P src=true)(hd:P.underlying dst=some (.slice e))(he:P.underlying e=some (.int .u8))(dh:b.size<=maxLen):
 aX P F m nx β w { pre:=pre,val:=.sl (b.data.toList.map fun c=>.s (.int .u8 c.toNat)) b.size } (do Pure.pure (Next.value (<- convert src dst x))):=by
 obtain⟨rfl,_⟩:=hx.cX;have hu:=ve hs;generalize ot:(Question.appendCap b.size 0 e).cut (w.tape w.drawn (.appendCap b.size 0 e))=cap
 have J:b.size<=cap/\cap<=maxLen:=by
  have h1:=grownCap_ge w b.size 0 e;have h2:=grownCap_le_maxLen w b.size 0 e dh;unfold grownCap at h1 h2;rw[ot] at h1 h2;exact⟨h1,h2⟩
 generalize hc:b.data.map (fun c=>Value.int .u8 c.toNat)++Array.replicate (cap - b.size) (Value.int .u8 0)=cells
 have U:(convert src dst (.string b)).run P w=.ok (.slice (some ⟨w.heap.size,0,none⟩) b.size cap) ((w.drew.alloc (.cells cells e)).freeze ⟨w.heap.size,cells.size,none⟩ 1):=by
  simp only[convert,Sem.run_bind,run_underlying hu,run_underlying hd,run_underlying he,Result.andThen_ok];unfold Conv.stringToBytes;simp only[Sem.run_bind,run_choose,Question.forced,Bool.false_eq_true,if_false,Result.andThen_ok,ot,hc];simp only[newRow,Sem.run_bind,run_newObj,Result.andThen_ok,Sem.run_pure,markStringish];simp[World.shape?,freeze,Sem.run];rfl
 have GJ:((w.drew.alloc (.cells cells e)).freeze ⟨w.heap.size,cells.size,none⟩ 1).heap.size=w.heap.size+1:=by simp[World.freeze]
 have hold:∀ k,k<w.heap.size->((w.drew.alloc (.cells cells e)).freeze ⟨w.heap.size,cells.size,none⟩ 1).heap[k]? =w.heap[k]? :=fun k hk=>by
  simp only[World.freeze,Nat.one_ne_zero,if_false,Array.getElem?_modify,if_neg (show ¬ w.heap.size=k by omega)];exact heap_alloc_old w.drew _ hk
 have M:∀ k:Nat,((w.drew.alloc (.cells cells e)).freeze ⟨w.heap.size,cells.size,none⟩ 1).cell? ⟨w.heap.size,k,none⟩=cells[k]? :=fun k=>by
  have:=heap_alloc_new w.drew (.cells cells e);simp only[World.size_drew] at this;simp only[World.cell?,World.freeze,Nat.one_ne_zero,if_false,Array.getElem?_modify,if_true,this,Option.map_some,Option.isSome_none,Bool.false_eq_true]
 refine⟨_,_,_,β,by simp only[Sem.run_bind,U,Result.andThen_ok,Sem.run_pure];rfl,.inl rfl,?_,hm.ext oG hold,zJ oG hold,fun _ h _=>h⟩;have hlen:b.data.toList.length=b.size:=by simp
 refine .sl _ _ _ _ _ (fun k=>.int .u8 (b.data.toList.getD k 0).toNat) (fun X=>?_) (fun i p hp e=>?_) oG J.1 J.2 (fun k hk=>?_) (fun k d hk=>?_)
 .have:=hm.fb.lt _ X;omega
 .have:=hm.lt i p _ hp e;omega
 .rw[Nat.zero_add,M];simp at hk;refine⟨?_,rfl⟩;rw[<- hc,Array.getElem?_append_left (by simpa using hk)];simp[hk]
 .rw[List.getElem?_map] at hk;cases C:b.data.toList[k]? with
  |none=>simp[C] at hk
  |some c=>
   simp[C] at hk;subst hk;have:b.data.toList.getD k 0=c:=by simp only[du,C,Option.getD_some]
   simp only[this];exact .s _ rfl
theorem ab5(hm:aK P F m β w){ts:Array TypeId}{d:D}{x:Value}{e:dt}{ty:TypeId}(M:ts.size≠0)(hx:R F β w d x)(h:nF P m (ts.getD 0 0) d=some e)(hp:e.pre):
 e.aT=[]/\e.new=0/\aX P F m nx β w e (do Pure.pure (Next.value (<- Builtin.len_ ts ty #[x]))):=by
 obtain⟨t,C⟩:∃ t,ts[0]? =some t:=⟨ts[0]'oG,oS⟩
 have ht:ts.getD 0 0=t:=by simp[Array.getD_eq_getD_getElem?,C]
 rw[ht] at h
 have sl:∀ {a:Option Addr} {k c:Nat},bg P t=true->x=.slice a k c->(Builtin.len_ ts ty #[x]).run P w=.ok (.int .i64 k) w:=by
  rintro a k c hs rfl;simp[Builtin.len_,C,run_underlying (jU hs).1,goInt]
 cases d with
 |sl es n=>
  simp only[nF,aH] at h;subst h;refine⟨rfl,rfl,aX.val hm (v:=.int .i64 n) ?_ (.s _ rfl)⟩;rcases hx.tS with⟨_,rfl,a,cap,hv⟩|⟨b,o,cap,hv,_⟩<;>simp only[Sem.run_bind,sl hp hv,Result.andThen_ok,Sem.run_pure]
 |z=>
  simp only[nF,aH] at h;subst h;refine⟨rfl,rfl,aX.val hm (v:=.int .i64 0) ?_ (.s _ rfl)⟩;obtain⟨a,hv⟩:=hx.tY;simp only[Sem.run_bind,sl hp hv,Result.andThen_ok,Sem.run_pure];rfl
 |rs i off n=>
  simp only[nF] at h;cases hi:m i with
  |none=>simp[hi] at h
  |some r=>
  simp only[hi,aH] at h;subst h;obtain⟨p,J,aq⟩:=hm.row i _ hi;obtain⟨a,cap,hv⟩:=hx.aar ⟨p,J,Qb aq⟩;refine⟨rfl,rfl,aX.val hm (v:=.int .i64 n) ?_ (.s _ rfl)⟩;simp only[Sem.run_bind,sl hp hv,Result.andThen_ok,Sem.run_pure]
 |agg cs=>
  simp only[nF,aH] at h;subst h;refine⟨rfl,rfl,aX.val hm (v:=.int .i64 (ou P t)) ?_ (.s _ rfl)⟩;simp[Builtin.len_,C,run_underlying (Jh hp).1,goInt]
 |s v=>
  cases v with
  |string b=>
   simp only[nF,aH] at h;subst h;obtain⟨rfl,_⟩:=hx.cX;refine⟨rfl,rfl,aX.val hm (v:=.int .i64 b.size) ?_ (.s _ rfl)⟩;simp[Builtin.len_,C,run_underlying (ve hp),goInt]
  |_=>simp[nF] at h
 |_=>simp[nF] at h
theorem Rf(hm:aK P F m β w){ts:Array TypeId}{ty:TypeId}{k:IntKind}{a b:Int}{x y:Value}{pre:Prop}(hx:R F β w (.s (.int k a)) x)(hy:R F β w (.s (.int k b)) y):
 aX P F m nx β w { pre:=pre,val:=.s (.int k (if b<a then b else a)) } (do Pure.pure (Next.value (<- Builtin.min_ ts ty #[x,y]))):=by
 obtain⟨rfl,_⟩:=hx.cX;obtain⟨rfl,_⟩:=hy.cX;exact aX.val hm (v:=.int k (if b<a then b else a)) (by simp[Builtin.min_,Builtin.min2]) (.s _ rfl)
theorem YU(hm:aK P F m β w){ts:Array TypeId}{ty:TypeId}{i off n:Nat}{x:Value}{cs:List D}{e:TypeId}{pre:Prop}{rd:List Nat}(iT:ts.size≠0)(hx:R F β w (.rs i off n) x)(hi:m i=some (.cells cs e))(ht:bg P (ts.getD 0 0)=true)
 (hl:off+n*P.cellsOf e<=cs.length) (he:e=aF P (ts.getD 0 0)):
 aX P F m nx β w { pre:=pre,val:=.aM [],aT:=[(i,some (.cells (gB cs off (dz n (a7 P e))) e))],rd:=rd } (do Pure.pure (Next.value (<- Builtin.clear_ ts ty #[x]))):=by
 obtain⟨t,rB⟩:∃ t,ts[0]? =some t:=⟨ts[0]'oG,oS⟩
 have U:ts.getD 0 0=t:=by simp[Array.getD_eq_getD_getElem?,rB]
 rw[U] at ht he;obtain⟨hu,bK⟩:=jU ht;rw[<- he] at hu bK;obtain⟨z,hz,C,h3,h4⟩:=zx (P:=P) w bK;have X:(a7 P e).length=P.cellsOf e:=by rw[h3];simp[C]
 have self:gB cs off (dz 0 (a7 P e))=cs:=by
  rw[IK (by simp[dz];omega)];simp[dz]
 have GC:up m i (some (.cells cs e))=m:=by
  funext j;by_cases hj:j=i
  .subst hj;rw[al,hi]
  .rw[aB _ _ hj]
 have zero:n=0->(∃ a c,x=.slice a 0 c)->aX P F m nx β w { pre:=pre,val:=.aM [],aT:=[(i,some (.cells (gB cs off (dz n (a7 P e))) e))],rd:=rd } (do Pure.pure (Next.value (<- Builtin.clear_ ts ty #[x]))):=by
  rintro rfl ⟨a,c,rfl⟩;refine⟨.value (.tuple #[]),.tuple #[],w,β,?_,.inl rfl,.aM [] [] rfl oS,?_,Step.refl β w,fun _ h _=>h⟩
  .cases a<;>simp[Builtin.clear_,rB,run_underlying hu]
  .simp only[cH,self,GC];exact hm
 rcases hx.CC hm hi with⟨_,rfl,rfl,gZ,a,rfl⟩|⟨b,o,room,hβ,aq,pW⟩
 .exact zero rfl ⟨a,0,rfl⟩
 .rcases pW with⟨rfl,a,rfl⟩|⟨cap,rfl,g1,g2,g3,g4⟩
  .exact zero rfl ⟨a,0,rfl⟩
  .cases n with
   |zero=>exact zero rfl ⟨_,cap,rfl⟩
   |succ n=>
    have J:=JK (F:=F) (β:=β) (w:=w) (P:=P) C h3 h4 (n+1) ((n+1)*P.cellsOf e) rfl z.cells (fun _=>rfl)
    obtain⟨w',c8,fC,hs⟩:=Oa (P:=P) hm hβ aq (off:=off) (ds:=dz (n+1) (a7 P e)) (vs:=(Builtin.zeroCells z.cells (n+1)).toList) (by
     have:=J.1
     simpa[Builtin.zeroCells,C] using this) (by rw[BP,X];exact hl) (fun u hu=>by
     have M:(Builtin.zeroCells z.cells (n+1)).toList=((Array.range ((n+1)*P.cellsOf e)).map (z.cells[· % z.cells.size]!)).toList:=by simp[Builtin.zeroCells,C]
     rw[M] at hu;obtain⟨k,hk⟩:=ep hu;have ah:=(bM.1 hk).1;have:k<(dz (n+1) (a7 P e)).length:=by rw[<- J.1];exact ah
     exact(J.2 k _ u (by simp[this];rfl) hk).2) (fun k d u hk hu=>by
     have M:(Builtin.zeroCells z.cells (n+1)).toList=((Array.range ((n+1)*P.cellsOf e)).map (z.cells[· % z.cells.size]!)).toList:=by simp[Builtin.zeroCells,C]
     rw[M] at hu
     exact(J.2 k d u hk hu).1)
    refine⟨.value (.tuple #[]),.tuple #[],w',β,?_,.inl rfl,.aM [] [] rfl oS,fC,hs,fun _ h _=>h⟩;simp[Builtin.clear_,rB,run_underlying hu,hz,c8]
theorem Wg(hm:aK P F m β w){cs:List D}{x:Value}{pre:Prop}(hx:R F β w (.pt cs) x):∃ a,x=.pointer (some a)/\aX P F m nx β w { pre:=pre,val:=.pt cs } (Pure.pure (Next.value x)):=by
 obtain⟨b,o,rfl,_⟩:=hx.Gc;exact⟨_,rfl,aX.val hm rfl hx⟩
theorem Wh(hm:aK P F m β w){i off:Nat}{x:Value}{pre:Prop}{rd:List Nat}{r:Row}(hx:R F β w (.rp i off) x)(hi:m i=some r):∃ a,x=.pointer (some a)/\aX P F m nx β w { pre:=pre,val:=.rp i off,rd:=rd } (Pure.pure (Next.value x)):=by
 obtain⟨p,hp,aq⟩:=hm.row i _ hi;obtain⟨b,bo,len,room,sz,C,rfl⟩:=hx.Kg hp aq;exact⟨_,rfl,aX.val hm rfl hx⟩
theorem Xd(hm:aK P F m β w)(hn:β nx=none){t:TypeId}{pre:Prop}:
 aX P F m nx β w { pre:=pre,val:=.mp nx,aT:=[(nx,some (.map []))],new:=1 } (do Pure.pure (Next.value (<- Instr.makeMap t none))):=by
 have hp:∀ b,(Pl.map w.heap.size).bG=some b->b=w.heap.size:=fun b hb=>by simp[Pl.bG] at hb;exact hb.symm
 refine⟨.value (.map (some w.heap.size)),_,w.alloc (.map #[] 0),up β nx (some (.map w.heap.size)),?_,.inl rfl,.mp nx _ (al _ _ _),hm.alloc hn _ _ _ hp ?_,zA hm _ hn _ hp,vf⟩
 .simp[Instr.makeMap]
 .exact .map [] w.heap.size #[] 0 (heap_alloc_new w _) rfl oS oS
theorem aas(hm:aK P F m β w){t:Bool}{X M U:Value}{C J:D}{pre:Prop}(hc:X=.bool t)(ha:R F β w C M)(hb:R F β w J U)(h1:t=true->C.ask/\C.core.eV.isSome=true)(h2:t=false->J.ask/\J.core.eV.isSome=true):
 aX P F m nx β w { pre:=pre,val:=.s (.bool (if t then C.core.eV.getD false else J.core.eV.getD false)) } (do Pure.pure (Next.value (if<- asBool X then M else U))):=by
 subst hc
 have inv:∀ {d:D} {v:Value},R F β w d v->d.ask/\d.core.eV.isSome=true->v=.bool (d.core.eV.getD false):=fun {d v} h hk=>by
  have:=h.tD d hk.1;have hb:=hk.2;unfold D.eV at hb ⊢;split at hb
  .rename_i b he;rw[he] at this;rw[this.cX.1];rfl
  .cases hb
 cases t with
 |true=>
  have:=inv ha (h1 rfl);rw[this];exact aX.val hm (v:=.bool (C.core.eV.getD false)) (by simp[asBool]) (.s _ rfl)
 |false=>
  have:=inv hb (h2 rfl);rw[this];exact aX.val hm (v:=.bool (J.core.eV.getD false)) (by simp[asBool]) (.s _ rfl)
end
section
variable{P:Program}{F:Nat->Prop}{m:Mem}{nx:Nat}{β:aE}{w w':World}
theorem Rd.AO{b o:Nat}{cs:List D}(h:Rd F β w b o cs):∃ c:List Value,Rl F β w cs c/\∀ (j:Nat) (u:Value),c[j]? =some u->w.cell? ((⟨b,o,none⟩:Addr).add j)=some u:=by
 obtain⟨us,h1,h2⟩:=h;refine⟨(List.range cs.length).map us,⟨oS,fun k d u hk hu=>?_⟩,fun j u hu=>?_⟩
 .have ah:k<cs.length:=(bM.1 hk).1;simp[ah] at hu;subst hu;exact⟨h2 k d hk,(h1 k ah).2⟩
 .have ah:j<cs.length:=by
   have:=(bM.1 hu).1;simpa using this
  simp[ah] at hu;subst hu;rw[Addr.add_lit];exact(h1 j ah).1
theorem XR(hm:aK P F m β w){sz:Nat}{x:D}{v:Value}{p:Prop}{rd:List Nat}{k:Nat}{news:List D}(hx:R F β w x v)(h:jx m sz x=some (p,rd,k,news))(hp:p)
 (J:∀ i off n cs e,x=.rs i off n->m i=some (.cells cs e)->n=0\/True):
 ∃ a cap c,v=.slice a k cap/\Rl F β w news c/\c.length=k*sz/\(∀ ad,a=some ad->∀ (j:Nat) (u:Value),c[j]? =some u->w.cell? (ad.add j)=some u)/\(a=none->c=[]/\k*sz=0):=by
 cases x with
 |sl es n=>
  simp only[jx,aH,bP] at h;obtain⟨rfl,rfl,rfl,rfl⟩:=h;rcases hx.tS with⟨rfl,rfl,a,cap,rfl⟩|⟨b,o,cap,rfl,_,_,_,_,_,M⟩
  .exact⟨a,cap,[],rfl,⟨oS,oS⟩,oS,oS,oS⟩
  .obtain⟨c,h1,h2⟩:=(M.take (n*sz)).AO;refine⟨_,cap,c,rfl,h1,?_,fun ad C=>by cases C;exact h2,oS⟩;rw[h1.1,List.length_take];exact Nat.min_eq_left hp
 |z=>
  simp only[jx,aH,bP] at h;obtain⟨rfl,rfl,rfl,rfl⟩:=h;obtain⟨a,rfl⟩:=hx.tY;exact⟨a,0,[],rfl,⟨oS,oS⟩,oS,oS,oS⟩
 |rs i off n=>
  simp only[jx] at h;cases hi:m i with
  |none=>simp[hi] at h
  |some r=>
  cases r with
  |map es=>simp[hi] at h
  |raw es=>simp[hi] at h
  |bs u x T=>simp[hi] at h
  |ia f r=>simp[hi] at h
  |cells cs e=>
  simp only[hi,aH,bP] at h;obtain⟨rfl,rfl,rfl,rfl⟩:=h;rcases hx.CC hm hi with⟨rfl,rfl,rfl,gZ,a,rfl⟩|⟨b,o,room,hβ,aq,U⟩
  .exact⟨a,0,[],rfl,⟨oS,oS⟩,oS,oS,oS⟩
  .rcases U with⟨rfl,a,rfl⟩|⟨cap,rfl,X,g2,g3,g4⟩
   .exact⟨a,0,[],rfl,⟨oS,oS⟩,oS,oS,oS⟩
   .obtain⟨c,h1,h2⟩:=((aq.rd.1.drop off).take (n*sz)).AO;refine⟨_,cap,c,rfl,h1,?_,fun ad C=>by cases C;exact h2,oS⟩;rw[h1.1];simp;omega
 |_=>simp[jx] at h
theorem Wi(t ty e:TypeId)(i:TypeInfo)(ht:P.underlying t=some (.slice e))(hi:P.info? e=some i)(a0 a:Option Addr)(n cap c:Nat)(C:n<=cap):
 (Builtin.append_ #[t,t] ty #[.slice a0 n cap,.slice a 0 c]).run P w=.ok (.slice a0 n cap) w:=by
 cases a0<;>cases a<;>simp[Builtin.append_,run_underlying ht,sizeOf,typeInfo,hi,Builtin.lenOf,C,Builtin.firstCells,loadCells,loadCellsFrom,storeCells]
theorem Wn(t ty e:TypeId)(i:TypeInfo)(ht:P.underlying t=some (.slice e))(hi:P.info? e=some i)(g o n cap:Nat)(cur:Array Value)(hg:w.heap[g]? =some (.cells cur e (0,0)))
 (a:Addr) (k c:Nat) (news:List Value) (hl:news.length=k*i.size) (U:∀ j u,news[j]? =some u->w.cell? (a.add j)=some u) (h1:∀ u∈news,u.oneCell'=true) (M:n+k<=cap) (J:o+n*i.size+news.length<=cur.size):
 (Builtin.append_ #[t,t] ty #[.slice (some ⟨g,o,none⟩) n cap,.slice (some a) k c]).run P w=
  .ok (.slice (some ⟨g,o,none⟩) (n+k) cap) (w.setRow g (cur.toList.take (o+n*i.size)++news++cur.toList.drop (o+n*i.size+news.length)).toArray):=by
 have hf:=run_firstCells_some (P:=P) w i.size k a k c news hl U;have C:=run_storeCells_at P g (o+n*i.size) e news 0 cur w hg (by simpa using J) h1;simp only[Nat.add_zero] at C;simp[Builtin.append_,run_underlying ht,sizeOf,typeInfo,hi,Builtin.lenOf,M,hf,Addr.add_lit,C]
theorem Wo(t ty e:TypeId)(i:TypeInfo)(z:Value)(ht:P.underlying t=some (.slice e))(hi:P.info? e=some i)(hz:i.zero=some z)(a0:Option Addr)(n cap:Nat)(gd:List Value)(C:gd.length=n*i.size)
 (holds:∀ ad,a0=some ad->∀ j v,gd[j]? =some v->w.cell? (ad.add j)=some v) (h0:a0=none->n=0/\cap=0) (U:n<=cap)
 (a:Addr) (k c:Nat) (news:List Value) (hl:news.length=k*i.size) (J:∀ j v,news[j]? =some v->w.cell? (a.add j)=some v) (hg:cap<n+k) (M:n+k<=maxLen) (hb:(n+k)*i.bytes<=140737488355328):
 (Builtin.append_ #[t,t] ty #[.slice a0 n cap,.slice (some a) k c]).run P w=
  .ok (.slice (some ⟨w.heap.size,0,none⟩) (n+k) (grownCap w (n+k) cap e)) (w.drew.alloc (.cells (gd.toArray++news.toArray++Builtin.zeroCells z.cells (grownCap w (n+k) cap e - (n+k))) e)):=by
 simp only[maxLen] at M;cases a0 with
 |some b=>exact run_append_grow w t ty e i z ht hi hz b n cap gd C (holds b rfl) a k c news hl J hg oG (growslice_fits oG hb)
 |none=>
  obtain⟨rfl,rfl⟩:=h0 rfl;have:gd=[]:=List.eq_nil_of_length_eq_zero (by simpa using C);subst this;have:=run_append_nil (P:=P) w t ty e i z ht hi hz a k c news hl J oG oG (by simp at hb;omega);simpa using this
theorem Wx(z:Array Value)(n:Nat):(Builtin.zeroCells z n).toList.length=n*z.size:=by simp[Builtin.zeroCells]
theorem Rl.append{c1 C:List D}{J M:List Value}(h1:Rl F β w c1 J)(h2:Rl F β w C M):Rl F β w (c1++C) (J++M):=by
 refine⟨by simp[h1.1,h2.1],fun k d u hk hu=>?_⟩;by_cases ah:k<c1.length
 .rw[List.getElem?_append_left ah] at hk;rw[List.getElem?_append_left (by rw[h1.1];exact ah)] at hu;exact h1.2 k d u hk hu
 .rw[List.getElem?_append_right oG] at hk;rw[List.getElem?_append_right (by rw[h1.1];omega),h1.1] at hu;exact h2.2 _ d u hk hu
theorem Rl.step{cs:List D}{c:List Value}{β':aE}(h:Rl F β w cs c)(hs:Step β w β' w'):Rl F β' w' cs c:=⟨h.1,fun k d u hk hu=>⟨(h.2 k d u hk hu).1.step hs,(h.2 k d u hk hu).2⟩⟩
theorem YV(hm:aK P F m β w)(hn:β nx=none){e:TypeId}{z:Value}(M:z.cells.size=P.cellsOf e){cs:List D}{c:List Value}(hc:Rl F β w cs c){n N:Nat}(hlen:cs.length=n*P.cellsOf e)(J:n<=N)(dh:N<=maxLen):
 ∃ β',aK P F (up m nx (some (.cells cs e))) β' (w.alloc (.cells (c.toArray++Builtin.zeroCells z.cells (N - n)) e))/\Step β w β' (w.alloc (.cells (c.toArray++Builtin.zeroCells z.cells (N - n)) e))/\
  R F β' (w.alloc (.cells (c.toArray++Builtin.zeroCells z.cells (N - n)) e)) (.rs nx 0 n) (.slice (some ⟨w.heap.size,0,none⟩) n N)/\∀ i,i≠nx->β' i=β i:=by
 obtain⟨h2,C⟩:=Ck hm hn (cs:=cs) (c:=c) (e:=e) hc.1 hc.2 (Builtin.zeroCells z.cells (N - n)).toList
 have e1:(c++(Builtin.zeroCells z.cells (N - n)).toList).toArray=c.toArray++Builtin.zeroCells z.cells (N - n):=by
  apply Array.ext';simp
 rw[e1] at h2 C;have e2:n*P.cellsOf e+(N - n)*P.cellsOf e=N*P.cellsOf e:=by rw[<- Nat.add_mul];congr 1;omega
 have e3:=Wx z.cells (N - n);rw[M] at e3;refine⟨_,h2,C,?_,fun i hi=>aB _ _ hi⟩;exact .rs nx 0 n N w.heap.size 0 _ _ _ (al _ _ _) J dh oG oG
theorem Rg(hm:aK P F m β w)(hn:β nx=none)(e:TypeId):aK P F (up m nx (some (.cells [] e))) (up β nx (some .nil)) w/\Step β w (up β nx (some .nil)) w:=by
 have hs:Step β w (up β nx (some .nil)) w:=by
  refine⟨bc _,fun b hb hf=>⟨rfl,fun i q hq=>?_⟩,fun i q hq=>.inl ?_,rfl,rfl⟩
  .by_cases hi:i=nx
   .subst hi;rw[al] at hq;cases hq;simp[Pl.bG]
   .rw[aB _ _ hi] at hq;exact hf i q hq
  .rw[aB _ _ (fun e=>by rw[e,hn] at hq;cases hq)];exact hq
 have sub:∀ i q b,up β nx (some .nil) i=some q->q.bG=some b->β i=some q:=fun i q b hq e=>by
  by_cases hi:i=nx
  .subst hi;rw[al] at hq;cases hq;simp[Pl.bG] at e
  .rw[aB _ _ hi] at hq;exact hq
 refine⟨⟨fun i r hi=>?_,fun i j p q b hp hq e J=>hm.inj i j p q b (sub i p b hp e) (sub j q b hq J) e J,fun i p b hp e=>hm.lt i p b (sub i p b hp e) e,fun i p b hp e=>hm.nf i p b (sub i p b hp e) e,hm.fb⟩,hs⟩;by_cases C:i=nx
 .subst C;rw[al] at hi;cases hi;exact⟨.nil,al _ _ _,.nil e⟩
 .rw[aB _ _ C] at hi;obtain⟨p,hp,aq⟩:=hm.row i r hi;exact⟨p,by rw[aB _ _ C];exact hp,aq.step hs fun _ _=>rfl⟩
structure Src(P:Program)(w:World)(t u ty E:TypeId)(vx:Value)(k:Nat)(c:List Value):Prop where
 len:c.length=k*P.cellsOf E
 zero:k=0->∀ a0 n cap,n<=cap->(Builtin.append_ #[t,u] ty #[.slice a0 n cap,vx]).run P w=.ok (.slice a0 n cap) w
 new:0<k->∀ a0 n cap (gd:List Value) z,(P.info? E).bind (·.zero)=some z->gd.length=n*P.cellsOf E->(∀ ad,a0=some ad->∀ j v,gd[j]? =some v->w.cell? (ad.add j)=some v)->(a0=none->n=0/\cap=0)->n<=cap->cap<n+k->n+k<=maxLen->(n+k)*P.bytesOf E<=140737488355328->
  (Builtin.append_ #[t,u] ty #[.slice a0 n cap,vx]).run P w=.ok (.slice (some ⟨w.heap.size,0,none⟩) (n+k) (grownCap w (n+k) cap E)) (w.drew.alloc (.cells (gd.toArray++c.toArray++Builtin.zeroCells z.cells (grownCap w (n+k) cap E - (n+k))) E))
 fit:0<k->∀ g o n cap (cur:Array Value),w.heap[g]? =some (.cells cur E (0,0))->n+k<=cap->o+n*P.cellsOf E+c.length<=cur.size->(∀ v∈c,v.oneCell'=true)->
  (Builtin.append_ #[t,u] ty #[.slice (some ⟨g,o,none⟩) n cap,vx]).run P w=.ok (.slice (some ⟨g,o,none⟩) (n+k) cap) (w.setRow g (cur.toList.take (o+n*P.cellsOf E)++c++cur.toList.drop (o+n*P.cellsOf E+c.length)).toArray)
theorem IJ(hm:aK P F m β w){t ty:TypeId}{x:D}{vx:Value}{p:Prop}{rd:List Nat}{k:Nat}{news:List D}(hx:R F β w x vx)(h:jx m (P.cellsOf (aF P t)) x=some (p,rd,k,news))(hp:p)(ht:bg P t=true)(ld:0<P.cellsOf (aF P t)):
 ∃ c,Rl F β w news c/\Src P w t t ty (aF P t) vx k c:=by
 obtain⟨hu,bK⟩:=jU ht;obtain⟨i,d,z,hi,hd,hz,_,ju,_,bC,hb,_⟩:=qF bK;obtain⟨a,C,c,rfl,dy,X,dD,J⟩:=XR hm hx h hp (fun _ _ _ _ _ _ _=>.inr trivial)
 have Rh:0<k->∃ ad,a=some ad:=fun hk=>by
  cases a with
  |none=>have:=(J rfl).2;have:=Nat.mul_pos hk ld;omega
  |some ad=>exact⟨ad,rfl⟩
 refine⟨c,dy,X,fun hk a0 n cap M=>?_,fun hk a0 n cap gd z' U rv tT h0 j3 hg dh j4=>?_,fun hk g o n cap cur Ls uc Dr l6=>?_⟩
 .subst hk;exact Wi (P:=P) (w:=w) t ty _ i hu hi a0 a n cap C M
 .obtain⟨ad,rfl⟩:=Rh hk;simp only[hi,Option.bind_some] at U;rw[hz] at U;cases U;exact Wo (P:=P) (w:=w) t ty _ i z hu hi hz a0 n cap gd (by rw[bC];exact rv) tT h0 j3 ad k C c (by rw[bC];exact X) (dD ad rfl) hg dh (by rw[hb];exact j4)
 .obtain⟨ad,rfl⟩:=Rh hk;have di:=Wn (P:=P) (w:=w) t ty _ i hu hi g o n cap cur Ls ad k C c (by rw[bC];exact X) (dD ad rfl) l6 uc (by rw[bC];omega);rw[bC] at di;exact di
theorem BO(hm:aK P F m β w)(hn:β nx=none){t u ty E:TypeId}{vs vx:Value}{k:Nat}{news:List D}{c:List Value}(dy:Rl F β w news c)(X:Src P w t u ty E vx k c)(bK:aI P E=true)(ld:0<P.cellsOf E){pre:Prop}{rd:List Nat}:
 (R F β w .z vs->k<=maxLen->k*P.bytesOf E<=140737488355328->aX P F m nx β w { pre:=pre,val:=.rs nx 0 k,aT:=[(nx,some (.cells news E))],rd:=rd,new:=1 } (do Pure.pure (Next.value (<- Builtin.append_ #[t,u] ty #[vs,vx]))))/\
 (∀ es n,R F β w (.sc es n) vs->0<k->n*P.cellsOf E=es.length->n+k<=maxLen->(n+k)*P.bytesOf E<=140737488355328->
  aX P F m nx β w { pre:=pre,val:=.rs nx 0 (n+k),aT:=[(nx,some (.cells (es++news) E))],rd:=rd,new:=1 } (do Pure.pure (Next.value (<- Builtin.append_ #[t,u] ty #[vs,vx]))))/\
 ∀ i off n cs,R F β w (.rs i off n) vs->m i=some (.cells cs E)->off+n*P.cellsOf E=cs.length->n+k<=maxLen->(n+k)*P.bytesOf E<=140737488355328->
  aX P F m nx β w { pre:=pre,val:=.rs nx 0 (n+k),aT:=[(i,none),(nx,some (.cells (cs.drop off++news) E))],rd:=rd,new:=1 } (do Pure.pure (Next.value (<- Builtin.append_ #[t,u] ty #[vs,vx]))):=by
 obtain⟨ii,d,z,hi,_,hz,_,ju,_,amt,_⟩:=qF bK;have uN:=X.len;have Kh:k=0->news=[]:=fun hk=>List.eq_nil_of_length_eq_zero (by rw[<- dy.1,uN,hk];simp)
 have grow:∀ (β0:aE) (m0:Mem),aK P F m0 β0 w->Step β w β0 w->β0 nx=none->(∀ i,β i=none->β0 i=none)->∀ (a0:Option Addr) (n cap:Nat) (G8:List D) (gd:List Value),Rl F β0 w G8 gd->gd.length=n*P.cellsOf E->
  (∀ ad,a0=some ad->∀ j v,gd[j]? =some v->w.cell? (ad.add j)=some v)->(a0=none->n=0/\cap=0)->n<=cap->n+k<=maxLen->(n+k)*P.bytesOf E<=140737488355328->0<k->cap<n+k->
  ∃ v w' β',(Builtin.append_ #[t,u] ty #[.slice a0 n cap,vx]).run P w=.ok v w'/\R F β' w' (.rs nx 0 (n+k)) v/\aK P F (up m0 nx (some (.cells (G8++news) E))) β' w'/\Step β w β' w'/\∀ i,β i=none->(i<nx\/nx+1<=i)->β' i=none:=by
  intro β0 m0 iP uF y5 jl a0 n cap G8 gd hold rv tT h0 j3 dh j4 hk hg;have M:=X.new hk a0 n cap gd z (by simp[hi,hz]) rv tT h0 j3 hg dh j4;have Bn:Rl F β0 w.drew (G8++news) (gd++c):=(hold.append (dy.step uF)).step Pj;obtain⟨β',C,J,g3,g4⟩:=YV (P:=P) (nx:=nx) (e:=E) (z:=z) iP.drew y5 ju Bn (n:=n+k) (N:=grownCap w (n+k) cap E) (by rw[<- Bn.1,List.length_append,rv,uN,Nat.add_mul]) (grownCap_ge w _ _ _) (grownCap_le_maxLen w _ _ _ dh);have e1:(gd++c).toArray=gd.toArray++c.toArray:=by simp
  rw[e1] at C J g3;refine⟨_,_,β',M,g3,C,(uF.trans Pj).trans J,fun j hj iR=>?_⟩;rw[g4 j oG];exact jl j hj
 refine⟨fun hs dh j4=>?_,fun es n hs hk hlen dh j4=>?_,fun i off n cs hs cx SR dh j4=>?_⟩
 .obtain⟨a0,rfl⟩:=hs.tY;rcases Nat.eq_zero_or_pos k with hk|hk
  .obtain⟨C,J⟩:=Rg hm hn E;have:=Kh hk;subst hk this;exact⟨.value (.slice a0 0 0),.slice a0 0 0,w,up β nx (some .nil),by simp[X.zero rfl a0 0 0 (bc _)],.inl rfl,.iO nx a0 (al _ _ _),C,J,vf⟩
  .obtain⟨v,w',β',M,C,J,g3,g4⟩:=grow β m hm (Step.refl β w) hn (fun _ h=>h) a0 0 0 [] [] ⟨rfl,oS⟩ oS oS (fun _=>⟨rfl,rfl⟩) (bc _) oG (by simpa using j4) hk oG;refine⟨.value v,v,w',β',by simp[M],.inl rfl,?_,?_,g3,g4⟩
   .simpa using C
   .simpa[cH] using J
 .cases hs with
  |sc _ _ a h=>
  rcases h.tS with⟨rfl,rfl,a',aha,hv⟩|⟨b,o,aha,hv,_,_,_,_,_,dp⟩
  .cases hv;obtain⟨v,w',β',M,C,J,g3,g4⟩:=grow β m hm (Step.refl β w) hn (fun _ h=>h) a 0 0 [] [] ⟨rfl,oS⟩ oS oS (fun _=>⟨rfl,rfl⟩) (bc _) dh j4 hk oG;exact⟨.value v,v,w',β',by simp[M],.inl rfl,C,by simpa[cH] using J,g3,g4⟩
  .cases hv;obtain⟨gd,rD,MC⟩:=dp.AO;obtain⟨v,w',β',M,C,J,g3,g4⟩:=grow β m hm (Step.refl β w) hn (fun _ h=>h) (some ⟨b,o,none⟩) n n es gd rD (by rw[rD.1];exact hlen.symm) (fun ad y4=>by cases y4;exact MC) oS (bc _) dh j4 hk oG;exact⟨.value v,v,w',β',by simp[M],.inl rfl,C,by simpa[cH] using J,g3,g4⟩
 .have dq:i≠nx:=fun e=>by
   obtain⟨p',pw,_⟩:=hm.row i _ cx;rw[e,hn] at pw;cases pw
  have MD:=hm.dead i;have HB:=zD β w i;have ic:up β i (some .dead) nx=none:=by rw[aB _ _ (Ne.symm dq)];exact hn
  have jl:∀ j,β j=none->up β i (some .dead) j=none:=fun j hj=>by
   by_cases cR:j=i
   .subst cR;obtain⟨p',pw,_⟩:=hm.row j _ cx;rw[hj] at pw;cases pw
   .rw[aB _ _ cR];exact hj
  have small:∀ a0:Option Addr,n=0->cs.length=off->vs=.slice a0 0 0->aX P F m nx β w { pre:=pre,val:=.rs nx 0 (n+k),aT:=[(i,none),(nx,some (.cells (cs.drop off++news) E))],rd:=rd,new:=1 } (do Pure.pure (Next.value (<- Builtin.append_ #[t,u] ty #[vs,vx]))):=by
   rintro a0 rfl nI rfl;have SU:cs.drop off=[]:=by simp;omega
   rcases Nat.eq_zero_or_pos k with rfl|hk
   .have vM:=Kh rfl;subst vM;obtain⟨C,J⟩:=Rg MD ic E;refine⟨.value (.slice a0 0 0),.slice a0 0 0,w,_,by simp[X.zero rfl a0 0 0 (bc _)],.inl rfl,.iO nx a0 (al _ _ _),?_,HB.trans J,fun j hj iR=>?_⟩
    .simp only[cH,SU,List.append_nil];exact C
    .rw[aB _ _ (by simp only at iR;omega)];exact jl j hj
   .obtain⟨v,w',β',M,C,J,g3,g4⟩:=grow _ _ MD HB ic jl a0 0 0 [] [] ⟨rfl,oS⟩ oS oS (fun _=>⟨rfl,rfl⟩) (bc _) oG j4 hk oG;refine⟨.value v,v,w',β',by simp[M],.inl rfl,?_,?_,g3,g4⟩
    .simpa using C
    .simp only[cH,SU];exact J
  rcases hs.CC hm cx with⟨rfl,rfl,rfl,gZ,a0,rfl⟩|⟨b,o,room,hβ,aq,pW⟩
  .exact small a0 rfl rfl rfl
  .rcases pW with⟨rfl,a0,rfl⟩|⟨cap,rfl,C,J,g3,g4⟩
   .exact small a0 rfl oG rfl
   .obtain⟨gd,rD,MC⟩:=(aq.rd.1.drop off).AO;have rv:gd.length=n*P.cellsOf E:=by rw[rD.1];simp;omega
    rcases Nat.lt_or_ge cap (n+k) with hg|hg
    .have hk:0<k:=by omega
     obtain⟨v,w',β',M,k1,k2,k3,k4⟩:=grow _ _ MD HB ic jl (some ⟨b,o+off,none⟩) n cap (cs.drop off) gd (rD.step HB) rv (fun ad y4=>by cases y4;exact MC) oS C dh j4 hk hg;exact⟨.value v,v,w',β',by simp[M],.inl rfl,k1,k2,k3,k4⟩
    ·
      cases aq with
      |cells _ _ _ _ _ _ U DX uc hle bC hh=>
      have ami:(up β i (some .dead)) nx=none:=ic;rcases Nat.eq_zero_or_pos k with rfl|hk
      .have vM:=Kh rfl;subst vM
       obtain⟨q1,q2⟩:=hm.move (w':=w) (nx:=nx) (p':=.cells b (o+off) (cs.drop off).length (room - off) (P.cellsOf E)) hβ rfl rfl hn rfl (fun _ _=>rfl) (.cells (cs.drop off) E) (fun c8=>by
        refine .cells _ E b (o+off) (room - off) _ U DX oG oP rfl fun j d hj=>?_;rw[List.getElem?_drop] at hj;obtain⟨u,pq,pr,pu⟩:=hh (off+j) d hj
        exact⟨u,by rw[Nat.add_assoc];exact pq,pr.step c8,pu⟩)
       refine⟨.value (.slice (some ⟨b,o+off,none⟩) n cap),_,w,_,by simp[X.zero rfl (some ⟨b,o+off,none⟩) n cap C],.inl rfl,?_,?_,q2,fun j hj iR=>?_⟩
       .have:=R.rs (F:=F) (β:=up (up β i (some .dead)) nx (some (.cells b (o+off) (cs.drop off).length (room - off) (P.cellsOf E)))) (w:=w) nx 0 n cap b (o+off) (cs.drop off).length (room - off) (P.cellsOf E) (al _ _ _) C J oP oG;simpa using this
       .simp only[cH,List.append_nil];exact q1
       .rw[aB _ _ (by simp only at iR;omega)];exact jl j hj
      .have hmul:n*P.cellsOf E+k*P.cellsOf E<=cap*P.cellsOf E:=by rw[<- Nat.add_mul];exact Nat.mul_le_mul_right _ hg
       have l6:∀ u∈c,u.oneCell'=true:=fun u hu=>by
        obtain⟨j,hj⟩:=ep hu;have dw:j<news.length:=by rw[<- dy.1];exact(bM.1 hj).1
        exact(dy.2 j news[j] u (by simp[dw]) hj).2
       have M:=X.fit hk b (o+off) n cap U DX hg oG l6;have fP:news.length=k*P.cellsOf E:=by rw[<- dy.1];exact uN
       have qY:=setRow_heap w b U (U.toList.take (o+off+n*P.cellsOf E)++c++U.toList.drop (o+off+n*P.cellsOf E+c.length)).toArray E (0,0) DX
       have GJ:(U.toList.take (o+off+n*P.cellsOf E)++c++U.toList.drop (o+off+n*P.cellsOf E+c.length)).toArray.size=U.size:=by
        simp only[List.size_toArray,List.length_append,List.length_take,List.length_drop,Array.length_toList];omega
       obtain⟨q1,q2⟩:=hm.move (w':=w.setRow b (U.toList.take (o+off+n*P.cellsOf E)++c++U.toList.drop (o+off+n*P.cellsOf E+c.length)).toArray) (nx:=nx) (p':=.cells b (o+off) (cs.drop off++news).length (room - off) (P.cellsOf E)) hβ rfl rfl hn oS (fun j hj=>setRow_other w b j _ hj) (.cells (cs.drop off++news) E) (fun c8=>by
        refine .cells _ E b (o+off) (room - off) _ _ qY (by rw[GJ];omega) oP rfl fun j d hj=>?_;have hv:=Ex U.toList (o+off+n*P.cellsOf E) c oP (o+off+j);simp only[List.getElem?_toArray];by_cases ah:j<(cs.drop off).length
        .rw[List.getElem?_append_left ah,List.getElem?_drop] at hj;obtain⟨u,pq,pr,pu⟩:=hh (off+j) d hj;rw[if_pos (by simp at ah;omega)] at hv;exact⟨u,by rw[hv,Nat.add_assoc];simpa using pq,pr.step c8,pu⟩
        .rw[List.getElem?_append_right oG] at hj;have dw:=(bM.1 hj).1;simp only[List.length_drop] at hj dw ah;rw[if_neg oG,if_pos oG,show o+off+j - (o+off+n*P.cellsOf E)=j - (cs.length - off) from by omega] at hv;have TS:j - (cs.length - off)<c.length:=by omega
         obtain⟨r1,r2⟩:=dy.2 _ d c[j - (cs.length - off)] hj (by simp[TS])
         exact⟨_,by rw[hv];simp[TS],r1.step c8,r2⟩)
       refine⟨.value (.slice (some ⟨b,o+off,none⟩) (n+k) cap),_,_,_,by simp[M],.inl rfl,?_,q1,q2,fun j hj iR=>?_⟩
       .refine .rs nx 0 (n+k) cap b (o+off) _ (room - off) _ (al _ _ _) hg J ?_ oG;simp only[List.length_append,List.length_drop];omega
       .rw[aB _ _ (by simp only at iR;omega)];exact jl j hj
theorem XS(hm:aK P F m β w)(hn:β nx=none){t ty:TypeId}{s x:D}{vs vx:Value}{e:dt}(hs:R F β w s vs)(hx:R F β w x vx)(h:qP P m nx t s x=some e)(hp:e.pre):
 aX P F m nx β w e (do Pure.pure (Next.value (<- Builtin.append_ #[t,t] ty #[vs,vx]))):=by
 unfold qP at h;simp only at h;cases M:jx m (P.cellsOf (aF P t)) x with
 |none=>simp[M] at h
 |some q=>
 obtain⟨p,rd,k,news⟩:=q;simp only[M] at h;cases s with
 |z=>
  simp only[aH] at h;subst h;obtain⟨ht,U,J,dh,j4⟩:=hp;obtain⟨c,dy,X⟩:=IJ (ty:=ty) hm hx M U ht J;exact(BO hm hn dy X (jU ht).2 J).1 hs dh j4
 |rs i off n=>
  simp only at h;cases C:m i with
  |none=>simp[C] at h
  |some r=>
  cases r with
  |map es=>simp[C] at h
  |raw es=>simp[C] at h
  |bs u x T=>simp[C] at h
  |ia f r=>simp[C] at h
  |cells cs e'=>
  simp only[C,aH] at h;subst h;obtain⟨ht,hee,U,J,SR,dh,j4,dp⟩:=hp;subst hee;obtain⟨c,dy,X⟩:=IJ (ty:=ty) hm hx M U ht J;exact(BO hm hn dy X (jU ht).2 J).2.2 i off n cs hs C SR dh j4
 |_=>simp at h
end
theorem Q8{a b:Value}(h:p0 a b=true):a=b:=by
 unfold p0 at h;split at h
 .simp at h;rw[h.1,h.2]
 .simp at h;rw[h]
 .rename_i a b;simp only[beq_iff_eq] at h;congr 1;cases a;cases b;simp only[ByteArray.mk.injEq];exact Array.ext' (by simpa using h)
 .cases h
theorem JC:∀ {a b:List Value},gK a b=true->a=b
 |[],[],_=>rfl
 |a::aS,b::bs,h=>by
  simp only[gK,ba] at h;rw[Q8 h.1,JC h.2]
 |[],_::_,h=>by simp[gK] at h
 |_::_,[],h=>by simp[gK] at h
theorem R5{a b:Value}(h:kJ a b=true):a=b:=by
 unfold kJ at h;split at h
 .rw[Array.ext' (JC h)]
 .exact Q8 h
def gn:Value->Bool
 | .int _ _ | .bool _ | .string _=>true
 |_=>false
theorem YJ{a:Value}(h:gn a=true):p0 a a=true:=by
 unfold gn at h;split at h<;>simp_all[p0]
theorem IH:∀ {a:List Value},a.all gn=true->gK a a=true
 |[],_=>rfl
 |a::aS,h=>by
  simp only[List.all_cons,ba] at h;simp[gK,YJ h.1,IH h.2]
section
variable{P:Program}
structure Gf(P:Program)(t kt et:TypeId):Prop where
 sX:P.underlying t=some (.map kt et)
 elem:aI P et=true
 zero:Be P et=true
 refl:∀ v,cI P kt v=true->kJ v v=true
 one:∀ v,cI P kt v=true->v.oneCell'=true\/∃ vs,v=.agg vs
 check:∀ (w:World) (em:Bool) (v:Value),cI P kt v=true->(Instr.checkKey em 10000 kt v).run P w=.ok () w
 find:∀ (w:World) (x:Value),cI P kt x=true->∀ es:List MapEntry,(∀ e∈es,cI P kt e.key=true)->
  ((Instr.findKey kt x es).run P w=.ok none w/\∀ e∈es,e.key≠x)\/∃ j e,(Instr.findKey kt x es).run P w=.ok (some (j,e.val)) w/\es[j]? =some e/\e.key=x
 stays:∀ (w:World) (v:Value),cI P kt v=true->(Instr.keyThatStays v v).run P w=.ok v w
theorem Ih{t kt et:TypeId}{d:TypeDesc}(hu:P.underlying t=some (.map kt et))(he:aI P et=true)(hz:Be P et=true)(hd:P.underlying kt=some d)(hk:∀ v,cI P kt v=true↔MapKept.IsKey d v):Gf P t kt et where
 sX:=hu
 elem:=he
 zero:=hz
 refl:=fun v h=>by
  have:=(hk v).1 h;cases d<;>cases v<;>simp_all[MapKept.IsKey,kJ,p0]
 one:=fun v h=>by
  have:=(hk v).1 h;left;cases d<;>cases v<;>simp_all[MapKept.IsKey,Value.oneCell']
 check:=fun w em v h=>MapKept.run_checkKey hd ((hk v).1 h) em 9999
 find:=fun w x hx es J=>by
  rcases MapKept.findNow_spec ((hk x).1 hx) es 0 (fun e he=>(hk _).1 (J e he)) with⟨h1,h2⟩|⟨j,e,h1,h2,C⟩
  .exact .inl ⟨MapKept.run_findKey hd h1,h2⟩
  .exact .inr ⟨j,e,by have:=MapKept.run_findKey (P:=P) (w:=w) hd h1;simpa using this,h2,C⟩
 stays:=fun w v h=>MapKept.run_keyThatStays ((hk v).1 h)
theorem N9{t kt et:TypeId}(hu:P.underlying t=some (.map kt et))(he:aI P et=true)(hz:Be P et=true)(J:(match P.underlying kt with|some (.array _ _)|some (.struct _)=>true|_=>false)=true)
 (h1:P.keyTypeAt 9 kt=true) (h2:P.tiled 9 kt=true):Gf P t kt et:=by
 have C:=deep_law (P:=P) (m:=9) oG h1 h2 J
 have hk:∀ v,cI P kt v=true↔∃ l,keyOf P kt v=some l:=fun v=>by
  unfold cI;split at J
  .simp_all[Option.isSome_iff_exists]
  .simp_all[Option.isSome_iff_exists]
  .cases J
 refine⟨hu,he,hz,fun v h=>?_,fun v h=>?_,fun w em v h=>?_,fun w x hx es M=>?_,fun w v h=>?_⟩
 .obtain⟨l,hl⟩:=(hk v).1 h;obtain⟨xs,L,rfl,e1,_⟩:=keyOf_top J hl;have:=cells_of_lits 9 kt h2 _ _ _ e1;simp only[kJ];rw[this];refine IH (bV.2 fun u hu=>?_);obtain⟨l,_,rfl⟩:=List.mem_map.1 hu;cases l<;>rfl
 .obtain⟨l,hl⟩:=(hk v).1 h;obtain⟨xs,L,rfl,_⟩:=keyOf_top J hl;exact .inr ⟨xs,rfl⟩
 .obtain⟨l,hl⟩:=(hk v).1 h;exact C.check w em hl
 .obtain⟨l,hl⟩:=(hk x).1 hx;exact C.find w hl es fun e he=>(hk _).1 (M e he)
 .obtain⟨l,hl⟩:=(hk v).1 h;exact C.stays w hl
theorem zG{t:TypeId}(h:fL P t=true):Gf P t (eB P t) (la P t):=by
 unfold fL at h;split at h
 .rename_i kt et hu;have e1:eB P t=kt:=by simp[eB,hu]
  have e2:la P t=et:=by simp[la,hu]
  rw[e1,e2];simp only[ba] at h;obtain⟨⟨h1,hz⟩,h2⟩:=h;split at h2
  .rename_i hd;exact Ih hu h1 hz hd fun v=>by unfold cI;rw[hd];cases v<;>simp[MapKept.IsKey]
  .rename_i hd;exact Ih hu h1 hz hd fun v=>by unfold cI;rw[hd];cases v<;>simp[MapKept.IsKey]
  .rename_i hd;exact Ih hu h1 hz hd fun v=>by unfold cI;rw[hd];cases v<;>simp[MapKept.IsKey]
  .rename_i hd;simp only[ba] at h2;exact N9 hu h1 hz (by rw[hd]) h2.1 h2.2
  .rename_i hd;simp only[ba] at h2;exact N9 hu h1 hz (by rw[hd]) h2.1 h2.2
  .cases h2
 .cases h
theorem Oz{k:Value}:∀ {es:List (Value×D)},cQ k es=none->∀ e∈es,kJ e.1 k=false
 |[],_,e,he=>by cases he
 |(k',d)::es,h,e,he=>by
  simp only[cQ] at h;split at h
  .cases h
  .rename_i C;simp only[Option.map_eq_none_iff] at h;rcases List.mem_cons.1 he with rfl|he
   .simpa using C
   .exact Oz h e he
theorem Ix{k:Value}:∀ {es:List (Value×D)} {j:Nat} {d:D},cQ k es=some (j,d)->∃ k',es[j]? =some (k',d)/\kJ k' k=true
 |[],j,d,h=>by simp[cQ] at h
 |(k',d')::es,j,d,h=>by
  simp only[cQ] at h;split at h
  .rename_i hv;simp only[aH,bP] at h;obtain⟨rfl,rfl⟩:=h;exact⟨k',rfl,hv⟩
  .simp only[cU] at h;obtain⟨⟨X,J⟩,h1,h2⟩:=h;simp only[bP] at h2;obtain⟨rfl,rfl⟩:=h2;obtain⟨C,M,U⟩:=Ix h1;exact⟨C,by simpa using M,U⟩
theorem B2{t kt et:TypeId}(L:Gf P t kt et)(w:World){key:Value}(hk:cI P kt key=true){es:List (Value×D)}(kK:es.all (fun e=>cI P kt e.1)=true){ms:List MapEntry}(hl:ms.length=es.length)
 (X:∀ (k:Nat) (x:Value×D) (m:MapEntry),es[k]? =some x->ms[k]? =some m->m.key=x.1) (dZ:(es.map (·.1)).Nodup):
 (cQ key es=none/\(Instr.findKey kt key ms).run P w=.ok none w/\(∀ e∈es,e.1≠key))\/
 ∃ j d e,cQ key es=some (j,d)/\(Instr.findKey kt key ms).run P w=.ok (some (j,e.val)) w/\ms[j]? =some e/\e.key=key/\es[j]? =some (key,d):=by
 have DV:∀ e∈ms,cI P kt e.key=true:=fun e he=>by
  obtain⟨k,C⟩:=ep he;have ah:k<es.length:=by rw[<- hl];exact(bM.1 C).1
  rw[X k es[k] e (by simp[ah]) C];exact bV.1 kK _ (gi ah)
 rcases L.find w key hk ms DV with⟨h1,h2⟩|⟨j,e,h1,h2,U⟩
 .left
  have aG:∀ e∈es,e.1≠key:=fun e he hke=>by
   obtain⟨k,C⟩:=ep he;have ah:k<ms.length:=by rw[hl];exact(bM.1 C).1
   exact h2 ms[k] (gi ah) ((X k e ms[k] C (by simp[ah])).trans hke)
  refine⟨?_,h1,aG⟩;cases M:cQ key es with
  |none=>rfl
  |some x=>
   obtain⟨j,d⟩:=x;obtain⟨k',U,J⟩:=Ix M;exact absurd (R5 J) (aG _ (bz U))
 .right;have ah:j<es.length:=by rw[<- hl];exact(bM.1 h2).1
  have hej:es[j]? =some es[j]:=by simp[ah]
  have gh:es[j].1=key:=(X j es[j] e hej h2).symm.trans U;cases M:cQ key es with
  |none=>
   have:=Oz M es[j] (gi ah);rw[gh,L.refl key hk] at this;cases this
  |some x=>
   obtain⟨j',d⟩:=x;obtain⟨k',J,h5⟩:=Ix M;have C:=R5 h5;subst C;have oq:j'<es.length:=(bM.1 J).1
   have DW:j'=j:=by
    refine(List.getElem_inj (h₀:=by simpa using oq) (h₁:=by simpa using ah) dZ).1 ?_;simp only[List.getElem_map];have:=(bM.1 J).2;rw[this,gh]
   subst DW;exact⟨j',d,e,rfl,h1,h2,U,J⟩
variable{F:Nat->Prop}{m:Mem}{nx:Nat}{β:aE}{w:World}
theorem Q9:∀ {cs:List D} {vs us:List Value},Aq cs=some vs->us.length=cs.length->(∀ (k:Nat) (d:D) (u:Value),cs[k]? =some d->us[k]? =some u->R F β w d u)->us=vs
 |[],vs,us,h,hl,_=>by
  simp[Aq] at h;subst h;simpa using hl
 |d::cs,vs,us,h,hl,hr=>by
  cases us with
  |nil=>simp at hl
  |cons u us=>
   have h0:=hr 0 d u rfl rfl;cases d with
   |s v=>
    simp only[Aq,cU] at h;obtain⟨C,h1,rfl⟩:=h;rw[h0.cX.1,Q9 (us:=us) h1 (by simpa using hl) fun k d u hd hu=>hr (k+1) d u (by simpa using hd) (by simpa using hu)]
   |_=>simp[Aq] at h
theorem CB{d:D}{key v:Value}(hk:p6 d=some key)(h:R F β w d v):v=key:=by
 unfold p6 at hk;split at hk
 .rw[h.cX.1];simpa using hk
 .obtain⟨us,rfl,hl,hr⟩:=h.rV;simp only[cU] at hk;obtain⟨vs,h1,rfl⟩:=hk;rw[Q9 h1 hl hr]
 .cases hk
theorem R.Ct(hm:aK P F m β w){i:Nat}{es:List (Value×D)}{v:Value}(h:R F β w (.mp i) v)(hi:m i=some (.map es)):
 ∃ r ms clock,β i=some (.map r)/\v=.map (some r)/\w.heap[r]? =some (.map ms clock)/\ms.size=es.length/\(es.map (·.1)).Nodup/\
  ∀ (k:Nat) (x:Value×D) (m:MapEntry),es[k]? =some x->ms[k]? =some m->m.key=x.1/\R F β w x.2 m.val:=by
 obtain⟨p,hp,aq⟩:=hm.row i _ hi;cases h with
 |yM _ _ h _=>rw[h] at hp;cases hp;cases aq
 |mp _ r h=>
  rw[h] at hp;cases hp;cases aq with
  |map _ _ ms clock h1 h2 C J=>exact⟨r,ms,clock,h,rfl,h1,h2,C,J⟩
theorem R.adg{es:List (Value×D)}{v:Value}(h:R F β w (.im es) v):
 ∃ r ms clock,v=.map (some r)/\w.heap[r]? =some (.map ms clock)/\ms.size=es.length/\(es.map (·.1)).Nodup/\
  ∀ (k:Nat) (x:Value×D) (m:MapEntry),es[k]? =some x->ms[k]? =some m->m.key=x.1/\R F β w x.2 m.val:=by
 cases h with
 |im _ r ms clock hf hb hc hl dZ hk hh=>exact⟨r,ms,clock,rfl,hc,hl,dZ,fun k x m hx hm=>⟨hk k x m hx hm,hh k x m hx hm⟩⟩
theorem JJ{t:TypeId}(ht:aI P t=true)(C:Be P t=true):∃ v,(zeroValue t).run P w=.ok v w/\R F β w (lM P t) v:=by
 obtain⟨i,d,z,hi,_,hz,yW,ju,U,_,_,h4⟩:=qF ht;obtain⟨c1,X⟩:=Ae (F:=F) (β:=β) (w:=w) U h4;refine⟨z,by simp[zeroValue,typeInfo,hi,hz],?_⟩;unfold lM;unfold Be at C;simp only[hi,Option.bind_some,hz] at C
 have single:(∀ cs,z≠ .agg cs)->bl P t=false->R F β w ((a7 P t).headD .u) z:=fun J ha=>by
  have hc:z.cells.toList=[z]:=by cases z<;>first|rfl|exact absurd rfl (J _)
  have:a7 P t=[nE z]:=by rw[U,hc];rfl
  rw[this];exact Ke z
 split at C
 .rename_i cs M;simp only[aH] at M;subst M;rw[if_pos C];have:=R.agg (F:=F) (β:=β) (w:=w) (a7 P t) cs.toList (by simpa[Value.cells] using c1) fun k d u hd hu=>(X k d u hd (by simpa[Value.cells] using hu)).1;simpa using this
 .rename_i u J hu;simp only[Bool.not_eq_true'] at C;simp only[aH] at hu;rw[if_neg (by simp[C])];exact single (fun cs h=>J cs (by rw[<- hu,h])) C
 .cases C
theorem XF(hm:aK P F m β w){t:TypeId}{x k:D}{ok:Bool}{vx U:Value}(hx:R F β w x vx)(hk:R F β w k U){e:dt}(h:n4 P m t x k ok=some e)(hp:e.pre):
 aX P F m nx β w e (do Pure.pure (Next.value (<- Instr.lookup t vx U ok))):=by
 unfold n4 at h;split at h
 .rename_i key i J;rw[CB J hk];split at h
  .rename_i es hi;cases h;obtain⟨h1,h2,M⟩:=hp;have L:=zG h1;obtain⟨r,ms,clock,X,rfl,hb,hl,dZ,hh⟩:=hx.Ct hm hi;obtain⟨z,hz,C⟩:=JJ (F:=F) (β:=β) (w:=w) L.elem L.zero;rcases B2 L w h2 M (ms:=ms.toList) (by simpa using hl) (fun k x m hx hm=>(hh k x m hx (by simpa using hm)).1) dZ with⟨f1,f2,_⟩|⟨j,d,en,f1,f2,f3,f4,f5⟩
   .refine⟨.value (if ok then .tuple #[z,.bool false] else z),_,w,β,?_,.inl rfl,?_,hm,Step.refl β w,fun _ h _=>h⟩
    .simp[Instr.lookup,run_underlying L.sX,MapKept.run_getObj_map hb,L.check w _ key h2,f2,hz]
    .simp only[f1,fz];cases ok
     .exact C
     .exact .aM _ [z,.bool false] rfl fun k d u hd hu=>by
       match k with
       |0=>simp at hd hu;subst hd;subst hu;exact C
       |1=>simp at hd hu;subst hd;subst hu;exact .s _ rfl
       |k+2=>simp at hd
   .have hv:=(hh j _ en f5 (by simpa using f3)).2;refine⟨.value (if ok then .tuple #[en.val,.bool true] else en.val),_,w,β,?_,.inl rfl,?_,hm,Step.refl β w,fun _ h _=>h⟩
    .simp[Instr.lookup,run_underlying L.sX,MapKept.run_getObj_map hb,L.check w _ key h2,f2]
    .simp only[f1,fz];cases ok
     .exact hv
     .exact .aM _ [en.val,.bool true] rfl fun k d u hd hu=>by
       match k with
       |0=>simp at hd hu;subst hd;subst hu;exact hv
       |1=>simp at hd hu;subst hd;subst hu;exact .s _ rfl
       |k+2=>simp at hd
  .cases h
 .rename_i key es J;rw[CB J hk]
  .cases h;obtain⟨h1,h2,M⟩:=hp;have L:=zG h1;obtain⟨r,ms,clock,rfl,hb,hl,dZ,hh⟩:=hx.adg;obtain⟨z,hz,C⟩:=JJ (F:=F) (β:=β) (w:=w) L.elem L.zero;rcases B2 L w h2 M (ms:=ms.toList) (by simpa using hl) (fun k x m hx hm=>(hh k x m hx (by simpa using hm)).1) dZ with⟨f1,f2,_⟩|⟨j,d,en,f1,f2,f3,f4,f5⟩
   .refine⟨.value (if ok then .tuple #[z,.bool false] else z),_,w,β,?_,.inl rfl,?_,hm,Step.refl β w,fun _ h _=>h⟩
    .simp[Instr.lookup,run_underlying L.sX,MapKept.run_getObj_map hb,L.check w _ key h2,f2,hz]
    .simp only[f1,fz];cases ok
     .exact C
     .exact .aM _ [z,.bool false] rfl fun k d u hd hu=>by
       match k with
       |0=>simp at hd hu;subst hd;subst hu;exact C
       |1=>simp at hd hu;subst hd;subst hu;exact .s _ rfl
       |k+2=>simp at hd
   .have hv:=(hh j _ en f5 (by simpa using f3)).2;refine⟨.value (if ok then .tuple #[en.val,.bool true] else en.val),_,w,β,?_,.inl rfl,?_,hm,Step.refl β w,fun _ h _=>h⟩
    .simp[Instr.lookup,run_underlying L.sX,MapKept.run_getObj_map hb,L.check w _ key h2,f2]
    .simp only[f1,fz];cases ok
     .exact hv
     .exact .aM _ [en.val,.bool true] rfl fun k d u hd hu=>by
       match k with
       |0=>simp at hd hu;subst hd;subst hu;exact hv
       |1=>simp at hd hu;subst hd;subst hu;exact .s _ rfl
       |k+2=>simp at hd
 .rename_i key J;rw[CB J hk];cases h;obtain⟨h1,h2⟩:=hp;have L:=zG h1;rw[hx.cX.1];obtain⟨z,hz,C⟩:=JJ (F:=F) (β:=β) (w:=w) L.elem L.zero;rcases B2 L w h2 (es:=[]) rfl (ms:=[]) rfl oS oS with⟨f1,f2,_⟩|⟨j,d,en,f1,f2,f3,f4,f5⟩
  .refine⟨.value (if ok then .tuple #[z,.bool false] else z),_,w,β,?_,.inl rfl,?_,hm,Step.refl β w,fun _ h _=>h⟩
   .simp[Instr.lookup,run_underlying L.sX,L.check w _ key h2,f2,hz]
   .simp only[fz];cases ok
    .exact C
    .exact .aM _ [z,.bool false] rfl fun k d u hd hu=>by
      match k with
      |0=>simp at hd hu;subst hd;subst hu;exact C
      |1=>simp at hd hu;subst hd;subst hu;exact .s _ rfl
      |k+2=>simp at hd
  .simp at f5
 .cases h
theorem XG{w:World}{r:Nat}{o o':Obj}(hb:w.heap[r]? =some o):(w.heap.setIfInBounds r o').size=w.heap.size/\(w.heap.setIfInBounds r o')[r]? =some o'/\∀ k,k≠r->(w.heap.setIfInBounds r o')[k]? =w.heap[k]? :=
 ⟨oS,(MapKept.heap_set hb).1,fun k hk=>(MapKept.heap_set hb).2 k hk⟩
theorem EJ(hm:aK P F m β w){i r:Nat}{ms:Array MapEntry}{clock:Nat}(C:β i=some (.map r))(hb:w.heap[r]? =some (.map ms clock)){es':List (Value×D)}{ms':Array MapEntry}{clock':Nat}
 (hl:ms'.size=es'.length) (dZ:(es'.map (·.1)).Nodup) (hh:∀ (k:Nat) (x:Value×D) (m:MapEntry),es'[k]? =some x->ms'[k]? =some m->m.key=x.1/\R F β w x.2 m.val):
 aK P F (up m i (some (.map es'))) β { w with heap:=w.heap.setIfInBounds r (.map ms' clock') }/\Step β w β { w with heap:=w.heap.setIfInBounds r (.map ms' clock') }:=by
 obtain⟨J,q2,M⟩:=XG (o':=.map ms' clock') hb;have hs:=BR (w':={ w with heap:=w.heap.setIfInBounds r (.map ms' clock') }) hm C rfl (by simp[J]) M;refine⟨hm.write C rfl J M _ (.map es' r ms' clock' q2 hl dZ fun k x X hx U=>?_),hs⟩;obtain⟨h1,h2⟩:=hh k x X hx U;exact⟨h1,h2.step hs⟩
theorem OA(hm:aK P F m β w){t:TypeId}{x k v:D}{vx vk J:Value}(hx:R F β w x vx)(hk:R F β w k vk)(hv:R F β w v J){e:dt}(h:nh P m t x k v=some e)(hp:e.pre):
 aX P F m nx β w e (do Instr.mapUpdate t vx vk J;Pure.pure Next.skip):=by
 unfold nh at h;split at h
 .rename_i key i ow;rw[CB ow hk];split at h
  .rename_i es hi;cases h;obtain⟨h1,h2,h3⟩:=hp;have L:=zG h1;obtain⟨r,ms,clock,hβ,rfl,hb,hl,dZ,hh⟩:=hx.Ct hm hi;rcases B2 L w h2 h3 (ms:=ms.toList) (by simpa using hl) (fun k x m hx hm=>(hh k x m hx (by simpa using hm)).1) dZ with⟨f1,f2,f3⟩|⟨j,d,en,f1,f2,f3,f4,f5⟩
   .obtain⟨M,U⟩:=EJ (P:=P) hm hβ hb (es':=fY key v es) (ms':=ms.push { key,val:=J,born:=clock }) (clock':=clock+1) (by simp[fY,f1,hl])
     (by
      simp only[fY,f1,List.map_append,List.map_cons,List.map_nil];rw[List.nodup_append];refine⟨dZ,oS,fun a ha b jM=>?_⟩;simp only[List.mem_singleton] at jM;subst jM;obtain⟨y,hy,rfl⟩:=List.mem_map.1 ha
      exact f3 y hy)
     (fun k x mm hx C=>by
      simp only[fY,f1] at hx;rcases Nat.lt_or_ge k es.length with ah|bq
      .rw[List.getElem?_append_left ah] at hx;rw[Array.getElem?_push_lt oG] at C;exact hh k x mm hx (by rw[<- C];simp[show k<ms.size by omega])
      .rw[List.getElem?_append_right bq] at hx
       have sY:k - es.length=0:=by
        have:=(bM.1 hx).1;simp at this;omega
       rw[sY] at hx;simp at hx;subst hx;have:k=ms.size:=by omega
       subst this;simp at C;subst C
       exact⟨rfl,hv⟩)
    exact⟨.skip,undef,_,β,by simp[Instr.mapUpdate,run_underlying L.sX,MapKept.run_getObj_map hb,L.check w _ key h2,f2,MapKept.run_setObj_map _ hb],.inr ⟨rfl,rfl⟩,.aM [] [] rfl oS,M,U,fun _ h _=>h⟩
   .have G7:j<es.length:=(bM.1 f5).1
    obtain⟨M,U⟩:=EJ (P:=P) hm hβ hb (es':=fY key v es) (ms':=ms.modify j fun e=>{ e with key:=key,val:=J }) (clock':=clock) (by simp[fY,f1,hl])
     (by
      have:(fY key v es).map (·.1)=es.map (·.1):=by
       simp only[fY,f1,List.map_set]
       have h5:(es.map (·.1))[j]'(by simpa using G7)=key:=by
        have:=(bM.1 f5).2;simp[this]
       rw[<- h5];exact List.set_getElem_self _
      rw[this];exact dZ)
     (fun k x mm hx C=>by
      simp only[fY,f1] at hx;rw[Array.getElem?_modify] at C;by_cases X:k=j
      .subst X;simp only[if_pos] at C;rw[List.getElem?_set_self G7] at hx;simp only[aH] at hx;subst hx;simp only[cU] at C;obtain⟨en',_,rfl⟩:=C;exact⟨rfl,hv⟩
      .rw[if_neg (Ne.symm X)] at C;rw[List.getElem?_set_ne (Ne.symm X)] at hx
       exact hh k x mm hx C)
    have hj:ms[j]? =some en:=by simpa using f3
    exact⟨.skip,undef,_,β,by simp[Instr.mapUpdate,run_underlying L.sX,MapKept.run_getObj_map hb,L.check w _ key h2,f2,hj,f4,L.stays w key h2,MapKept.run_setObj_map _ hb],.inr ⟨rfl,rfl⟩,.aM [] [] rfl oS,M,U,fun _ h _=>h⟩
  .cases h
 .cases h
theorem ab0{ts:Array TypeId}(h:ts.size≠0):ts[0]? =some (ts.getD 0 0):=by
 have:0<ts.size:=by omega
 simp[Array.getD_eq_getD_getElem?,this]
theorem XH(hm:aK P F m β w){ts:Array TypeId}{ty:TypeId}(iT:ts.size≠0){x k:D}{vx vk:Value}(hx:R F β w x vx)(hk:R F β w k vk){e:dt}(h:rW P m (ts.getD 0 0) x k=some e)(hp:e.pre):
 aX P F m nx β w e (do Pure.pure (Next.value (<- Builtin.delete_ ts ty #[vx,vk]))):=by
 have rB:=ab0 iT;generalize ts.getD 0 0=t at*
 unfold rW at h;split at h
 .rename_i key i ow;rw[CB ow hk];split at h
  .rename_i es hi;cases h;obtain⟨h1,h2,h3⟩:=hp;have L:=zG h1;obtain⟨r,ms,clock,hβ,rfl,hb,hl,dZ,hh⟩:=hx.Ct hm hi;rcases B2 L w h2 h3 (ms:=ms.toList) (by simpa using hl) (fun k x m hx hm=>(hh k x m hx (by simpa using hm)).1) dZ with⟨f1,f2,f3⟩|⟨j,d,en,f1,f2,f3,f4,f5⟩
   .obtain⟨M,U⟩:=EJ (P:=P) hm hβ hb (es':=sK key es) (ms':=ms) (clock':=clock) (by simp[sK,f1,hl]) (by simpa[sK,f1] using dZ) (fun k x J hx C=>hh k x J (by simpa[sK,f1] using hx) C);exact⟨.value (.tuple #[]),.tuple #[],_,β,by simp[Builtin.delete_,rB,run_underlying L.sX,MapKept.run_getObj_map hb,L.check w _ key h2,f2,MapKept.run_setObj_map _ hb],.inl rfl,.aM [] [] rfl oS,M,U,fun _ h _=>h⟩
   .have G7:j<es.length:=(bM.1 f5).1;have UU:j<ms.size:=by omega
    have he:∀ k,(ms.eraseIdxIfInBounds j)[k]? =if k<j then ms[k]? else ms[k+1]? :=fun k=>by
     have h0:(ms.eraseIdxIfInBounds j).toList=ms.toList.eraseIdx j:=by simp[Array.eraseIdxIfInBounds,UU]
     rw[<- Array.getElem?_toList,h0,List.getElem?_eraseIdx];simp
    obtain⟨M,U⟩:=EJ (P:=P) hm hβ hb (es':=sK key es) (ms':=ms.eraseIdxIfInBounds j) (clock':=clock) (by simp[sK,f1,Array.eraseIdxIfInBounds,UU,hl,List.length_eraseIdx,G7])
     (by simp only[sK,f1];exact List.Nodup.sublist ((List.eraseIdx_sublist es j).map _) dZ)
     (fun k x J hx C=>by
      simp only[sK,f1,List.getElem?_eraseIdx] at hx;rw[he] at C;split at hx
      .rename_i X;rw[if_pos X] at C;exact hh k x J hx C
      .rename_i X;rw[if_neg X] at C;exact hh (k+1) x J hx C)
    exact⟨.value (.tuple #[]),.tuple #[],_,β,by simp[Builtin.delete_,rB,run_underlying L.sX,MapKept.run_getObj_map hb,L.check w _ key h2,f2,MapKept.run_setObj_map _ hb],.inl rfl,.aM [] [] rfl oS,M,U,fun _ h _=>h⟩
  .cases h
 .cases h
end
theorem Ov{a b:Value}(h:xR a b=true):gn a=true/\gn b=true:=by
 unfold xR at h;split at h<;>first|exact⟨rfl,rfl⟩|cases h
def Au(xs ys:List Value):Prop:=xs.length=ys.length/\∀ (k:Nat) (x y:Value),xs[k]? =some x->ys[k]? =some y->xR x y=true
section
variable{P:Program}
theorem Xy{xs ys:List Value}(h:Au xs ys):(∀ x∈xs,gn x=true)/\∀ y∈ys,gn y=true:=by
 refine⟨fun x hx=>?_,fun y hy=>?_⟩
 .obtain⟨k,hk⟩:=ep hx;have ah:k<ys.length:=by rw[<- h.1];exact(bM.1 hk).1
  exact(Ov (h.2 k x ys[k] hk (by simp[ah]))).1
 .obtain⟨k,hk⟩:=ep hy;have ah:k<xs.length:=by rw[h.1];exact(bM.1 hk).1
  exact(Ov (h.2 k xs[k] y (by simp[ah]) hk)).2
theorem YE(w:World)(d:Nat){t:TypeId}(ht:sJ P t=true){x y:Value}(hx:jF x=vG P t)(hk:xR x y=true):
 ∃ r:Bool,(Op.equalIn (d+1) t x y).run P w=.ok r w/\(r=true↔x=y):=by
 unfold xR at hk;unfold vG at hx;split at hk
 .rename_i k a k' b;simp only[beq_iff_eq] at hk;subst hk;split at hx<;>simp[jF] at hx;rename_i hu;exact⟨a==b,run_equalIn_int w d t _ _ a b hu,oS⟩
 .rename_i a b;split at hx<;>simp[jF] at hx;rename_i hu;exact⟨a==b,run_equalIn_bool' w d t a b hu,oS⟩
 .rename_i a b;split at hx<;>simp[jF] at hx;rename_i hu;refine⟨a==b,?_,?_⟩
  .rw[run_equalIn_string w d t a b hu,beq_toListBytes]
  .rw[MapKept.bytes_beq];simp
 .cases hk
theorem step_eq(w:World)(d:Nat){t:TypeId}(ht:sJ P t=true){xs ys:Array Value}(hk:Au xs.toList ys.toList){off:Nat}(C:off<xs.size)(M:∀ x,xs.toList[off]? =some x->jF x=vG P t):
 ∃ a b r,(part t xs off).run P w=.ok a w/\(part t ys off).run P w=.ok b w/\(Op.equalIn (d+1) t a b).run P w=.ok r w/\(r=true↔xs.toList[off]? =ys.toList[off]?):=by
 have bC:xs.size=ys.size:=by simpa using hk.1
 have h0:=ht;simp only[sJ,ba,Bool.not_eq_true'] at h0;have J:off<ys.size:=by omega
 obtain⟨r,hr,U⟩:=YE (P:=P) w d ht (x:=xs[off]) (y:=ys[off]) (M _ (by simp[C])) (hk.2 off _ _ (by simp[C]) (by simp[J]));refine⟨xs[off],ys[off],r,?_,?_,hr,?_⟩
 .unfold part;simp[BS w (zM h0.1.2),h0.2,C]
 .unfold part;simp[BS w (zM h0.1.2),h0.2,J]
 .rw[U];simp[C,J]
theorem N4(w:World)(d:Nat){e:TypeId}(ht:sJ P e=true){xs ys:Array Value}(hk:Au xs.toList ys.toList):∀ (C:List Nat),(∀ i∈C,i<xs.size/\∀ x,xs.toList[i]? =some x->jF x=vG P e)->
 ∃ r:Bool,(Op.eqItems (d+1) e (P.cellsOf e) xs ys C).run P w=.ok r w/\(r=true↔∀ i∈C,xs.toList[i]? =ys.toList[i]?)
 |[],_=>⟨true,by simp[Op.eqItems],oS⟩
 |i::C,h=>by
  have hc:P.cellsOf e=1:=by simp only[sJ,ba,beq_iff_eq] at ht;exact ht.1.1.2
  obtain⟨a,b,r,p1,p2,p3,J⟩:=step_eq w d ht hk (h i oS).1 (h i oS).2;obtain⟨r',M,U⟩:=N4 w d ht hk C fun j hj=>h j (by simp[hj]);rw[hc] at M ⊢;simp only[Op.eqItems,Nat.mul_one,Sem.run_bind,p1,p2,p3,Result.andThen_ok];cases r
  .refine⟨false,oS,?_⟩;simp only[Bool.false_eq_true,false_iff] at J ⊢;intro X;exact J (X i oS)
  .refine⟨r',by simpa using M,?_⟩;rw[U]
   exact⟨fun h j hj=>by
    rcases List.mem_cons.1 hj with rfl|hj
    .exact J.1 rfl
    .exact h j hj,fun h j hj=>h j (by simp[hj])⟩
theorem NW(w:World)(d:Nat){xs ys:Array Value}(hk:Au xs.toList ys.toList):∀ (fs:List Field),(∀ f∈fs,f.name≠"_"/\sJ P f.type=true/\f.offset<xs.size/\∀ x,xs.toList[f.offset]? =some x->jF x=vG P f.type)->
 ∃ r:Bool,(Op.eqFields (d+1) xs ys fs).run P w=.ok r w/\(r=true↔∀ f∈fs,xs.toList[f.offset]? =ys.toList[f.offset]?)
 |[],_=>⟨true,by simp[Op.eqFields],oS⟩
 |f::fs,h=>by
  obtain⟨hn,ht,U,yS⟩:=h f oS;obtain⟨a,b,r,p1,p2,p3,C⟩:=step_eq w d ht hk U yS;obtain⟨r',X,J⟩:=NW w d hk fs fun g hg=>h g (by simp[hg]);simp only[Op.eqFields,hn,ne_eq,not_false_eq_true,if_true,Sem.run_bind,p1,p2,p3,Result.andThen_ok];cases r
  .refine⟨false,oS,?_⟩;simp only[Bool.false_eq_true,false_iff] at C ⊢;intro M;exact C (M f oS)
  .refine⟨r',by simpa using X,?_⟩;rw[J]
   exact⟨fun h j hj=>by
    rcases List.mem_cons.1 hj with rfl|hj
    .exact C.1 rfl
    .exact h j hj,fun h j hj=>h j (by simp[hj])⟩
theorem aae:∀ {a b:List Value},a.all gn=true->(gK a b=true↔a=b):=fun h=>⟨JC,fun e=>by subst e;exact IH h⟩
theorem N5(w:World){t:TypeId}{ks:List Nat}(ht:vH P t=some ks){xs ys:List Value}(hk:Au xs ys)(U:xs.map jF=ks):
 (Op.equal t (.agg xs.toArray) (.agg ys.toArray)).run P w=.ok (gK xs ys) w:=by
 obtain⟨s1,s2⟩:=Xy hk;have bx:xs.all gn=true:=bV.2 s1
 have fin:∀ r:Bool,(r=true↔xs=ys)->r=gK xs ys:=fun r h=>by
  have:=aae (b:=ys) bx;cases r<;>cases hv:gK xs ys<;>simp_all
 unfold vH at ht;split at ht
 .rename_i n e hu;split at ht
  .rename_i hc;simp only[ba,beq_iff_eq] at hc;simp only[aH] at ht;subst ht;have hlen:xs.length=n:=by have:=congrArg List.length U;simpa using this
   have J:=hc.1;obtain⟨i,hi⟩:=Option.isSome_iff_exists.1 (jy (show aI P e=true by simp only[sJ,ba] at J;exact J.1.2))
   obtain⟨r,hr,jo⟩:=N4 (P:=P) w 9998 J (xs:=xs.toArray) (ys:=ys.toArray) (by simpa using hk) (List.range n) fun i hi=>by
    simp only[List.mem_range] at hi;refine⟨by simp;omega,fun x hx=>?_⟩;have:(xs.map jF)[i]? =some (jF x):=by simp at hx;simp[hx]
    rw[U] at this;simp[List.getElem?_replicate,hi] at this;exact this.symm
   have e1:=run_equalIn_array (P:=P) (w:=w) 9999 (t:=t) (e:=e) (n:=n) xs.toArray ys.toArray hu hi;show(Op.equalIn (9999+1) t _ _).run P w=_;rw[e1,hr,fin r];rw[jo];constructor
   .intro h;apply List.ext_getElem?;intro i;rcases Nat.lt_or_ge i n with ah|bq
    .simpa using h i (by simpa using ah)
    .rw[List.getElem?_eq_none oG,List.getElem?_eq_none (by rw[<- hk.1];omega)]
   .rintro rfl i _;rfl
  .cases ht
 .rename_i fs hu;split at ht
  .rename_i hc;simp only[ba,beq_iff_eq,bV,bne_iff_ne,ne_eq,Bool.not_eq_true'] at hc;obtain⟨⟨hf,X⟩,c8⟩:=hc;simp only[aH] at ht;subst ht;have hlen:xs.length=fs.toList.length:=by have:=congrArg List.length U;simpa using this
   have nI:∀ (l:List Field) (o:Nat),P.runs o l=some (o+l.length)->(∀ f∈l,P.cellsOf f.type=1)->∀ (j:Nat) (f:Field),l[j]? =some f->f.offset=o+j:=by
    intro l
    induction l with
    |nil=>intro o _ _ j f hj;simp at hj
    |cons g l ih=>
     intro o C h1 j f hj;simp only[Program.runs] at C;split at C
     .rename_i nR;have hg1:=h1 g oS;rw[hg1] at C;cases j with
      |zero=>simp at hj;subst hj;simpa using nR
      |succ j=>
       have:=ih (o+1) (by rw[C];simp;omega) (fun f hf=>h1 f (by simp[hf])) j f (by simpa using hj);omega
     .cases C
   have J:∀ f∈fs.toList,P.cellsOf f.type=1:=fun f M=>by
    have:=(hf f M).2;simp only[sJ,ba,beq_iff_eq] at this;exact this.1.1.2
   have ld:=nI fs.toList 0 (by simpa using X) J
   obtain⟨r,hr,jo⟩:=NW (P:=P) w 9998 (xs:=xs.toArray) (ys:=ys.toArray) (by simpa using hk) fs.toList fun f M=>by
    obtain⟨j,hj⟩:=ep M;have dw:j<fs.toList.length:=(bM.1 hj).1;have C:f.offset=j:=by have:=ld j f hj;omega
    refine⟨(hf f M).1,(hf f M).2,by rw[C];simp;simp at hlen dw;omega,fun x hx=>?_⟩;rw[C] at hx;have h1:(xs.map jF)[j]? =some (jF x):=by simp at hx;simp[hx]
    rw[U,List.getElem?_map,hj] at h1;simpa using h1.symm
   have DU:P.fieldsOf t=fs:=by simp[Program.fieldsOf,hu]
   have e1:=run_equalIn_struct (P:=P) w 9999 t xs.toArray ys.toArray (by rw[DU];exact hu) c8;show(Op.equalIn (9999+1) t _ _).run P w=_;rw[e1,DU,hr,fin r];rw[jo];constructor
   .intro h;apply List.ext_getElem?;intro j;rcases Nat.lt_or_ge j fs.toList.length with ah|bq
    .have h1:=h fs.toList[j] (gi ah);have C:=ld j fs.toList[j] oS;rw[Nat.zero_add] at C;rw[C] at h1;simpa using h1
    .rw[List.getElem?_eq_none oG,List.getElem?_eq_none (by rw[<- hk.1];omega)]
   .rintro rfl f _;rfl
  .cases ht
 .cases ht
variable{F:Nat->Prop}{m:Mem}{nx:Nat}{β:aE}{w:World}
theorem II:∀ {xs ys:List D} {a b:List Value},ov xs ys=some (a,b)->xs=a.map D.s/\ys=b.map D.s/\Au a b
 |[],[],a,b,h=>by
  simp[ov] at h;obtain⟨rfl,rfl⟩:=h;exact⟨rfl,rfl,rfl,oS⟩
 | .s x::xs,.s y::ys,a,b,h=>by
  simp only[ov] at h;split at h
  .rename_i hk;simp only[cU] at h;obtain⟨⟨a',C⟩,h1,h2⟩:=h;simp only[bP] at h2;obtain⟨rfl,rfl⟩:=h2;obtain⟨e1,e2,e3,e4⟩:=II h1;refine⟨by simp[e1],by simp[e2],by simp[e3],fun k u v hu hv=>?_⟩;cases k with
   |zero=>simp at hu hv;subst hu;subst hv;exact hk
   |succ k=>exact e4 k u v (by simpa using hu) (by simpa using hv)
  .cases h
 |[],_::_,_,_,h=>by simp[ov] at h
 |_::_,[],_,_,h=>by simp[ov] at h
 | .u::_,_::_,_,_,h | .ub::_,_::_,_,_,h | .cw _ _::_,_::_,_,_,h | .agg _::_,_::_,_,_,h | .aM _::_,_::_,_,_,h | .z::_,_::_,_,_,h | .sl _ _::_,_::_,_,_,h | .pt _::_,_::_,_,_,h
 | .rs _ _ _::_,_::_,_,_,h | .rp _ _::_,_::_,_,_,h | .mp _::_,_::_,_,_,h | .fn _ _ _::_,_::_,_,_,h=>by simp[ov] at h
 | .s _::_,.u::_,_,_,h | .s _::_,.ub::_,_,_,h | .s _::_,.cw _ _::_,_,_,h | .s _::_,.agg _::_,_,_,h | .s _::_,.aM _::_,_,_,h | .s _::_,.z::_,_,_,h | .s _::_,.sl _ _::_,_,_,h | .s _::_,.pt _::_,_,_,h
 | .s _::_,.rs _ _ _::_,_,_,h | .s _::_,.rp _ _::_,_,_,h | .s _::_,.mp _::_,_,_,h | .s _::_,.fn _ _ _::_,_,_,h=>by simp[ov] at h
theorem Fl{a:List Value}{v:Value}(h:R F β w (.agg (a.map D.s)) v):v=.agg a.toArray:=by
 obtain⟨vs,rfl,hl,hr⟩:=h.rV;congr 2;apply List.ext_getElem?;intro k;rcases Nat.lt_or_ge k a.length with ah|C
 .have hk:k<vs.length:=by rw[hl];simpa using ah
  have:=(hr k (.s a[k]) vs[k] (by simp[ah]) (by simp[hk])).cX.1;simp[ah,hk,this]
 .rw[List.getElem?_eq_none (by rw[hl];simpa using C),List.getElem?_eq_none C]
theorem YF(hm:aK P F m β w){op:BinOp}{t:TypeId}(C J:Operand){xs ys:List D}{x y:Value}{q:Prop×D}(hx:R F β w (.agg xs) x)(hy:R F β w (.agg ys) y)(h:xx P op t xs ys=some q)(hp:q.1):
 aX P F m nx β w { pre:=q.1,val:=q.2 } ((do eqGuard op t C J x y;binOp op t x y)>>=fun r=>Pure.pure (Next.value r)):=by
 unfold xx at h;split at h
 .rename_i ks z hf hz;cases h;obtain⟨a,b⟩:=z;obtain⟨e1,e2,hk⟩:=II hz;subst e1 e2;rw[Fl hx,Fl hy];have:=N5 (P:=P) w hf hk hp.1;refine aX.val hm (v:=.bool (gK a b)) ?_ (.s _ rfl);have e3:(Op.equalIn 10000 t (.agg a.toArray) (.agg b.toArray)).run P w=.ok (gK a b) w:=this;simp only[Sem.run_bind,run_eqGuard_agg (P:=P) w .eql t C J _ _ hp.2,Result.andThen_ok,run_eql_struct,e3,Sem.run_pure]
 .rename_i ks z hf hz;cases h;obtain⟨a,b⟩:=z;obtain⟨e1,e2,hk⟩:=II hz;subst e1 e2;rw[Fl hx,Fl hy];have:=N5 (P:=P) w hf hk hp.1;refine aX.val hm (v:=.bool !(gK a b)) ?_ (.s _ rfl);have e3:(Op.equalIn 10000 t (.agg a.toArray) (.agg b.toArray)).run P w=.ok (gK a b) w:=this;simp only[Sem.run_bind,run_eqGuard_agg (P:=P) w .neq t C J _ _ hp.2,Result.andThen_ok,run_neq_struct,e3,Sem.run_pure]
 .cases h
end
section
variable{P:Program}{F:Nat->Prop}{m:Mem}{nx:Nat}{β:aE}{w:World}
theorem Ri{ps:Array (Nat×Operand)}{ρ:Operand->D}{a:Act}(h:∀ x∈(ps.toList.map (·.2)),R F β w (ρ x) (a.eval x)):
 (ps.toList.map fun q=>(q.1,ρ q.2)).length=(ps.map fun(i,x)=>(i,a.eval x)).size/\
 ∀ (k:Nat) (p:Nat×D) (q:Nat×Value),(ps.toList.map fun q=>(q.1,ρ q.2))[k]? =some p->(ps.map fun(i,x)=>(i,a.eval x))[k]? =some q->p.1=q.1/\R F β w p.2 q.2:=by
 refine⟨oS,fun k p q hk hq=>?_⟩;simp only[List.getElem?_map,Array.getElem?_map] at hk hq;cases C:ps[k]? with
 |none=>simp[C] at hq
 |some y=>
  simp[C] at hk hq;subst hk;subst hq;exact⟨rfl,h _ (List.mem_map.2 ⟨y,by simpa using Array.mem_of_getElem? C,rfl⟩)⟩
theorem Cs{xs:Array Operand}{ρ:Operand->D}{a:Act}(h:∀ x∈xs,R F β w (ρ x) (a.eval x)):
 (xs.toList.map a.eval).length=(xs.toList.map ρ).length/\∀ (k:Nat) (d:D) (v:Value),(xs.toList.map ρ)[k]? =some d->(xs.toList.map a.eval)[k]? =some v->R F β w d v:=by
 refine⟨oS,fun k d v hk hv=>?_⟩;simp only[List.getElem?_map] at hk hv;cases hx:xs.toList[k]? with
 |none=>simp[hx] at hk
 |some x=>
  simp[hx] at hk hv;subst hk;subst hv;exact h x (by simpa using bz hx)
theorem Lw{x:Option Operand}{ρ:Operand->D}{a:Act}(h:∀ y,x=some y->R F β w (ρ y) (a.eval y)):Ro F β w (x.map ρ) (x.map a.eval):=by
 cases x with
 |none=>exact .inl ⟨rfl,rfl⟩
 |some y=>exact .inr ⟨_,_,rfl,rfl,h y rfl⟩
theorem aX.of_eq{e:dt}{s:Sem Next}(h:e.aT=[]/\e.new=0/\aX P F m nx β w e s):aX P F m nx β w e s:=h.2.2
theorem Wy(hm:aK P F m β w){b:Builtin}{ts:Array TypeId}{ty:TypeId}{cs:Array Bool}{ds:List D}{vs:List Value}{e:dt}(hn:e.new=1->β nx=none)(hl:vs.length=ds.length)
 (C:∀ (k:Nat) (d:D) (v:Value),ds[k]? =some d->vs[k]? =some v->R F β w d v) (J:ts.size=ds.length) (h:fE P m nx b ts ds=some e) (hp:e.pre):aX P F m nx β w e (builtin b ts ty cs vs.toArray):=by
 cases b
 case len=>
  match ds,vs,hl,h,C with
  |[d],[v],_,h,C=>
   simp only[fE] at h;exact aX.of_eq (ab5 hm (by simp at J;omega) (C 0 d v rfl rfl) h hp)
  |[],_,_,h,_=>simp[fE] at h
  |_::_::_,_,_,h,_=>simp[fE] at h
 case append=>
  match ds,vs,hl,h,C with
  |[s,x],[v,u],_,h,C=>
   simp only[fE] at h;split at h
   .rename_i M
    match ts,J,M,h with
    |⟨[t,t']⟩,_,M,h=>
     simp[Array.getD_eq_getD_getElem?] at M h;subst M
     have X:e.new=1:=by
      unfold qP at h;simp only at h;split at h
      .cases h
      .split at h
       .simp only[aH] at h;rw[<- h]
       .split at h
        .simp only[aH] at h;rw[<- h]
        .cases h
       .cases h
     exact XS hm (hn X) (C 0 s v rfl rfl) (C 1 x u rfl rfl) h hp
    |⟨[]⟩,J,_,_=>simp at J
    |⟨[_]⟩,J,_,_=>simp at J
    |⟨_::_::_::_⟩,J,_,_=>simp at J
   .cases h
  |[],_,_,h,_=>simp[fE] at h
  |[_],_,_,h,_=>simp[fE] at h
  |_::_::_::_,_,_,h,_=>simp[fE] at h
 case min=>
  match ds,vs,hl,h,C with
  |[.s (.int k a),.s (.int k' b)],[v,u],_,h,C=>
   simp only[fE,aH] at h;subst h;simp only at hp;subst hp;exact Rf hm (C 0 _ v rfl rfl) (C 1 _ u rfl rfl)
  |ds,vs,hl,h,C=>
   unfold fE at h;split at h<;>simp_all;subst h;subst hp
   match vs,hl with
   |[v,u],_=>exact Rf hm (C 0 _ v rfl rfl) (C 1 _ u rfl rfl)
 case clear=>
  match ds,vs,hl,h,C with
  |[d],[v],_,h,C=>
   cases d with
   |rs i off n=>
    simp only[fE] at h;cases hi:m i with
    |none=>simp[hi] at h
    |some r=>
    cases r with
    |map es=>simp[hi] at h
    |raw es=>simp[hi] at h
    |bs u x T=>simp[hi] at h
    |ia f r=>simp[hi] at h
    |cells c e'=>
     simp only[hi,aH] at h;subst h;obtain⟨h1,h2,U⟩:=hp;exact YU hm (by simp at J;omega) (C 0 _ v rfl rfl) hi h1 h2 U
   |_=>simp[fE] at h
  |[],_,_,h,_=>simp[fE] at h
  |_::_::_,_,_,h,_=>simp[fE] at h
 case delete=>
  match ds,vs,hl,h,C with
  |[x,k],[v,u],_,h,C=>exact XH hm (by simp at J;omega) (C 0 x v rfl rfl) (C 1 k u rfl rfl) h hp
  |[],_,_,h,_=>simp[fE] at h
  |[_],_,_,h,_=>simp[fE] at h
  |_::_::_::_,_,_,h,_=>simp[fE] at h
 all_goals (simp[fE] at h)
theorem YW(hm:aK P F m β w){o:Oper}{env:Env}{a:Act}{e:dt}(hn:e.new=1->β nx=none)(hE:gI F β w env a)(ha:asks env o.op)(h:bd P o.op (aZ env o.op) m nx=some e)(hp:e.pre):
 aX P F m nx β w e (execOp a.eval o):=by
 obtain⟨dst,op,type,pos,after,guard⟩:=o;simp only at ha h
 have C:(∀ c x y,op≠ .pick c x y)->∀ x∈op.operands.toList,R F β w (aZ env op x) (a.eval x):=fun DY x hx=>by
  have h1:aZ env op x=(opd env x).core:=by cases op<;>first|rfl|exact absurd rfl (DY _ _ _)
  have h2:(opd env x).ask:=by cases op<;>first|exact ha x hx|exact absurd rfl (DY _ _ _)
  rw[h1];exact(hE.opd x).tD _ h2
 unfold execOp;cases op with
 |move x=>
  simp only[bd,aH] at h;subst h;exact aX.val hm oS (C oS x cF)
 |assign x=>
  simp only[bd,aH] at h;subst h;exact aX.val hm oS (C oS x cF)
 |pick c x y=>
  simp only[bd,aZ] at h;cases hc:(opd env c).core.eV with
  |none=>simp[hc] at h
  |some t=>
  simp only[hc,aH] at h;subst h
  have hcv:a.eval c=.bool t:=by
   have h1:=(hE.opd c).tD _ ha;unfold D.eV at hc;split at hc
   .rename_i b he;cases hc;rw[he] at h1;exact h1.cX.1
   .cases hc
  exact aas hm hcv (hE.opd x) (hE.opd y) hp.1 hp.2
 |alloc t=>
  simp only[bd,aH] at h;subst h;exact YQ hm (hn rfl) hp
 |box t x=>
  simp only[bd,aH] at h;subst h;exact ab2 hm (hn rfl) (C oS x cF) hp
 |build t ps=>
  simp only[bd] at h;obtain⟨q1,q2⟩:=Ri (F:=F) (β:=β) (w:=w) (ps:=ps) (ρ:=aZ env (.build t ps)) (a:=a) (fun x hx=>C oS x (by simpa[Op.operands] using hx));split at h
  .rename_i fs hu;cases hf:gF (fun i=>Option.map (fun f=>(f.offset,P.cellsOf f.type)) fs[i]?) (a7 P t) (ps.toList.map fun q=>(q.1,aZ env (.build t ps) q.2)) with
   |none=>simp[hf] at h
   |some cs=>
    simp only[hf,Option.map_some,aH] at h;subst h;exact V0 hm hp.1 hu hp.2 q1 q2 hf
  .rename_i n e' hu;cases hf:gF (fun i=>some (i*P.cellsOf e',P.cellsOf e')) (a7 P t) (ps.toList.map fun q=>(q.1,aZ env (.build t ps) q.2)) with
   |none=>simp[hf] at h
   |some cs=>
    simp only[hf,Option.map_some,aH] at h;subst h;exact Wf hm hp.1 hu hp.2 q1 q2 hf
  .cases h
 |buildSlice t n ps=>
  simp only[bd] at h;obtain⟨q1,q2⟩:=Ri (F:=F) (β:=β) (w:=w) (ps:=ps) (ρ:=aZ env (.buildSlice t n ps)) (a:=a) (fun x hx=>C oS x (by simpa[Op.operands] using hx));cases hf:gF (fun i=>some (i*P.cellsOf (aF P t),P.cellsOf (aF P t))) (dz n (a7 P (aF P t))) (ps.toList.map fun q=>(q.1,aZ env (.buildSlice t n ps) q.2)) with
  |none=>simp[hf] at h
  |some cs=>
   simp only[hf,Option.map_some,aH] at h;subst h;obtain⟨_,J,M,p4⟩:=hp;exact Wm hm (hn rfl) M J p4 q1 q2 hf
 |load t x=>
  have hx:=C oS x cF;simp only[bd] at h;split at h
  .rename_i cs he;rw[he] at hx;simp only[aH] at h;subst h;exact W9 hm hx hp.1 hp.2
  .rename_i i off he;rw[he] at hx;split at h
   .rename_i cs ty hi;simp only[aH] at h;subst h;exact Xa hm hx hi hp.1 hp.2
   .cases h
  .cases h
 |store t x y=>
  have hx:=C oS x cF;have hy:=C oS y cF;simp only[bd] at h;split at h
  .rename_i i off he;rw[he] at hx;split at h
   .rename_i cs ty hi;simp only[aH] at h;subst h;obtain⟨X,J,M,p4⟩:=hp;exact YP hm hx hy hi X J M p4
   .cases h
  .cases h
 |nilCheck x=>
  have hx:=C oS x cF;simp only[bd] at h;split at h
  .rename_i cs he;rw[he] at hx;simp only[aH] at h;subst h;obtain⟨ad,h1,h2⟩:=Wg (pre:=True) (nx:=nx) hm hx;simp only[h1] at h2 ⊢;exact h2
  .rename_i i off he;rw[he] at hx;split at h
   .rename_i r hi;simp only[aH] at h;subst h;obtain⟨ad,h1,h2⟩:=Wh (pre:=True) (nx:=nx) (rd:=[i]) hm hx hi;simp only[h1] at h2 ⊢;exact h2
   .cases h
  .cases h
 |binOp op t x y yt=>
  have hx:=C oS x cF;have hy:=C oS y cF;simp only[bd] at h;split at h
  .rename_i e' U;simp only[aH] at h;subst h;unfold mG at U;split at U
   .rename_i es n he;simp only[aH] at U;subst U;rw[he] at hx;exact XQ hm t x (.const (.slice none 0 0)) hx hp
   .rename_i i off he;split at U
    .rename_i r hi;simp only[aH] at U;subst U;rw[he] at hx;exact OF hm .eql t x _ hx hi hy hp (.inl ⟨rfl,rfl⟩)
    .cases U
   .rename_i i off he;split at U
    .rename_i r hi;simp only[aH] at U;subst U;rw[he] at hx;exact OF hm .neq t x _ hx hi hy hp (.inr ⟨rfl,rfl⟩)
    .cases U
   .cases U
  .unfold um at h;split at h
   .rename_i b1 b2 e1 e2;rw[e1] at hx;rw[e2] at hy;split at h
    .simp only[Option.map_some,aH] at h;subst h;exact Oc hm .eql t x y hx hy hp (.inl ⟨rfl,rfl⟩)
    .simp only[Option.map_some,aH] at h;subst h;exact Oc hm .neq t x y hx hy hp (.inr ⟨rfl,rfl⟩)
    .simp at h
   .rename_i v1 v2 _ e1 e2;rw[e1] at hx;rw[e2] at hy;cases hb:q9 op v1 v2 with
    |none=>simp[hb] at h
    |some q=>
     simp only[hb,Option.map_some,aH] at h;subst h;exact aao hm op t x y hx hy hb hp
   .rename_i xs ys e1 e2;rw[e1] at hx;rw[e2] at hy;cases hb:xx P op t xs ys with
    |none=>simp[hb] at h
    |some q=>
     simp only[hb,Option.map_some,aH] at h;subst h;exact YF hm x y hx hy hb hp
   .simp at h
 |unOp op t x=>
  have hx:=C oS x cF;simp only[bd] at h;split at h
  .rename_i v he;rw[he] at hx;cases hb:yN op v with
   |none=>simp[hb] at h
   |some q=>
    simp only[hb,Option.map_some,aH] at h;subst h;exact ab4 hm op hx hb
  .cases h
 |convert src dst x=>
  have hx:=C oS x cF;simp only[bd] at h;split at h
  .rename_i k k' n hd he;rw[he] at hx;simp only[aH] at h;subst h;exact WG hm src dst hx hd (zM hp)
  .rename_i e' b hd he;rw[he] at hx;split at h
   .rename_i gj;simp only[aH] at h;subst h;exact YT hm hx hp.1 hd gj hp.2
   .cases h
  .cases h
 |makeFunc f fs cs=>
  simp only[bd,aH] at h;subst h;obtain⟨q1,q2⟩:=Cs (F:=F) (β:=β) (w:=w) (xs:=fs) (ρ:=aZ env (.makeFunc f fs cs)) (a:=a) (fun x hx=>C oS x (by simp[Op.operands];exact .inl hx));obtain⟨q3,q4⟩:=Cs (F:=F) (β:=β) (w:=w) (xs:=cs) (ρ:=aZ env (.makeFunc f fs cs)) (a:=a) (fun x hx=>C oS x (by simp[Op.operands];exact .inr hx));have:=WH (pre:=True) (nx:=nx) hm f q1 q3 q2 q4;have e1:(fs.toList.map a.eval).toArray=fs.map a.eval:=by apply Array.ext';simp
  have e2:(cs.toList.map a.eval).toArray=cs.map a.eval:=by apply Array.ext';simp
  rw[e1,e2] at this;exact this
 |makeMap t r=>
  simp only[bd] at h;split at h
  .simp only[aH] at h;subst h;exact Xd hm (hn rfl)
  .cases h
 |makeSlice t l c=>
  have hx:=C oS l cF;have hy:=C oS c cF;simp only[bd] at h;split at h
  .rename_i n k e1 e2;rw[e1] at hx;rw[e2] at hy;simp only[aH] at h;subst h;obtain⟨X,J,M,p4,p5⟩:=hp;subst J;show aX P F m nx β w _ (do Pure.pure (Next.value (<- Instr.makeSlice t (a.eval l) (a.eval c))));rw[hx.cX.1,hy.cX.1];exact Wu hm (hn rfl) X M p4 p5
  .cases h
 |slice t x lo hi mx=>
  have hx:=C oS x cF;simp only[bd] at h;exact aX.of_eq (YS hm hx (Lw fun y hy=>C oS y (by simp[Op.operands,hy])) (Lw fun y hy=>C oS y (by simp[Op.operands,hy])) (Lw fun y hy=>C oS y (by simp[Op.operands,hy])) h hp)
 |fieldAddr t x k=>
  have hx:=C oS x cF;simp only[bd] at h;split at h
  .rename_i off ft cs hf he;rw[he] at hx;simp only[aH] at h;subst h;exact V' hm hx hf hp
  .rename_i off ft i o hf he;rw[he] at hx;split at h
   .rename_i r hi;simp only[aH] at h;subst h;exact Wa hm hx hi hf hp
   .cases h
  .cases h
 |field t x k=>
  have hx:=C oS x cF;simp only[bd] at h;split at h
  .rename_i off ft cs hf he;rw[he] at hx;simp only[aH] at h;subst h;exact YR hm hx hf hp.1 hp.2
  .cases h
 |indexAddr t x i=>
  have hx:=C oS x cF;have hy:=C oS i cF;simp only[bd] at h;split at h
  .rename_i es n kk k e1 e2;rw[e1] at hx;rw[e2] at hy;simp only[aH] at h;subst h;obtain⟨X,J,M,_⟩:=hp;exact Wb hm hx hy X J M
  .rename_i j off n kk k e1 e2;rw[e1] at hx;rw[e2] at hy;split at h
   .rename_i r hj;simp only[aH] at h;subst h;obtain⟨X,J,M⟩:=hp;exact Wc hm hx hj hy X J M
   .cases h
  .rename_i j off kk k e1 e2;rw[e1] at hx;rw[e2] at hy;split at h
   .rename_i r hj;simp only[aH] at h;subst h;obtain⟨X,J,M⟩:=hp;exact VZ hm hx hj hy X J M
   .cases h
  .cases h
 |index t x i=>
  have hx:=C oS x cF;have hy:=C oS i cF;simp only[bd] at h;split at h
  .rename_i b kk k e1 e2;rw[e1] at hx;rw[e2] at hy;simp only[aH] at h;subst h;obtain⟨X,J,M⟩:=hp;exact Wv hm hx hy X J M
  .rename_i cs kk k e1 e2;rw[e1] at hx;rw[e2] at hy;simp only[aH] at h;subst h;obtain⟨X,J,M,p4⟩:=hp;exact Ww hm hx hy X J M p4
  .cases h
 |lookup t x k ok=>exact XF hm (C oS x cF) (C oS k cF) (by simpa only[bd] using h) hp
 |mapUpdate t x k v=>exact OA hm (C oS x cF) (C oS k cF) (C oS v cF) (by simpa only[bd] using h) hp
 |insert t x k v=>exact OA hm (C oS x cF) (C oS k cF) (C oS v cF) (by simpa only[bd] using h) hp
 |extract x k=>
  have hx:=C oS x cF;simp only[bd] at h;split at h
  .rename_i cs e1;rw[e1] at hx;simp only[aH] at h;subst h;exact Xc hm hx hp
  .cases h
 |call c=>
  simp only[bd] at h;split at h
  .rename_i b hb;split at h
   .rename_i iT;obtain⟨q1,q2⟩:=Cs (F:=F) (β:=β) (w:=w) (xs:=c.args) (ρ:=aZ env (.call c)) (a:=a) (fun x hx=>C oS x (by simp[Op.operands,Call.operands,hb];exact hx));have:=Wy hm (b:=b) (ts:=c.argTypes) (ty:=type) (cs:=c.args.map fun | .const _=>true|_=>false) (e:=e) hn q1 q2 (by simpa using iT) h hp;obtain⟨n,v,w',β',h1,h2⟩:=this;refine⟨n,v,w',β',?_,h2⟩;simp only[resolve,hb,Sem.run_bind,Sem.run_pure,Result.andThen_ok,invoke];have e1:(c.args.toList.map a.eval).toArray=c.args.map a.eval:=by apply Array.ext';simp
    rw[<- e1];exact h1
   .cases h
  .cases h
 |_=>simp[bd] at h
end
section
variable{P:Program}{F F':Nat->Prop}{m:Mem}{nx:Nat}{β β':aE}{w w':World}
theorem R.lift{d:D}{v:Value}(h:R F gz w d v)(hf:∀ b,¬ F b->¬ F' b/\β.free b):R F' β w d v:=
 h.gen (bc _) (fun b _ h1 _=>⟨ku.refl w b,(hf b h1).2,(hf b h1).1⟩) fun i p _ hp=>by cases hp
theorem u6{b:Nat}(h:¬ owned F β b):¬ F b/\β.free b:=by
 unfold owned at h;have h1:¬ F b:=fun e=>h (.inl e);refine⟨h1,?_⟩;by_cases hb:β.free b
 .exact hb
 .exact absurd (.inr hb) h
theorem Z7(hm:aK P F m β w){b:Nat}(h:owned F β b):b<w.heap.size:=by
 rcases h with h|h
 .exact hm.fb.lt b h
 .unfold aE.free at h;simp only[Classical.not_forall] at h;obtain⟨i,p,hp,hb⟩:=h;exact hm.lt i p b hp (Decidable.not_not.1 hb)
theorem PT(hm:aK P F m β w):FB (owned F β) w:=hm.fb.next (fun b hb=>Z7 hm hb) (fun _ h=>.inl h) fun _ _ _=>rfl
theorem J7{d:D}{v:Value}(hs:d.gn=true)(h:R F β w d v):R F' β' w' d v:=by
 have aM:∀ cs:List D,(∀ d∈cs,∃ x,d=.s x)->R F β w (.aM cs) v->R F' β' w' (.aM cs) v:=fun cs hc h=>by
  obtain⟨vs,rfl,hl,hr⟩:=h.Cd;refine .aM cs vs hl fun k d u hk hu=>?_;obtain⟨x,rfl⟩:=hc d (bz hk);have:=(hr k _ u hk hu).cX;rw[this.1];exact .s x this.2
 unfold D.gn at hs;split at hs
 .rw[h.cX.1];exact .s _ h.cX.2
 .obtain⟨b,rfl⟩:=h.F5;exact .ub b
 .exact aM _ oS h
 .exact aM _ oS h
 .exact aM _ oS h
 .cases hs
theorem Pa(h:Kept w w'):Step β w β w':=zJ h.1 h.2.1 h.2.2
theorem aK.kept(hm:aK P F m β w)(h:Kept w w'):aK P F m β w':=hm.ext h.1 h.2.1 h.2.2
theorem Yy(hm:aK P F m β w){f:FuncId}{args:List D}{r:D}{vs:Array Value}(hc:aD P f args r)(C:Rs F β w args vs):
 Calls P f vs w fun e w'=>∃ v,e=.returned v/\R F β w' r v/\aK P F m β w'/\Step β w β w':=
 (hc.2.2 (owned F β) w vs (PT hm) ⟨C.1,fun k d v hd hv=>hc.2.1 d (bz hd) F β w v (C.2 k d v hd hv)⟩).mono
  fun e w' ⟨v,he,hr,hk⟩=>⟨v,he,hr.lift fun b hb=>u6 hb,hm.kept hk,Pa hk⟩
theorem CM{rds:List Nat}(C:∀ i∈rds,∀ r,m i=some r->∃ p,β i=some p/\cB P F β w r p/\∀ b,p.bG=some b->¬ F b):∀ {aS bs:List D},jr P rds m aS bs->aS.length=bs.length/\∀ (k:Nat) (a b:D),aS[k]? =some a->bs[k]? =some b->∀ v,R F β w a v->R F gz w b v
 |[],[],_=>⟨rfl,oS⟩
 |a::aS,b::bs,h=>by
  obtain⟨h1,h2⟩:=CM C h.2;refine⟨by simp[h1],fun k x y hx hy v hv=>?_⟩;cases k with
  |zero=>
   simp at hx hy;subst hx;subst hy;exact h.1 F β w v C hv
  |succ k=>exact h2 k x y (by simpa using hx) (by simpa using hy) v hv
 |[],_::_,h=>h.elim
 |_::_,[],h=>h.elim
theorem Yz(hm:aK P F m β w){f:FuncId}{args J:List D}{rds:List Nat}{C:Mem}{r:D}{vs:Array Value}(X:jr P rds C args J)(U:∀ i∈rds,C i≠none->m i=C i)(hc:aD P f J r)(hs:r.gn=true)(M:Rs F β w args vs):
 Calls P f vs w fun e w'=>∃ v,e=.returned v/\R F β w' r v/\aK P F m β w'/\Step β w β w':=by
 obtain⟨h1,h2⟩:=CM (P:=P) (F:=F) (β:=β) (w:=w) (fun i hi r hr=>by
  obtain⟨p,hp,aq⟩:=hm.row i r (by rw[U i hi (by simp[hr])];exact hr)
  exact⟨p,hp,aq,fun b hb=>hm.nf i p b hp hb⟩) X
 refine(hc.2.2 F w vs hm.fb ⟨by rw[M.1,h1],fun k d v hd hv=>?_⟩).mono fun e w' ⟨v,he,hr,hk⟩=>⟨v,he,J7 hs hr,hm.kept hk,Pa hk⟩
 have ah:k<args.length:=by rw[h1];exact(bM.1 hd).1
 exact h2 k args[k] d (by simp[ah]) hd v (M.2 k args[k] v (by simp[ah]) hv)
theorem Z8(hm:aK P F m β w)(hn:β nx=none){f:FuncId}{args es:List D}{n:Nat}{t:TypeId}{vs:Array Value}(hc:kv P f args es n t)(hR:Rs F β w args vs):
 Calls P f vs w fun e w'=>∃ v β',e=.returned v/\R F β' w' (.rs nx 0 n) v/\aK P F (up m nx (some (.cells es t))) β' w'/\Step β w β' w'/\∀ i,i≠nx->β' i=β i:=by
 refine(hc.2.2 (owned F β) w vs (PT hm) ⟨hR.1,fun k d v hd hv=>hc.2.1 d (bz hd) F β w v (hR.2 k d v hd hv)⟩).mono ?_;rintro e w' ⟨v,p,he,Ky,J,aq,hv,hk⟩;have fC:=hm.kept hk
 have hs:Step β w (up β nx (some p)) w':=by
  refine⟨hk.1,fun b hb hf=>⟨hk.2.1 b hb,fun i q hq=>?_⟩,fun i q hq=>.inl ?_,hk.2.2⟩
  .by_cases hi:i=nx
   .subst hi;rw[al] at hq;cases hq;intro e;have:=(J b e).1;omega
   .rw[aB _ _ hi] at hq;exact hf i q hq
  .rw[aB _ _ (fun e=>by rw[e,hn] at hq;cases hq)];exact hq
 have C:∀ i q b,up β nx (some p) i=some q->q.bG=some b->(i=nx/\q=p)\/(i≠nx/\β i=some q):=fun i q b hq _=>by
  by_cases hi:i=nx
  .subst hi;rw[al] at hq;cases hq;exact .inl ⟨rfl,rfl⟩
  .rw[aB _ _ hi] at hq;exact .inr ⟨hi,hq⟩
 have U:∀ b,¬ (owned F β b\/p.bG=some b)->¬ F b/\aE.free (up β nx (some p)) b:=fun b hb=>by
  have h1:=u6 (F:=F) (β:=β) (b:=b) (fun e=>hb (.inl e));refine⟨h1.1,fun i q hq e=>?_⟩;rcases C i q b hq e with⟨_,rfl⟩|⟨_,fm⟩
  .exact hb (.inr e)
  .exact h1.2 i q fm e
 have qW:cB P F (up β nx (some p)) w' (.cells es t) p:=by
  cases aq with
  |nil _=>exact .nil _
  |cells _ _ b o room sz c h1 h2 h3 h4 h5=>
   refine .cells es t b o room sz c h1 h2 h3 h4 fun k d hd=>?_;obtain⟨u,pq,pr,pu⟩:=h5 k d hd;exact⟨u,pq,pr.lift U,pu⟩
 refine⟨v,up β nx (some p),he,?_,?_,hs,fun i hi=>aB _ _ hi⟩
 .cases hv with
  |kG _ _ _ _ h _=>rw[al] at h;cases h;exact absurd rfl Ky
  |iO _ a h=>rw[al] at h;cases h;exact .iO nx a (al _ _ _)
  |jK _ _ a b o len room sz h=>rw[al] at h;cases h;exact .jK nx 0 a b o len room sz (al _ _ _)
  |rs _ _ _ cap b o len room sz h h1 h2 h3 h4=>rw[al] at h;cases h;exact .rs nx 0 n cap b o len room sz (al _ _ _) h1 h2 h3 h4
 .refine⟨fun i r hi=>?_,fun i j q q' b hq fm e M=>?_,fun i q b hq e=>?_,fun i q b hq e=>?_,fC.fb⟩
  .by_cases X:i=nx
   .subst X;rw[al] at hi;cases hi;exact⟨p,al _ _ _,qW⟩
   .rw[aB _ _ X] at hi;obtain⟨q,hq,Me⟩:=hm.row i r hi;exact⟨q,by rw[aB _ _ X];exact hq,Me.step hs fun b hb=>hk.2.1 b (hm.lt i q b hq hb)⟩
  .rcases C i q b hq e with⟨rfl,rfl⟩|⟨hi,h1⟩<;>rcases C j q' b fm M with⟨rfl,rfl⟩|⟨hj,h2⟩
   .rfl
   .have:=(J b e).1;have:=hm.lt j q' b h2 M;omega
   .have:=(J b M).1;have:=hm.lt i q b h1 e;omega
   .exact hm.inj i j q q' b h1 h2 e M
  .rcases C i q b hq e with⟨_,rfl⟩|⟨_,h1⟩
   .exact(J b e).2
   .exact fC.lt i q b h1 e
  .rcases C i q b hq e with⟨_,rfl⟩|⟨_,h1⟩
   .intro hF;have:=hm.fb.lt b hF;have:=(J b e).1;omega
   .exact hm.nf i q b h1 e
theorem Xt{o:Oper}{env:Env}{a:Act}{f:FuncId}{args:List D}(U:gI F β w env a)(ha:asks env o.op)(h:dI (aZ env o.op) o.op=some (f,args))(he:n3 P f=true):
 ∃ vs,(execOp a.eval o).run P w=.ok (.enter f vs) w/\Rs F β w args vs:=by
 obtain⟨dst,op,type,pos,after,guard⟩:=o;simp only at ha h;cases op with
 |call c=>
  simp only[dI] at h;have J:∀ x∈(Op.call c).operands.toList,R F β w (aZ env (.call c) x) (a.eval x):=fun x hx=>(U.opd x).tD _ (ha x hx);split at h
  .rename_i g hg;split at h
   .rename_i k fs cs hk;simp only[aH,bP] at h;obtain⟨rfl,rfl⟩:=h;have h1:=J g (by simp[Op.operands,Call.operands,hg]);rw[hk] at h1;obtain⟨q1,q2⟩:=Cs (F:=F) (β:=β) (w:=w) (xs:=c.args) (ρ:=aZ env (.call c)) (a:=a) (fun x hx=>J x (by simp[Op.operands,Call.operands];exact .inr hx));generalize hv:a.eval g=v at h1;cases h1 with
    |fn _ _ _ us vs hl ll hh M=>
    refine⟨us.toArray++c.args.map a.eval++vs.toArray,?_,?_,?_⟩
    .unfold execOp;simp only[resolve,hg,Sem.run_bind,hv,Deferred.ofValue,Sem.run_pure,Result.andThen_ok,invoke];unfold callFunc;unfold n3 at he;simp only[Sem.run_bind,run_program,Result.andThen_ok];split at he
     .rename_i fn ru;simp only[ba,Bool.not_eq_true'] at he
      have hb:fn.body.isNone=false:=by
       cases X:fn.body<;>simp_all
      rw[ru];simp only[he.1,hb,Bool.false_eq_true,if_false,Sem.run_pure]
     .cases he
    .simp[hl,ll]
    .intro j d u hd hu;simp only[List.append_assoc] at hd;simp only[Array.append_assoc] at hu;rcases Nat.lt_or_ge j fs.length with hj|hj
     .rw[List.getElem?_append_left hj] at hd;rw[Array.getElem?_append_left (by simpa[hl] using hj)] at hu;exact hh j d u hd (by simpa using hu)
     .rw[List.getElem?_append_right hj] at hd;rw[Array.getElem?_append_right (by simpa[hl] using hj)] at hu;simp only[List.size_toArray,hl] at hu;generalize j - fs.length=j' at hd hu;rcases Nat.lt_or_ge j' (c.args.toList.map (aZ env (.call c))).length with C|C
      .rw[List.getElem?_append_left C] at hd;rw[Array.getElem?_append_left (by simpa using C)] at hu;exact q2 j' d u hd (by simpa using hu)
      .rw[List.getElem?_append_right C] at hd;rw[Array.getElem?_append_right (by simpa using C)] at hu;exact M _ d u hd (by simpa using hu)
   .cases h
  .cases h
 |_=>simp[dI] at h
end
section
variable{P:Program}
theorem abV{o:Op}{ρ C:Operand->D}(h:∀ x∈o.operands,C x=ρ x)(m:Mem)(nx:Nat):bd P o C m nx=bd P o ρ m nx:=by
 have od:∀ ps:Array (Nat×Operand),(∀ x∈ps.map (·.2),C x=ρ x)->
  (ps.toList.map fun q=>(q.1,C q.2))=(ps.toList.map fun q=>(q.1,ρ q.2)):=fun ps hp=>
  List.map_congr_left fun p hm=>by
   obtain⟨i,x⟩:=p;simp only[hp x (Array.mem_map.2 ⟨(i,x),by simpa using hm,rfl⟩)]
 have args:∀ xs:Array Operand,(∀ x∈xs,C x=ρ x)->xs.toList.map C=xs.toList.map ρ:=fun xs hx=>
  List.map_congr_left fun x hm=>hx x (by simpa using hm)
 cases o with
 |call c=>
  simp only[bd];cases hc:c.callee with
  |builtin b=>simp only[args c.args fun x hx=>h x (by simp[Op.operands,Call.operands,hc,hx])]
  |_=>rfl
 |build t ps=>simp only[bd,od ps fun x hx=>h x (by simpa[Op.operands] using hx)]
 |buildSlice t n ps=>simp only[bd,od ps fun x hx=>h x (by simpa[Op.operands] using hx)]
 |makeFunc f fs cs=>simp only[bd,args fs fun x hx=>h x (by simp[Op.operands,hx]),args cs fun x hx=>h x (by simp[Op.operands,hx])]
 |slice t x lo hi J=>
  have e1:lo.map C=lo.map ρ:=by cases lo<;>simp_all[Op.operands]
  have e2:hi.map C=hi.map ρ:=by cases hi<;>simp_all[Op.operands]
  have e3:J.map C=J.map ρ:=by cases J<;>simp_all[Op.operands]
  simp only[bd,e1,e2,e3,h x cF]
 |makeMap t r=>cases r<;>simp_all[bd,Op.operands]
 |_=>first|rfl|(simp only[Op.operands] at h;simp only[bd];simp_all)
theorem B0{o:Op}{ρ C:Operand->D}(h:∀ x∈o.operands,C x=ρ x):dI C o=dI ρ o:=by
 cases o with
 |call c=>
  simp only[dI];cases hc:c.callee with
  |value f=>
   have e1:c.args.toList.map C=c.args.toList.map ρ:=List.map_congr_left fun x hm=>h x (by simp[Op.operands,Call.operands,hc];exact .inr (by simpa using hm));have e2:C f=ρ f:=h f (by simp[Op.operands,Call.operands,hc]);simp only[e1,e2]
  |_=>rfl
 |_=>rfl
theorem Q6{env env':Env}{x:Operand}(h:∀ t,x=.tmp t->env' t=env t):opd env' x=opd env x:=by
 cases x<;>simp_all[opd]
theorem xh{env env':Env}{o:Op}(h:∀ t,Operand.tmp t∈o.operands->env' t=env t):∀ x∈o.operands,aZ env' o x=aZ env o x:=fun x hx=>by
 have:=Q6 (env:=env) (env':=env') (x:=x) fun t ht=>h t (ht▸hx);unfold aZ;cases o<;>simp[this]
theorem xd{env env':Env}{o:Op}(h:∀ t,Operand.tmp t∈o.operands->env' t=env t):asks env' o=asks env o:=by
 have hh:∀ x∈o.operands,opd env' x=opd env x:=fun x hx=>Q6 fun t ht=>h t (ht▸hx)
 have hl:(∀ x∈o.operands.toList,(opd env' x).ask)=(∀ x∈o.operands.toList,(opd env x).ask):=by
  apply propext;constructor
  .intro hq x hx;rw[<- hh x (by simpa using hx)];exact hq x hx
  .intro hq x hx;rw[hh x (by simpa using hx)];exact hq x hx
 unfold asks;split
 .rw[hh _ cF]
 .exact hl
theorem NQ{m m':Mem}{sz:Nat}{d:D}{p:Prop}{rd:List Nat}{n:Nat}{cs:List D}(h:jx m sz d=some (p,rd,n,cs))(hr:∀ i∈rd,m' i=m i):jx m' sz d=some (p,rd,n,cs):=by
 unfold jx at*
 split at h
 .simpa using h
 .simpa using h
 .rename_i i off n';split at h
  .rename_i cs' e hm;simp only[aH,bP] at h;obtain⟨rfl,rfl,rfl,rfl⟩:=h;rw[hr i oS,hm]
  .cases h
 .cases h
theorem W0{m m':Mem}{t:TypeId}{x k:D}{ok:Bool}{e:dt}(h:n4 P m t x k ok=some e)(hr:∀ i∈e.rd,m' i=m i):n4 P m' t x k ok=some e:=by
 unfold n4 at*
 split at h
 .split at h
  .rename_i hm;cases h;rw[hr _ oS,hm]
  .cases h
 .exact h
 .exact h
 .cases h
theorem N8{m m':Mem}{t:TypeId}{x k v:D}{e:dt}(h:nh P m t x k v=some e)(hr:∀ i∈e.rd,m' i=m i):nh P m' t x k v=some e:=by
 unfold nh at*
 split at h
 .split at h
  .rename_i hm;cases h;rw[hr _ oS,hm]
  .cases h
 .cases h
theorem W2{m m':Mem}{t:TypeId}{x k:D}{e:dt}(h:rW P m t x k=some e)(hr:∀ i∈e.rd,m' i=m i):rW P m' t x k=some e:=by
 unfold rW at*
 split at h
 .split at h
  .rename_i hm;cases h;rw[hr _ oS,hm]
  .cases h
 .cases h
theorem abW{o:Op}{ρ:Operand->D}{m m':Mem}{nx:Nat}{e:dt}(h:bd P o ρ m nx=some e)(hr:∀ i∈e.rd,m' i=m i):bd P o ρ m' nx=some e:=by
 cases o with
 |call c=>
  simp only[bd] at h ⊢;split at h
  .rename_i b hb;split at h
   .rename_i M;rw[if_pos M];unfold fE at h ⊢;split at h
    .unfold nF at h ⊢;split at h<;>try exact h
     split at h
     .rename_i hm;cases h;rw[hr _ oS,hm]
     .cases h
    .split at h
     .unfold qP at h ⊢;simp only at h ⊢;split at h
      .cases h
      .rename_i hc;split at h
       .cases h;rw[NQ hc hr];simp_all
       .split at h
        .rename_i hm;cases h;rw[NQ hc fun i hi=>hr i (by simp[hi])];rw[hr _ oS,hm];simp_all
        .cases h
       .cases h
     .cases h
    .exact h
    .split at h
     .rename_i hm;cases h;rw[hr _ oS,hm]
     .cases h
    .exact W2 h hr
    .cases h
   .cases h
  .cases h
 |lookup t x k ok=>exact W0 h hr
 |mapUpdate t x k v=>exact N8 h hr
 |insert t x k v=>exact N8 h hr
 |slice t x lo hi U=>
  simp only[bd] at h ⊢;unfold mv at h ⊢;split at h
  .exact h
  .split at h
   .rename_i hm;split at h
    .cases h;rw[hr _ oS,hm]
    .cases h
   .cases h
  .exact h
  .cases h
 |binOp op t x y _=>
  simp only[bd] at h ⊢;split at h
  .rename_i J he;simp only[aH] at h;subst h
   have:mG P m' op t (ρ x) y=some J:=by
    unfold mG at he ⊢;split at he
    .exact he
    .split at he
     .rename_i hm;cases he;rw[hr _ oS,hm]
     .cases he
    .split at he
     .rename_i hm;cases he;rw[hr _ oS,hm]
     .cases he
    .cases he
   rw[this]
  .rename_i he;by_cases C:∃ i off,ρ x=.rp i off
   .obtain⟨i,off,e1⟩:=C;rw[e1] at h;simp[um] at h
   .have:mG P m' op t (ρ x) y=none:=by
     unfold mG at he ⊢;split at he
     .cases he
     .rename_i i off e1;exact absurd ⟨_,_,e1⟩ C
     .rename_i i off e1;exact absurd ⟨_,_,e1⟩ C
     .simp_all
    rw[this];exact h
 |_=>
  first
  |exact h
  |(simp only[bd] at h ⊢
    repeat' split at h
    all_goals first
     |(cases h;done)
     |exact h
     |(cases h;simp_all;done)
     |(simp_all;done))
end
end Go.Abs
namespace Go.Abs
open Go.ChangeShapes Go.WideShapes
inductive Sh
 |int (k:IntKind)
 |bool
 |str
 |sl (s:Sh)
 |unit
 |pair (a b:Sh)
def Sh.val:Sh->Type
 | .int _=>Int
 | .bool=>Bool
 | .str=>ByteArray
 | .sl s=>List s.val
 | .unit=>Unit
 | .pair a b=>a.val×b.val
def Sh.size:Sh->Nat
 | .unit=>0
 | .pair a b=>a.size+b.size
 |_=>1
def Sh.enc:(s:Sh)->s.val->List D
 | .int k,n=>[.s (.int k n)]
 | .bool,b=>[.s (.bool b)]
 | .str,b=>[.s (.string b)]
 | .sl s,l=>[.sl (List.flatMap s.enc l) (List.length l)]
 | .unit,_=>[]
 | .pair a b,x=>a.enc x.1++b.enc x.2
def Sh.rO:Sh->Bool
 | .int .u64=>false
 | .sl s=>s.rO
 | .pair a b=>a.rO&&b.rO
 |_=>true
def Sh.arg:(s:Sh)->s.val->D
 | .int k,n=>.s (.int k n)
 | .bool,b=>.s (.bool b)
 | .str,b=>.s (.string b)
 | .sl s,l=>.sl (List.flatMap s.enc l) (List.length l)
 | .unit,_=>.agg []
 | .pair a b,x=>.agg (a.enc x.1++b.enc x.2)
def Sh.ok:(s:Sh)->s.val->Prop
 | .int k,n=>(Lit.int k n).wf=true
 | .bool,_=>True
 | .str,b=>ByteArray.size b<=maxLen
 | .sl s,l=>∀ x:s.val,List.Mem x l->s.ok x
 | .unit,_=>True
 | .pair a b,x=>a.ok x.1/\b.ok x.2
theorem Sh.BW:∀ (s:Sh) (x:s.val),(s.enc x).length=s.size
 | .int _,_ | .bool,_ | .str,_ | .sl _,_ | .unit,_=>rfl
 | .pair a b,x=>by simp[Sh.enc,Sh.size,Sh.BW a,Sh.BW b]
section
variable(P:Program)
def wx(sh:TypeId->Option Sh):Nat->List Field->Option Sh
 |_,[]=>some .unit
 |off,f::fs=>if f.offset=off then match sh f.type,wx sh (off+P.cellsOf f.type) fs with
  |some a,some b=>some (.pair a b)
  |_,_=>none
  else none
def tg:Nat->TypeId->Option Sh
 |0,_=>none
 |n+1,t=>match P.underlying t with
  |some .bool=>if P.cellsOf t=1 then some .bool else none
  |some (.int k)=>if P.cellsOf t=1 then some (.int k) else none
  |some .string=>if P.cellsOf t=1 then some .str else none
  |some (.slice e)=>if P.cellsOf t=1/\0<P.cellsOf e then(tg n e).map .sl else none
  |some (.struct fs)=>match wx P (tg n) 0 fs.toList with
   |some s=>if s.size=P.cellsOf t then some s else none
   |none=>none
  |_=>none
end
section
variable{P:Program}{H:Type}{ec:TypeId×Value->H}{w:World}{base:Nat}{spare:Nat->Bool}{held:Bool}{F:Nat->Prop}
def Holds(F:Nat->Prop)(w:World)(ds:List D)(cs:List Value):Prop:=ds.length=cs.length/\∀ (k:Nat) (d:D) (u:Value),ds[k]? =some d->cs[k]? =some u->R F gz w d u/\u.oneCell'=true
theorem Holds.app{ds C:List D}{cs cs':List Value}(h:Holds F w ds cs)(h':Holds F w C cs'):Holds F w (ds++C) (cs++cs'):=by
 refine⟨by simp[h.1,h'.1],fun k d u hd hu=>?_⟩;by_cases hk:k<ds.length
 .rw[List.getElem?_append_left hk] at hd;rw[List.getElem?_append_left (by have:=h.1;omega)] at hu;exact h.2 k d u hd hu
 .rw[List.getElem?_append_right oG] at hd;rw[List.getElem?_append_right (by have:=h.1;omega), <- h.1] at hu;exact h'.2 (k - ds.length) d u hd hu
theorem Holds.one{d:D}{u:Value}(h:R F gz w d u)(h':u.oneCell'=true):Holds F w [d] [u]:=⟨rfl,fun k d' C hd hu=>by
 cases k with
 |zero=>simp at hd hu;subst hd hu;exact⟨h,h'⟩
 |succ k=>simp at hd⟩
theorem Holds.nil:Holds F w [] []:=⟨rfl,oS⟩
theorem QJ{sh:TypeId->Option Sh}{off:Nat}{s:Sh}(h:wx P sh off []=some s):s=.unit:=by
 simp only[wx,aH] at h;exact h.symm
theorem PK{sh:TypeId->Option Sh}{off:Nat}{f:Field}{fs:List Field}{s:Sh}(h:wx P sh off (f::fs)=some s):
 f.offset=off/\∃ a b,sh f.type=some a/\wx P sh (off+P.cellsOf f.type) fs=some b/\s=.pair a b:=by
 simp only[wx] at h;split at h
 .rename_i C;split at h
  .rename_i a b ha hb;simp only[aH] at h;exact⟨C,a,b,ha,hb,h.symm⟩
  .cases h
 .cases h
theorem Fb:∀ (n:Nat) (t:TypeId) (s:Sh),tg P n t=some s->s.size=P.cellsOf t
 |0,_,_,h=>by cases h
 |n+1,t,s,h=>by
  unfold tg at h;split at h
  .split at h
   .rename_i h1;simp only[aH] at h;subst h;exact h1.symm
   .cases h
  .split at h
   .rename_i h1;simp only[aH] at h;subst h;exact h1.symm
   .cases h
  .split at h
   .rename_i h1;simp only[aH] at h;subst h;exact h1.symm
   .cases h
  .split at h
   .rename_i h1;simp only[cU] at h;obtain⟨a,_,rfl⟩:=h;exact h1.1.symm
   .cases h
  .split at h
   .split at h
    .rename_i h1;simp only[aH] at h;subst h;exact h1
    .cases h
   .cases h
  .cases h
def Reads(P:Program)(F:Nat->Prop)(w:World)(sh:TypeId->Option Sh)(rd:TypeId->List Value->Option (DataW H×List MemPlace)):Prop:=
 ∀ t s cs x,sh t=some s->s.rO=true->cs.length=P.cellsOf t->rd t cs=some x->∃ v:s.val,s.ok v/\Holds F w (s.enc v) cs
theorem Ku:∀ (s:Sh) (x:s.val),s.rO=true->∀ d∈s.enc x,∀ n:Int,¬ R F gz w d (.int .u64 n)
 | .int k,x,h,d,hd,n,hr=>by
  simp only[Sh.enc,List.mem_singleton] at hd;subst hd;cases hr;cases h
 | .bool,x,h,d,hd,n,hr=>by
  simp only[Sh.enc,List.mem_singleton] at hd;subst hd;cases hr
 | .str,x,h,d,hd,n,hr=>by
  simp only[Sh.enc,List.mem_singleton] at hd;subst hd;cases hr
 | .sl s,x,h,d,hd,n,hr=>by
  simp only[Sh.enc,List.mem_singleton] at hd;generalize List.flatMap s.enc x=es at hd;generalize List.length x=k at hd;subst hd;cases hr
 | .unit,x,h,d,hd,n,hr=>by simp[Sh.enc] at hd
 | .pair a b,x,h,d,hd,n,hr=>by
  simp only[Sh.rO,ba] at h;simp only[Sh.enc,List.mem_append] at hd;rcases hd with hd|hd
  .exact Ku a x.1 h.1 d hd n hr
  .exact Ku b x.2 h.2 d hd n hr
def Di(F:Nat->Prop)(w:World):Prop:=∀ b o u,F b->w.cell? ⟨b,o,none⟩=some u->∃ n,u=.int .u64 n
theorem QK{sh:TypeId->Option Sh}{rd:TypeId->List Value->Option (DataW H×List MemPlace)}(hz:∀ t s,sh t=some s->s.size=P.cellsOf t)(h:Reads P F w sh rd){cs:List Value}:∀ (fs:List Field) (off:Nat) (s:Sh),wx P sh off fs=some s->s.rO=true->off+s.size<=cs.length->
 (∀ f∈fs,∃ x,rd f.type ((cs.drop f.offset).take (P.cellsOf f.type))=some x)->∃ v:s.val,s.ok v/\Holds F w (s.enc v) ((cs.drop off).take s.size)
 |[],off,s,hs,_,_,_=>by
  obtain rfl:=QJ hs;exact⟨(),trivial,by simp[Sh.enc,Sh.size,Holds]⟩
 |f::fs,off,s,hs,hn,hl,hr=>by
  obtain⟨X,a,b,ha,hb,rfl⟩:=PK hs;simp only[Sh.rO,ba] at hn;obtain⟨x,hx⟩:=hr f oS;have ll:off+(a.size+b.size)<=cs.length:=hl;have bC:=hz _ _ ha;rw[X] at hx;obtain⟨v,U,hv⟩:=h f.type a _ x ha hn.1 (by simp only[List.length_take,List.length_drop];omega) hx;rw[<- bC] at hb hv;obtain⟨J,C,M⟩:=QK hz h fs (off+a.size) b hb hn.2 oG fun g hg=>hr g (by simp[hg]);refine⟨(v,J),⟨U,C⟩,?_⟩;have:=hv.app M;show Holds F w (a.enc v++b.enc J) ((cs.drop off).take (a.size+b.size));rw[List.take_add,List.drop_drop];exact this
theorem I3{a:Addr}{n:Nat}{cs:List Value}(h:w.cells? base a n=some cs):cs.length=n/\∀ k,k<n->w.cell? (a.add k)=cs[k]? /\k<cs.length:=by
 unfold World.cells? at h;split at h
 .have hl:cs.length=n:=by simpa using mapM_some_length h
  exact⟨hl,fun k hk=>⟨mapM_some_get h k k (by simp[hk]),oG⟩⟩
 .cases h
theorem On{α β:Type}{p:Nat->α->β->Prop}:∀ (n:Nat) (l:Nat->α),(∀ i,i<n->∃ y,p i (l i) y)->∃ ys:List β,ys.length=n/\∀ i (h:i<n) y,ys[i]? =some y->p i (l i) y
 |0,_,_=>⟨[],rfl,fun i h=>by omega⟩
 |n+1,l,h=>by
  obtain⟨ys,h1,h2⟩:=On n l fun i hi=>h i oG;obtain⟨y,hy⟩:=h n oG;refine⟨ys++[y],by simp[h1],fun i hi z hz=>?_⟩;by_cases C:i<n
  .rw[List.getElem?_append_left oG] at hz;exact h2 i C z hz
  .have:i=n:=by omega
   subst this;rw[List.getElem?_append_right oG] at hz;simp[h1] at hz;subst hz;exact hy
theorem Jv{α:Type}{f:α->List D}{sz:Nat}(hs:∀ x,(f x).length=sz):∀ (l:List α) (i j:Nat),j<sz->(l.flatMap f)[i*sz+j]? =(l[i]?).bind fun x=>(f x)[j]?
 |[],i,j,_=>by simp
 |x::l,0,j,h=>by simp[List.getElem?_append_left (show j<(f x).length by rw[hs];exact h)]
 |x::l,i+1,j,h=>by
  rw[List.flatMap_cons,List.getElem?_append_right (by rw[hs,Nat.add_mul];omega)];have:(i+1)*sz+j - (f x).length=i*sz+j:=by rw[hs,Nat.add_mul];omega
  rw[this,Jv hs l i j h];simp
theorem J3(hF:Di F w):∀ (ed n:Nat),Reads P F w (tg P n) (DataW.trod ec P w base spare held ed)
 |ed,0,t,s,cs,x,h,_,_,_=>by cases h
 |ed,n+1,t,s,cs,x,h,rP,hl,hr=>by
  have bC:=Fb _ _ _ h;unfold tg at h;split at h
  .rename_i ht;split at h
   .simp only[aH] at h;subst h;obtain⟨b,rfl,_⟩:=DataW.trod_bool ht hr;exact⟨b,trivial,.one (.s _ rfl) rfl⟩
   .cases h
  .rename_i k ht;split at h
   .simp only[aH] at h;subst h;obtain⟨b,rfl,_,hw⟩:=DataW.trod_int ht hr;exact⟨b,hw,.one (.s _ rfl) rfl⟩
   .cases h
  .rename_i ht;split at h
   .simp only[aH] at h;subst h;obtain⟨b,rfl,_,hw⟩:=DataW.trod_string ht hr;exact⟨b,hw,.one (.s _ rfl) rfl⟩
   .cases h
  .rename_i e ht;split at h
   .rename_i hc;simp only[cU] at h;obtain⟨a,ha,rfl⟩:=h;have haz:=Fb _ _ _ ha;rcases DataW.trod_slice ht hr with⟨rfl,_⟩|⟨ad,len,cap,TH,rest,fl,rfl,rfl,_,hb,Vi,hm,hlen,ta,_,_⟩
    .exact⟨([]:List a.val),(fun x h=>nomatch h),.one (by exact .gg none 0) rfl⟩
    .have UJ:∀ i,i<len->∃ C:List Value,w.cells? base (ad.add (i*P.cellsOf e)) (P.cellsOf e)=some C/\∃ y,DataW.trod ec P w base spare held fl e C=some y:=fun i hi=>by
      have:=ta i hi;have hg:TH[i]? =some TH[i]:=by simp[hlen,hi]
      rw[hg,Option.bind_eq_some_iff] at this;obtain⟨C,h1,h2⟩:=this;exact⟨C,h1,_,h2⟩
     have DG:∀ i,i<len->∃ v:a.val,a.ok v/\∃ C,w.cells? base (ad.add (i*P.cellsOf e)) (P.cellsOf e)=some C/\Holds F w (a.enc v) C:=fun i hi=>by
      obtain⟨C,h1,y,h2⟩:=UJ i hi;obtain⟨v,X,hv⟩:=J3 hF fl n e a C y ha rP (I3 h1).1 h2;exact⟨v,X,C,h1,hv⟩
     obtain⟨vs,oF,HH⟩:=On (p:=fun(i:Nat) (_:Nat) (v:a.val)=>a.ok v/\∃ C,w.cells? base (ad.add (i*P.cellsOf e)) (P.cellsOf e)=some C/\Holds F w (a.enc v) C) len (fun i=>i) DG
     have akb:∀ x:a.val,x∈vs->a.ok x:=fun x hm=>by
      obtain⟨i,hx⟩:=ep hm;exact(HH i (by have:=(bM.1 hx).1;omega) x hx).1
     cases len with
     |zero=>
      have:vs=[]:=List.length_eq_zero_iff.1 oF;subst this;exact⟨([]:List a.val),(fun x h=>nomatch h),.one (by exact .gg _ cap) rfl⟩
     |succ l=>
      obtain⟨C,h0,_⟩:=UJ 0 oG;have NN:=(I3 h0).2 0 hc.2;simp only[Nat.zero_mul,Addr.add,if_true] at NN;obtain⟨b,o,sp⟩:=ad;have GK:∃ u,w.cell? ⟨b,o,sp⟩=some u:=⟨C[0],by rw[NN.1];simp[NN.2]⟩
      obtain⟨u0,J⟩:=GK;unfold World.cell? at J
      have jM:b<w.heap.size:=by
       cases hh:w.heap[b]? with
       |none=>rw[hh] at J;cases J
       |some x=>exact(Array.getElem?_eq_some_iff.1 hh).1
      have hsp:sp=none:=by
       cases sp with
       |none=>rfl
       |some q=>
        simp only at J;split at J
        .simp at J
        .cases J
      subst hsp
      have akc:∀ i j,((⟨b,o,none⟩:Addr).add i).add j=⟨b,o+(i+j),none⟩:=fun i j=>by
       unfold Addr.add;split<;>split<;>simp_all;omega
      have hk:∀ k d,(vs.flatMap a.enc)[k]? =some d->∃ u,w.cell? ⟨b,o+k,none⟩=some u/\R F gz w d u/\u.oneCell'=true:=fun k d hd=>by
       have U:0<a.size:=by omega
       have yQ:k / a.size*a.size+k % a.size=k:=by rw[Nat.mul_comm];exact Nat.div_add_mod k a.size
       have D':=Nat.mod_lt k U;rw[<- yQ,Jv a.BW _ _ _ D',Option.bind_eq_some_iff] at hd;obtain⟨x,hx,hd⟩:=hd
       have hi:k / a.size<l+1:=by
        have:=(bM.1 hx).1;omega
       obtain⟨_,C,HR,hho⟩:=HH _ hi x hx;obtain⟨h1,h2⟩:=(I3 HR).2 (k % a.size) oG;rw[akc, <- haz,yQ] at h1;refine⟨C[k % a.size],by rw[h1];simp[h2],hho.2 _ d _ hd (by simp[h2])⟩
      have oK:¬ F b:=fun hb=>by
       obtain⟨x0,Bt⟩:∃ x0,vs[0]? =some x0:=⟨_,a8 (show 0<vs.length by omega)⟩
       have U:0<a.size:=by omega
       obtain⟨M,ln⟩:∃ M,(vs.flatMap a.enc)[0]? =some M:=by
        have:=Jv a.BW vs 0 0 U;rw[Nat.zero_mul,Nat.zero_add,Bt] at this;rw[this];exact⟨_,a8 (by rw[a.BW];exact U)⟩
       obtain⟨u,h1,h2,_⟩:=hk 0 M ln;obtain⟨q,rfl⟩:=hF _ _ _ hb h1;obtain⟨x1,D2,rF⟩:=List.mem_flatMap.1 (bz ln);exact Ku a x1 rP M rF q h2
      refine⟨vs,fun x h=>akb x h,.one (by
       have U1:(List.length vs)=l+1:=oF;show R _ _ _ (.sl (List.flatMap a.enc vs) (List.length vs)) _;rw[U1];refine .sl _ _ b o cap (fun k=>(w.cell? ⟨b,o+k,none⟩).getD undef) oK (fun _ _ h=>by cases h) jM Vi hm (fun k gM=>?_) fun k d hd=>?_
       .obtain⟨u,h1,_,h3⟩:=hk k _ (a8 gM);simp[h1,h3]
       .obtain⟨u,h1,h2,_⟩:=hk k d hd
        simpa[h1] using h2) rfl⟩
   .cases h
  .rename_i fs ht;obtain⟨xs,fl,rfl,_,_,wG,yP⟩:=DataW.trod_struct ht hr;split at h
   .rename_i s' cK;split at h
    .rename_i hs;simp only[aH] at h;subst h
     obtain⟨v,X,hv⟩:=QK (P:=P) (w:=w) (fun t s=>Fb n t s) (J3 hF fl n) (cs:=cs) fs.toList 0 s' cK rP oG fun f hf=>by
      obtain⟨i,hi,rfl⟩:=Array.getElem_of_mem (Array.mem_toList_iff.1 hf);have:=yP i fs[i] (by simp[hi]);exact⟨xs[i],by rw[this];simp[wG,hi]⟩
     refine⟨v,X,?_⟩;rw[List.drop_zero,dv oG] at hv;exact hv
    .cases h
   .cases h
  .cases h
theorem agU(hF:Di F w){r:Reach}{b0:Nat}{t:TypeId}{v:Value}{d:DataW H}{ps:List MemPlace}{n:Nat}{s:Sh}(hs:tg P n t=some s)(rP:s.rO=true)(hv:Value.okWide P w r b0 t v)(hd:DataW.Trod ec P w base spare held t v d ps):
 ∃ x:s.val,s.ok x/\R F gz w (s.arg x) v:=by
 cases n with
 |zero=>cases hs
 |succ n=>
  obtain⟨ed,hf⟩:=hd;have hz:=Fb _ _ _ hs;have key:v.cells.toList.length=P.cellsOf t->∃ x:s.val,s.ok x/\Holds F w (s.enc x) v.cells.toList:=fun hl=>J3 hF ed (n+1) t s _ _ hs rP hl hf;unfold tg at hs;split at hs
  .rename_i ht;obtain⟨b,rfl⟩:=okWide_bool ht hv;split at hs
   .simp only[aH] at hs;subst hs;exact⟨b,trivial,.s _ rfl⟩
   .cases hs
  .rename_i k ht;obtain⟨b,rfl⟩:=okWide_int ht hv;split at hs
   .simp only[aH] at hs;subst hs;obtain⟨c,hc,_,J⟩:=DataW.trod_int ht hf;simp[Value.cells] at hc;subst hc;exact⟨b,J,.s _ rfl⟩
   .cases hs
  .rename_i ht;obtain⟨b,rfl⟩:=okWide_string ht hv;split at hs
   .simp only[aH] at hs;subst hs;obtain⟨c,hc,_,J⟩:=DataW.trod_string ht hf;simp[Value.cells] at hc;subst hc;exact⟨b,J,.s _ rfl⟩
   .cases hs
  .rename_i e ht;obtain⟨a,len,cap,rfl⟩:=okWide_slice ht hv;split at hs
   .rename_i h1;simp only[cU] at hs;obtain⟨q,_,rfl⟩:=hs;obtain⟨x,M,hx⟩:=key h1.1.symm;exact⟨x,M,(hx.2 0 _ _ rfl rfl).1⟩
   .cases hs
  .rename_i fs ht;obtain⟨cs,rfl,bC⟩:=okWide_struct ht hv;obtain⟨x,M,hx⟩:=key (by simpa[Value.cells] using bC);refine⟨x,M,?_⟩
   have ha:s.arg x=.agg (s.enc x):=by
    split at hs
    .rename_i s' C;split at hs
     .simp only[aH] at hs;subst hs;cases U:fs.toList with
      |nil=>
       rw[U] at C;obtain rfl:=QJ C;rfl
      |cons f X=>
       rw[U] at C;obtain⟨_,a,b,_,_,rfl⟩:=PK C;rfl
     .cases hs
    .cases hs
   rw[ha];have:=hx.1;simp only[Value.cells] at this hx;have e:cs=cs.toList.toArray:=by simp
   rw[e];exact .agg _ cs.toList this.symm fun k d v h1 h2=>(hx.2 k d v h1 h2).1
  .cases hs
theorem Jw{α β:Type}(f:α->β):∀ l:List α,(l.flatMap fun x=>[f x])=l.map f
 |[]=>rfl
 |x::l=>by rw[List.flatMap_cons,Jw f l];rfl
theorem O1{α β γ:Type}{f:α->List γ}{g:β->List γ}{h:α->β}(he:∀ x,f x=g (h x)):∀ l:List α,l.flatMap f=(l.map h).flatMap g
 |[]=>rfl
 |x::l=>by rw[List.flatMap_cons,List.map_cons,List.flatMap_cons,he,O1 he l]
end
end Go.Abs
namespace Go.Abs
abbrev Fe(r:Option Nat):Fence:={ fn:=fun _=>True,depth:=none,alive:=false,round:=r }
theorem I7{r:Option Nat}{n:Nat}{P:Program}{f:FuncId}{args:Array Value}{w:World}{R:Ending->World->Prop}(h:Calls P f args w R):CallsIn (Fe r) n P f args w R:=
 (callsIn_wide.2 h:CallsIn Fence.wide n P f args w R)
def pU(r:Option Nat)(n:Nat)(P:Program)(ops:Array Oper)(C:Exit->Act->World->Prop)(o:Oper)(K:Act->World->Prop)(a:Act)(w:World):Prop:=
 if Region.wanted o (yielded ops a.tmps) then o.wpIn (Fe r) n P a w K C else(∀ f,o.about P w a.eval=some f->(Fe r).fn f)/\K (a.put o.dst undef) w
section
variable{P:Program}{ops:Array Oper}
theorem Ie{r:Option Nat}{n:Nat}{C:Exit->Act->World->Prop}{i:Nat}{o:Oper}(hi:ops[i]? =some o){K:Act->World->Prop}{a:Act}{w:World}(h:pU r n P ops C o K a w):
 wpOpIn (Fe r) n P ops C i K a w:=by
 unfold wpOpIn;simp only[hi];exact h
structure dj where
 val:D
 aT:List (Nat×Option Row):=[]
 rd:List Nat:=[]
 new:Nat:=0
def dj.wr(p:dj):List Nat:=p.aT.map (·.1)
def dj.Ok(P:Program)(ops:Array Oper)(o:Oper)(st:St)(p:dj):Prop:=
 ∀ (F:Nat->Prop) (β:aE) (w:World) (a:Act) (m:Mem) (env:Env) (N:Nat),(∀ t∈o.looksAt ops,env t=st.env t)->gI F β w env a->aK P F m β w->
  (∀ i∈p.rd,st.mem i≠none->m i=st.mem i)->(∀ i,st.nx<=i->i<st.nx+p.new->β i=none)->(∀ i,N<=i->β i=none)->
  ∀ (r:Option Nat) (n:Nat) (C:Exit->Act->World->Prop) (K:Act->World->Prop),
   (∀ v w' β',R F β' w' p.val v->aK P F (cH m p.aT) β' w'->Step β w β' w'->(∀ i,β i=none->(i<st.nx\/st.nx+p.new<=i)->β' i=none)->K (a.put o.dst v) w')->
   pU r n P ops C o K a w
structure dj.sL(p:dj)(k:Nat)(st:St):Prop where
 wr:∀ i∈p.wr,st.mem i≠none\/(st.nx<=i/\i<st.nx+p.new)
 k0:k=0->p.rd=[]/\p.aT=[]
 k1:k=1->p.aT=[]
 k3:k=3->p.rd=[]/\∀ i∈p.wr,st.nx<=i
theorem Ki{r:Option Nat}{o:Oper}(h:∀ c,o.op≠ .defer c)(ρ:Operand->Value):o.semAt r ρ=execOp ρ o:=Oper.semAt_eq r ρ o h
theorem ab6{F:Nat->Prop}{β:aE}{w:World}{env:Env}{a:Act}(J:gI F β w env a){j t:Nat}{b c:Bool}(ht:(ops[j]?).bind (·.dst)=some t)(hc:jV (env t) b=some c):
 (yielded ops a.tmps j==some b)=c:=by
 have h:=J t
 have hy:yielded ops a.tmps j=match a.tmps[t]? with|some (.bool b)=>some b|_=>none:=by
  unfold yielded;rw[ht];rfl
 have hq:∀ x:Value,a.tmps.getD t undef=x->x≠undef->a.tmps[t]? =some x:=fun x hx C=>by
  simp only[Array.getD_eq_getD_getElem?] at hx;cases hg:a.tmps[t]? with
  |none=>rw[hg] at hx;exact absurd hx.symm C
  |some y=>rw[hg] at hx;simpa using hx
 have hf:∀ {d:D},R F β w (.cw false d) (a.tmps.getD t undef)->c=false->(yielded ops a.tmps j==some b)=c:=fun {d} h M=>by
  generalize hv:a.tmps.getD t undef=v at h;cases h with
  |cw _ _ _ h1 h2=>
   have:=h2 rfl;rw[hy,M];simp only[Array.getD_eq_getD_getElem?] at hv;cases hg:a.tmps[t]? with
   |none=>simp
   |some y=>
    rw[hg] at hv;simp only[Option.getD_some] at hv;rw[hv,this];simp[undef]
 unfold jV at hc;split at hc
 .rename_i g U e;rw[e] at h;have:=h.cX.1;rw[hy,hq _ this (by simp[undef])];simpa using hc
 .rename_i _ c1 d e;rw[e] at h;cases c1 with
  |false=>
   refine hf h ?_;split at hc<;>simpa using hc.symm
  |true=>
   split at hc
   .generalize hv:a.tmps.getD t undef=v at h;cases h with
    |cw _ _ _ h1 h2=>
     have:=(h1 rfl).cX.1;rw[hy,hq _ (hv.trans this) (by simp[undef])];simpa using hc
   .simp at hc
 .cases hc
end
section
variable{P:Program}{ops:Array Oper}{o:Oper}{st:St}
theorem Wz{m:Mem}{sz:Nat}{d:D}{p:Prop}{rd:List Nat}{n:Nat}{cs:List D}(h:jx m sz d=some (p,rd,n,cs)):∀ i∈rd,m i≠none:=by
 unfold jx at h;split at h
 .cases h;simp
 .cases h;simp
 .split at h
  .rename_i hm;cases h;simp[hm]
  .cases h
 .cases h
theorem NY{m:Mem}{t:TypeId}{x k:D}{ok:Bool}{e:dt}(h:n4 P m t x k ok=some e):e.aT=[]/\e.new=0/\∀ i∈e.rd,m i≠none:=by
 unfold n4 at h;split at h
 .split at h
  .rename_i hm;cases h;simp[hm]
  .cases h
 .cases h;simp
 .cases h;simp
 .cases h
theorem Es{m:Mem}{t:TypeId}{x k v:D}{e:dt}(h:nh P m t x k v=some e):(∀ i∈e.aT.map (·.1),m i≠none)/\∀ i∈e.rd,m i≠none:=by
 unfold nh at h;split at h
 .split at h
  .rename_i hm;cases h;simp[hm]
  .cases h
 .cases h
theorem NZ{m:Mem}{t:TypeId}{x k:D}{e:dt}(h:rW P m t x k=some e):(∀ i∈e.aT.map (·.1),m i≠none)/\∀ i∈e.rd,m i≠none:=by
 unfold rW at h;split at h
 .split at h
  .rename_i hm;cases h;simp[hm]
  .cases h
 .cases h
theorem Qd{op:Op}{ρ:Operand->D}{m:Mem}{nx:Nat}{e:dt}(h:bd P op ρ m nx=some e):
 (∀ i∈e.aT.map (·.1),m i≠none\/(nx<=i/\i<nx+e.new))/\(cY op=0->e.rd=[]/\e.aT=[])/\(cY op=1->e.aT=[])/\(cY op=3->e.rd=[]/\∀ i∈e.aT.map (·.1),nx<=i):=by
 cases op with
 |call c=>
  have h0:(∀ i∈e.aT.map (·.1),m i≠none\/(nx<=i/\i<nx+e.new))/\(c.callee=.builtin .len->e.aT=[])/\(c.callee=.builtin .min->e.rd=[]/\e.aT=[]):=by
   simp only[bd] at h;split at h
   .rename_i b hb;split at h
    .unfold fE at h;split at h
     .refine⟨?_,fun _=>?_,fun hx=>(by rw[hx] at hb;cases hb)⟩<;>
      .unfold nF at h;split at h<;>first|(cases h;simp;done)|skip
       all_goals first|(cases h;done)|skip
       all_goals (split at h<;>first|(cases h;simp;done)|(cases h;done))
     .refine⟨?_,fun hx=>(by rw[hx] at hb;cases hb),fun hx=>(by rw[hx] at hb;cases hb)⟩;split at h
      .unfold qP at h;simp only at h;split at h
       .cases h
       .rename_i hc;split at h
        .cases h;simp
        .split at h
         .rename_i hm;cases h;intro i hi;simp only[List.map_cons,List.map_nil,List.mem_cons,List.not_mem_nil,or_false] at hi;rcases hi with rfl|rfl
          .left;simp[hm]
          .right;simp
         .cases h
        .cases h
      .cases h
     .cases h;refine⟨oS,fun _=>rfl,fun _=>⟨rfl,rfl⟩⟩
     .refine⟨?_,fun hx=>(by rw[hx] at hb;cases hb),fun hx=>(by rw[hx] at hb;cases hb)⟩;split at h
      .rename_i hm;cases h;simp[hm]
      .cases h
     .exact⟨fun i hi=>.inl ((NZ h).1 i hi),fun hx=>(by rw[hx] at hb;cases hb),fun hx=>(by rw[hx] at hb;cases hb)⟩
     .cases h
    .cases h
   .cases h
  refine⟨h0.1,fun hk=>?_,fun hk=>?_,fun hk=>?_⟩
  .unfold cY at hk;split at hk<;>first|(cases hk;done)|skip
   all_goals first|(rename_i hx;injection hx with hx;subst hx;exact h0.2.2 rfl)|(simp_all;done)
  .unfold cY at hk;split at hk<;>first|(cases hk;done)|skip
   all_goals first|(rename_i hx;injection hx with hx;subst hx;exact h0.2.1 rfl)|(simp_all;done)
  .unfold cY at hk;split at hk<;>first|(cases hk;done)|skip
   all_goals simp_all
 |binOp op t x y _=>
  simp only[bd] at h;split at h
  .rename_i C he;simp only[aH] at h;subst h
   have h0:C.aT=[]/\(op=.eql\/op=.neq):=by
    unfold mG at he;split at he
    .cases he;exact⟨rfl,.inl rfl⟩
    .split at he
     .cases he;exact⟨rfl,.inl rfl⟩
     .cases he
    .split at he
     .cases he;exact⟨rfl,.inr rfl⟩
     .cases he
    .cases he
   refine⟨by simp[h0.1],fun hk=>?_,fun _=>h0.1,fun hk=>?_⟩
   .rcases h0.2 with rfl|rfl<;>simp[cY] at hk
   .rcases h0.2 with rfl|rfl<;>simp[cY] at hk
  .cases hb:um P op t (ρ x) (ρ y) with
   |none=>rw[hb] at h;cases h
   |some r=>rw[hb] at h;cases h;simp
 |lookup t x k ok=>
  have:=NY h;refine⟨by simp[this.1],fun hk=>?_,fun _=>this.1,fun hk=>?_⟩<;>simp[cY] at hk
 |mapUpdate t x k v=>
  refine⟨fun i hi=>.inl ((Es h).1 i hi),fun hk=>?_,fun hk=>?_,fun hk=>?_⟩<;>simp[cY] at hk
 |insert t x k v=>
  refine⟨fun i hi=>.inl ((Es h).1 i hi),fun hk=>?_,fun hk=>?_,fun hk=>?_⟩<;>simp[cY] at hk
 |slice t x lo hi J=>
  have h0:e.aT=[]:=by
   simp only[bd] at h;unfold mv at h
   repeat' split at h
   all_goals first|(cases h;done)|(cases h;rfl)
  refine⟨by simp[h0],fun hk=>?_,fun _=>h0,fun hk=>?_⟩<;>simp[cY] at hk
 |_=>
  first
  |(simp only[bd] at h;cases h;simp[cY];done)
  |(simp only[bd] at h
    repeat' split at h
    all_goals first
     |(cases h;done)
     |(cases h;simp_all[cY];done)
     |(simp only[cU] at h;obtain⟨x,hx,rfl⟩:=h;simp[cY];done))
def iD(ops:Array Oper)(o:Oper)(st:St)(c:Bool):Prop:=
 ∀ (F:Nat->Prop) (β:aE) (w:World) (a:Act) (env:Env),(∀ t∈o.looksAt ops,env t=st.env t)->gI F β w env a->Region.wanted o (yielded ops a.tmps)=c
theorem OH(h:o.guard=none):iD ops o st true:=fun _ _ _ _ _ _ _=>by simp[Region.wanted,h]
theorem XT{j t:Nat}{b c:Bool}(h:o.guard=some (j,b))(ht:(ops[j]?).bind (·.dst)=some t)(hc:jV (st.env t) b=some c):iD ops o st c:=fun F β w a env he C=>by
 have:=he t (by simp[Oper.looksAt,h,ht]);rw[<- this] at hc;have h1:=ab6 C ht hc;simpa[Region.wanted,h] using h1
theorem w8{env:Env}(he:∀ t∈o.looksAt ops,env t=st.env t):∀ t,Operand.tmp t∈o.op.operands->env t=st.env t:=fun t ht=>
 he t (List.mem_append_left _ (List.mem_filterMap.2 ⟨.tmp t,by simpa using ht,rfl⟩))
theorem Rj(M:iD ops o st false)(d:D)(hd:∀ F β w,R F β w d undef):dj.Ok P ops o st ⟨d,[],[],0⟩:=by
 intro F β w a m env N he C hm hr hn X r n U K J;unfold pU;rw[M F β w a env he C,if_neg oS];exact⟨fun _ _=>trivial,J undef w β (hd F β w) hm (Step.refl β w) fun _ h _=>h⟩
theorem R8{c:Bool}{d:D}{rd:List Nat}(X:iD ops o st c)(h:c=true->dj.Ok P ops o st ⟨d,[],rd,0⟩):dj.Ok P ops o st ⟨.cw c d,[],rd,0⟩:=by
 intro F β w a m env N he J hm hr hn U r n C K M;cases c with
 |true=>exact h rfl F β w a m env N he J hm hr hn U r n C K fun v w' β' h1=>M v w' β' (.cw true d v (fun _=>h1) oS)
 |false=>
  have:=Rj (P:=P) X (.cw false d) fun F β w=>.cw false d undef oS fun _=>rfl;exact this F β w a m env N he J hm oS hn U r n C K M
theorem Rc{F:Nat->Prop}{m:Mem}{nx:Nat}{β:aE}{w:World}{a:Act}{e:dt}(dZ:∀ c,o.op≠ .defer c)(hw:Region.wanted o (yielded ops a.tmps)=true)(h:aX P F m nx β w e (execOp a.eval o))
 {r:Option Nat} {n:Nat} {QX:Exit->Act->World->Prop} {K:Act->World->Prop}
 (X:∀ v w' β',R F β' w' e.val v->aK P F (cH m e.aT) β' w'->Step β w β' w'->(∀ i,β i=none->(i<nx\/nx+e.new<=i)->β' i=none)->K (a.put o.dst v) w'):
 pU r n P ops QX o K a w:=by
 obtain⟨wF,v,w',β',h1,h2,C,J,M,U⟩:=h;unfold pU;rw[hw,if_pos rfl];refine⟨fun _ _=>trivial,?_⟩;rw[Ki dZ,h1];rcases h2 with rfl|⟨rfl,rfl⟩
 .exact X v w' β' C J M U
 .exact X undef w' β' C J M U
theorem YX{op:Op}{ρ:Operand->D}{m:Mem}{nx:Nat}{e:dt}(h:bd P op ρ m nx=some e):∀ c,op≠ .defer c:=fun c hc=>by
 subst hc;simp[bd] at h
theorem Xe{op:Op}{ρ:Operand->D}{x:FuncId×List D}(h:dI ρ op=some x):∀ c,op≠ .defer c:=fun c hc=>by
 subst hc;simp[dI] at h
theorem adi{op:Op}{ρ:Operand->D}{m:Mem}{nx:Nat}{e:dt}(h:bd P op ρ m nx=some e):∀ i∈e.rd,m i≠none:=by
 cases op with
 |call c=>
  simp only[bd] at h;split at h
  .split at h
   .unfold fE at h;split at h
    .unfold nF at h;split at h<;>first|(cases h;simp;done)|skip
     all_goals first|(cases h;done)|skip
     all_goals (split at h<;>first|(rename_i hm;cases h;simp[hm];done)|(cases h;done))
    .split at h
     .unfold qP at h;simp only at h;split at h
      .cases h
      .rename_i hc;have h1:=Wz hc;split at h
       .cases h;exact h1
       .split at h
        .rename_i hm;cases h;intro i hi;simp only[List.mem_cons] at hi;rcases hi with rfl|hi
         .simp[hm]
         .exact h1 i hi
        .cases h
       .cases h
     .cases h
    .cases h;simp
    .split at h
     .rename_i hm;cases h;simp[hm]
     .cases h
    .exact(NZ h).2
    .cases h
   .cases h
  .cases h
 |binOp op t x y _=>
  simp only[bd] at h;split at h
  .rename_i C he;simp only[aH] at h;subst h;unfold mG at he;split at he
   .cases he;simp
   .split at he
    .rename_i hm;cases he;simp[hm]
    .cases he
   .split at he
    .rename_i hm;cases he;simp[hm]
    .cases he
   .cases he
  .cases hb:um P op t (ρ x) (ρ y) with
   |none=>rw[hb] at h;cases h
   |some r=>rw[hb] at h;cases h;simp
 |lookup t x k ok=>exact(NY h).2.2
 |mapUpdate t x k v=>exact(Es h).2
 |insert t x k v=>exact(Es h).2
 |slice t x lo hi J=>
  simp only[bd] at h;unfold mv at h
  repeat' split at h
  all_goals first|(cases h;done)|(cases h;simp_all;done)
 |_=>
  first
  |(simp only[bd] at h;cases h;simp;done)
  |(simp only[bd] at h
    repeat' split at h
    all_goals first
     |(cases h;done)
     |(cases h;simp_all;done)
     |(simp only[cU] at h;obtain⟨x,hx,rfl⟩:=h;simp;done))
theorem aat{op:Op}{ρ:Operand->D}{m m':Mem}{nx:Nat}{e:dt}(h:bd P op ρ m nx=some e)(hr:∀ i∈e.rd,m i≠none->m' i=m i):bd P op ρ m' nx=some e:=
 abW h fun i hi=>hr i hi (adi h i hi)
theorem R9{e:dt}(U:iD ops o st true)(ha:asks st.env o.op)(h:bd P o.op (aZ st.env o.op) st.mem st.nx=some e)(hp:e.pre):dj.Ok P ops o st ⟨e.val,e.aT,e.rd,e.new⟩:=by
 intro F β w a m env N he J hm hr hn hN r n X K M;have C:=w8 he;refine Rc (m:=m) (nx:=st.nx) (β:=β) (F:=F) (YX h) (U F β w a env he J) (YW hm (fun h1=>hn st.nx (bc _) (by simp[h1])) J (by rw[xd C];exact ha) ?_ hp) M;rw[abV (xh C)];exact aat h hr
theorem zN{F:Nat->Prop}{β:aE}{w:World}{a:Act}{env:Env}{f:FuncId}{args:List D}(U:Region.wanted o (yielded ops a.tmps)=true)(J:gI F β w env a)(ha:asks env o.op)
 (h:dI (aZ env o.op) o.op=some (f,args)) (he:n3 P f=true) {r:Option Nat} {n:Nat} {C:Exit->Act->World->Prop} {K:Act->World->Prop}
 (M:∀ vs,Rs F β w args vs->Calls P f vs w fun e w'=>∃ v,e=.returned v/\K (a.put o.dst v) w'):pU r n P ops C o K a w:=by
 obtain⟨vs,h1,h2⟩:=Xt (F:=F) (β:=β) (w:=w) J ha h he;unfold pU;rw[U,if_pos rfl];refine⟨fun _ _=>trivial,?_⟩;rw[Ki (Xe h),h1];refine⟨oS,I7 ((M vs h2).mono ?_)⟩;rintro e w' ⟨v,rfl,hk⟩;exact hk
theorem Rk{f:FuncId}{args:List D}{r:D}(hw:iD ops o st true)(ha:asks st.env o.op)(h:dI (aZ st.env o.op) o.op=some (f,args))(hc:aD P f args r):dj.Ok P ops o st ⟨r,[],[],0⟩:=by
 intro F β w a m env N he J hm hr hn hN r n QX K X;have C:=w8 he;refine zN (args:=args) (hw F β w a env he J) J (by rw[xd C];exact ha) (by rw[B0 (xh C)];exact h) hc.1 fun vs hR=>?_;refine(Yy hm hc hR).mono fun e w' ⟨v,h1,h2,M,U⟩=>⟨v,h1,X v w' β h2 M U fun _ h _=>h⟩
theorem ab7{f:FuncId}{args C:List D}{r:D}{rds:List Nat}(hw:iD ops o st true)(ha:asks st.env o.op)(h:dI (aZ st.env o.op) o.op=some (f,args))(hs:jr P rds st.mem args C)(hc:aD P f C r)(hr:r.gn=true):
 dj.Ok P ops o st ⟨r,[],rds,0⟩:=by
 intro F β w a m env N he M hm U hn hN r n QX K hK;have J:=w8 he;refine zN (args:=args) (hw F β w a env he M) M (by rw[xd J];exact ha) (by rw[B0 (xh J)];exact h) hc.1 fun vs hR=>?_;refine(Yz hm hs U hc hr hR).mono fun e w' ⟨v,h1,h2,X,h4⟩=>⟨v,h1,hK v w' β h2 X h4 fun _ h _=>h⟩
theorem adj{f:FuncId}{args es:List D}{n:Nat}{t:TypeId}(hw:iD ops o st true)(ha:asks st.env o.op)(h:dI (aZ st.env o.op) o.op=some (f,args))(hc:kv P f args es n t):
 dj.Ok P ops o st ⟨.rs st.nx 0 n,[(st.nx,some (.cells es t))],[],1⟩:=by
 intro F β w a m env N he J hm dp hn hN r n QX K hK;have C:=w8 he;refine zN (args:=args) (hw F β w a env he J) J (by rw[xd C];exact ha) (by rw[B0 (xh C)];exact h) hc.1 fun vs hR=>?_;refine(Z8 hm (hn st.nx (bc _) oS) hc hR).mono fun e w' ⟨v,β',h1,h2,U,X,h5⟩=>⟨v,h1,hK v w' β' h2 U X fun i hi M=>?_⟩
 rw[h5 i (by simp only at M;omega)];exact hi
theorem adk{f:FuncId}{args:List D}{r:D}{aT:List (Nat×Option Row)}{rds:List Nat}(hw:iD ops o st true)(ha:asks st.env o.op)(h:dI (aZ st.env o.op) o.op=some (f,args))
 (hc:∀ J M,(∀ i∈rds,st.mem i≠none->J i=st.mem i)->fG P f args J M fun r' m' C=>r'=r/\m'=cH J aT/\C=M):dj.Ok P ops o st ⟨r,aT,rds,0⟩:=by
 intro F β w a m env N he X hm dp hn hN ro n QX K hK;have U:=w8 he;have hc:=hc m N dp;refine zN (args:=args) (hw F β w a env he X) X (by rw[xd U];exact ha) (by rw[B0 (xh U)];exact h) hc.1 fun vs hR=>?_;refine(hc.2 F β w vs hm hN hR).mono fun e w' hp=>?_;obtain⟨v,d,m',C,β',h1,⟨e1,e2,e3⟩,h3,h4,h5,h6,_,h7⟩:=hp;subst e1 e2 e3;refine⟨v,h1,hK v w' β' h5 h3 h6 fun i hi _=>?_⟩;rcases Nat.lt_or_ge i C with h|h
 .exact h7 i h hi
 .exact h4 i h
theorem Jj(b:List (Nat×Option Row)):∀ (a:List (Nat×Option Row)) (m:Mem),cH m (a++b)=cH (cH m a) b
 |[],_=>rfl
 |(i,r)::a,m=>Jj b a (up m i r)
theorem Pk{i:Nat}{r:Row}:∀ {us:List (Nat×Option Row)} {m:Mem},cH m us i=some r->(∃ x∈us,x.1=i/\x.2=some r)\/m i=some r
 |[],_,h=>.inr h
 |(j,s)::us,m,h=>by
  rcases Pk (us:=us) (m:=up m j s) h with⟨x,hx,e⟩|h
  .exact .inl ⟨x,by simp[hx],e⟩
  .by_cases hj:i=j
   .subst hj;rw[al] at h;exact .inl ⟨(i,s),oS,rfl,h⟩
   .rw[aB _ _ hj] at h;exact .inr h
theorem OI{i:Nat}:∀ {us:List (Nat×Option Row)} {m m':Mem},m i=m' i->cH m us i=cH m' us i
 |[],_,_,h=>h
 |(j,s)::us,m,m',h=>OI (us:=us) (by simp only[up];split<;>simp[h])
theorem Qe{i:Nat}:∀ {us:List (Nat×Option Row)} {m:Mem},(∀ x∈us,x.1≠i)->cH m us i=m i
 |[],_,_=>rfl
 |(j,s)::us,m,h=>by
  rw[cH,Qe (us:=us) fun x hx=>h x (by simp[hx])];exact aB _ _ fun e=>h (j,s) oS e.symm
theorem Jk{F F':Nat->Prop}{β β':aE}{w:World}{r:Row}{p:Pl}(hr:Ff r)(h:cB P F β w r p):cB P F' β' w r p:=by
 obtain⟨cs,e,rfl,hs⟩:=hr;cases h with
 |nil _=>exact .nil _
 |cells _ _ b o room sz c h1 h2 C J M=>
  refine .cells cs e b o room sz c h1 h2 C J fun k d hd=>?_;obtain⟨u,U,X,pu⟩:=M k d hd;exact⟨u,U,J7 (hs d (bz hd)) X,pu⟩
theorem SV{F F':Nat->Prop}{β β':aE}{w:World}{i j off k:Nat}{v:Value}(hb:β' j=β i)(h:R F β w (.rs i off k) v):R F' β' w (.rs j off k) v:=by
 cases h with
 |kG _ _ _ _ h hv=>exact .kG j off k v (hb.trans h) hv
 |iO _ a h=>exact .iO j a (hb.trans h)
 |jK _ _ a b o len room sz h=>exact .jK j off a b o len room sz (hb.trans h)
 |rs _ _ _ cap b o len room sz h h1 h2 C J=>exact .rs j off k cap b o len room sz (hb.trans h) h1 h2 C J
theorem aau{f:FuncId}{args es:List D}{n:Nat}{t:TypeId}{aT:List (Nat×Option Row)}{rds:List Nat}(hw:iD ops o st true)(ha:asks st.env o.op)(h:dI (aZ st.env o.op) o.op=some (f,args))(MF:QU st.mem rds aT args)
 (kK:∀ d∈es,d.gn=true) (hc:∀ gL,fG P f args (only rds st.mem) gL fun r' m' _=>∃ q,gL<=q/\r'=.rs q 0 n/\m' q=some (.cells es t)/\∀ i∈rds,m' i=cH st.mem aT i):
 dj.Ok P ops o st ⟨.rs st.nx 0 n,aT++[(st.nx,some (.cells es t))],rds,1⟩:=by
 intro F β w a m env N he hE hm dp hn hN ro k QX K hK;have gj:=w8 he;obtain⟨f1,f2,f3⟩:=MF
 have A':∀ i∈rds,m i=st.mem i:=fun i hi=>by
  obtain⟨r,hr,_⟩:=f1 i hi;exact dp i hi (by simp[hr])
 have Bo:∀ i∈rds,∃ p,β i=some p:=fun i hi=>by
  obtain⟨r,hr,_⟩:=f1 i hi;obtain⟨p,hp,_⟩:=hm.row i r ((A' i hi).trans hr);exact⟨p,hp⟩
 have cC:β st.nx=none:=hn st.nx (bc _) (Nat.lt_succ_self _)
 have hnr:st.nx∉rds:=fun hx=>by
  obtain⟨p,hp⟩:=Bo _ hx;rw[cC] at hp;cases hp
 have UY:∀ i∈rds,i<N:=fun i hi=>by
  obtain⟨p,hp⟩:=Bo i hi;rcases Nat.lt_or_ge i N with g|g
  .exact g
  .rw[hN i g] at hp;cases hp
 have hc:=hc N
 have HD:only rds st.mem=only rds m:=by
  funext i;unfold only;split
  .rename_i hi;exact(A' i hi).symm
  .rfl
 rw[HD] at hc;refine zN (args:=args) (hw F β w a env he hE) hE (by rw[xd gj];exact ha) (by rw[B0 (xh gj)];exact h) hc.1 fun vs hR=>?_
 let X:aE:=fun i=>if i∈rds then β i else none
 let F2:Nat->Prop:=fun b=>F b\/∃ i p,i∉rds/\β i=some p/\p.bG=some b
 have b2:∀ {i p},X i=some p->i∈rds/\β i=some p:=fun {i p} hi=>by
  simp only[X] at hi;split at hi
  .rename_i g;exact⟨g,hi⟩
  .cases hi
 have MG:∀ {i},i∈rds->X i=β i:=fun {i} hi=>if_pos hi
 have ie:aK P F2 (only rds m) X w:=by
  refine⟨fun i r hi=>?_,fun i j p q b hp hq e M=>hm.inj i j p q b (b2 hp).2 (b2 hq).2 e M,fun i p b hp e=>hm.lt i p b (b2 hp).2 e,fun i p b hp e C=>?_,hm.fb.next (fun b C=>?_) (fun _ h=>.inl h) fun _ _ _=>rfl⟩
  .unfold only at hi;split at hi
   .rename_i uO;obtain⟨p,hp,aq⟩:=hm.row i r hi;obtain⟨r',js,hs⟩:=f1 i uO;rw[A' i uO,js] at hi;cases hi;exact⟨p,(MG uO).trans hp,Jk hs aq⟩
   .cases hi
  .rcases C with C|⟨j,q,hj,hq,eq⟩
   .exact hm.nf i p b (b2 hp).2 e C
   .have:=hm.inj i j p q b (b2 hp).2 hq e eq;subst this;exact hj (b2 hp).1
  .rcases C with C|⟨j,q,_,hq,eq⟩
   .exact hm.fb.lt b C
   .exact hm.lt j q b hq eq
 have uH:Rs F2 X w args vs:=⟨hR.1,fun k d v hd hv=>by
  have h0:=hR.2 k d v hd hv;rcases f3 d (bz hd) with ht|⟨i,off,l,hi,rfl⟩
  .refine(ht F β w v h0).lift fun b hb=>⟨fun C=>?_,fun i p hp e=>?_⟩
   .rcases C with C|⟨j,q,_,hq,eq⟩
    .exact hb (.inl C)
    .exact hb (.inr fun kZ=>kZ j q hq eq)
   .exact hb (.inr fun kZ=>kZ i p (b2 hp).2 e)
  .exact SV (MG hi) h0⟩
 refine(hc.2 F2 X w vs ie (fun i hi=>?_) uH).mono ?_
 .simp only[X];split
  .rename_i g;have:=UY i g;omega
  .rfl
 rintro e w' ⟨v,d,m',ao,β',h1,⟨q,hq,rfl,hmq,kH⟩,h3,h4,h5,U,h7,h8⟩;have UZ:q∉rds:=fun hx=>by have:=UY q hx;omega
 have Lx:∀ i p b,i∉rds->β i=some p->p.bG=some b->X.free b:=fun i p b hi hp e j r hj M=>by
  have:=hm.inj i j p r b hp (b2 hj).2 e M;subst this;exact hi (b2 hj).1
 let β3:aE:=fun i=>if i=st.nx then β' q else if i∈rds then β' i else β i
 have MH:β3 st.nx=β' q:=if_pos rfl
 have MI:∀ {i},i∈rds->β3 i=β' i:=fun {i} hi=>by
  simp only[β3];rw[if_neg (show ¬ i=st.nx from fun e=>hnr (e▸hi)),if_pos hi]
 have HE:∀ {i},i≠st.nx->i∉rds->β3 i=β i:=fun {i} h1 h2=>by
  simp only[β3];rw[if_neg h1,if_neg h2]
 have D0:∀ i p,β3 i=some p->(∃ j,β' j=some p/\((i=st.nx/\j=q)\/(i∈rds/\j=i)))\/(i≠st.nx/\i∉rds/\β i=some p):=fun i p hp=>by
  by_cases e1:i=st.nx
  .subst e1;exact .inl ⟨q,MH▸hp,.inl ⟨rfl,rfl⟩⟩
  .by_cases e2:i∈rds
   .exact .inl ⟨i,(MI e2)▸hp,.inr ⟨e2,rfl⟩⟩
   .exact .inr ⟨e1,e2,(HE e1 e2)▸hp⟩
 have Bd:Step β w β3 w':=by
  refine⟨U.size,fun b hb hf=>?_,fun i p hp=>?_,U.out⟩
  .have y7:X.free b:=fun i p hp e=>hf i p (b2 hp).2 e;obtain⟨g1,g2⟩:=U.dd b hb y7;refine⟨g1,fun i p hp e=>?_⟩;rcases D0 i p hp with⟨j,hj,_⟩|⟨_,_,hj⟩
   .exact g2 j p hj e
   .exact hf i p hj e
  .have e1:i≠st.nx:=fun e=>by rw[e,cC] at hp;cases hp
   by_cases e2:i∈rds
   .rw[MI e2];exact U.keep i p ((MG e2).trans hp)
   .rw[HE e1 e2];exact .inl hp
 have R':∀ i p j r b,i∉rds->β i=some p->p.bG=some b->β' j=some r->r.bG=some b->False:=fun i p j r b hi hp e hj M=>
  (U.dd b (hm.lt i p b hp e) (Lx i p b hi hp e)).2 j r hj M
 refine⟨v,h1,hK v w' β3 (SV MH h5) ?_ Bd fun i hi aG=>?_⟩
 .rw[Jj];show aK P F (up (cH m aT) st.nx (some (.cells es t))) β3 w';refine⟨fun i r hi=>?_,fun i j p r b hp hr e M=>?_,fun i p b hp e=>?_,fun i p b hp e=>?_,hm.fb.next (fun b C=>Nat.lt_of_lt_of_le (hm.fb.lt b C) U.size) (fun _ h=>h) fun t _ C=>(U.dd _ (hm.fb.lt _ C) fun i p hp e=>hm.nf i p _ (b2 hp).2 e C).1⟩
  .by_cases e1:i=st.nx
   .subst e1;rw[al] at hi;cases hi;obtain⟨p,hp,aq⟩:=h3.row q _ hmq;exact⟨p,MH.trans hp,Jk ⟨es,t,rfl,kK⟩ aq⟩
   .rw[aB _ _ e1] at hi;by_cases e2:i∈rds
    .rw[OI (A' i e2), <- kH i e2] at hi;obtain⟨p,hp,aq⟩:=h3.row i r hi
     have hs:Ff r:=by
      rw[kH i e2] at hi;rcases Pk hi with⟨x,hx,_,hxr⟩|hi
      .exact(f2 x hx).2 r hxr
      .obtain⟨r',js,hs⟩:=f1 i e2;rw[js] at hi;cases hi;exact hs
     exact⟨p,(MI e2).trans hp,Jk hs aq⟩
    .rw[Qe (i:=i) fun x hx (e:x.1=i)=>e2 (e▸(f2 x hx).1)] at hi;obtain⟨p,hp,aq⟩:=hm.row i r hi;exact⟨p,(HE e1 e2).trans hp,aq.step Bd fun b e=>(U.dd b (hm.lt i p b hp e) (Lx i p b e2 hp e)).1⟩
  .rcases D0 i p hp with⟨i',J,ci⟩|⟨i1,i2,J⟩<;>rcases D0 j r hr with⟨j',mP,cj⟩|⟨j1,j2,mP⟩
   .have:=h3.inj i' j' p r b J mP e M;subst this;rcases ci with⟨rfl,rfl⟩|⟨ci,rfl⟩<;>rcases cj with⟨rfl,c⟩|⟨cj,c⟩
    .rfl
    .subst c;exact absurd cj UZ
    .subst c;exact absurd ci UZ
    .exact c
   .exact(R' j r i' p b j2 mP M J e).elim
   .exact(R' i p j' r b i2 J e mP M).elim
   .exact hm.inj i j p r b J mP e M
  .rcases D0 i p hp with⟨i',J,_⟩|⟨_,_,J⟩
   .exact h3.lt i' p b J e
   .exact Nat.lt_of_lt_of_le (hm.lt i p b J e) U.size
  .rcases D0 i p hp with⟨i',J,_⟩|⟨_,_,J⟩
   .exact fun C=>h3.nf i' p b J e (.inl C)
   .exact hm.nf i p b J e
 .have e1:i≠st.nx:=by simp only at aG;omega
  have e2:i∉rds:=fun hx=>by
   obtain⟨p,hp⟩:=Bo i hx;rw[hi] at hp;cases hp
  rw[HE e1 e2];exact hi
end
section
variable{P:Program}{F:Nat->Prop}{m:Mem}{nx:Nat}{β:aE}{w w':World}
theorem Jf:∀ {l:List Int} {c:List Value},Rl F β w (lI l) c->c=l.map (Value.int .u8)
 |[],[],_=>rfl
 |[],_::_,h=>by have:=h.1;simp[lI] at this
 |_::_,[],h=>by have:=h.1;simp[lI] at this
 |n::l,v::c,h=>by
  have h0:=(h.2 0 _ v rfl rfl).1.cX.1;have ih:=Jf (l:=l) (c:=c) ⟨by have:=h.1;simp[lI] at this ⊢;omega,fun k d u hk hu=>h.2 (k+1) d u (by simpa[lI] using hk) (by simpa using hu)⟩;rw[h0,ih];rfl
theorem OC(l:List Int):l.foldl (fun r n=>r.push (UInt8.ofNat n.toNat)) ByteArray.empty=mkStr l:=by
 rw[foldl_push_bytes];simp[mkStr,ByteArray.empty,ByteArray.emptyWithCapacity];rfl
theorem Ra{src dst:TypeId}(hs:qm P src)(hd:fO P dst=true){b o cap:Nat}{l:List Int}(h:Rd F β w b o (lI l)):(convert src dst (.slice (some ⟨b,o,none⟩) l.length cap)).run P w=.ok (.string (mkStr l)) w:=by
 obtain⟨c,h1,h2⟩:=h.AO;have hc:=Jf h1;subst hc
 have hl:(loadCells ⟨b,o,none⟩ l.length).run P w=.ok (l.map (Value.int .u8)).toArray w:=by
  have:=run_loadCells_list (P:=P) w ⟨b,o,none⟩ (l.map (Value.int .u8)) h2;simpa using this
 rw[run_convert_bytes_string w src dst _ _ _ _ (jU hs.1).1 hs.2.1 (ve hd),run_bytesToString w _ l.length cap l hl,OC]
theorem Jg{src dst:TypeId}(hs:qm P src)(hd:fO P dst=true)(a:Option Addr)(cap:Nat):(convert src dst (.slice a 0 cap)).run P w=.ok (.string (mkStr [])) w:=by
 rw[run_convert_bytes_string w src dst _ _ _ _ (jU hs.1).1 hs.2.1 (ve hd)];cases a with
 |none=>rfl
 |some a=>
  have hl:(loadCells a 0).run P w=.ok (([]:List Int).map (Value.int .u8)).toArray w:=by simp[loadCells,loadCellsFrom]
  rw[run_bytesToString w a 0 cap [] hl,OC]
theorem XI(hm:aK P F m β w){src dst:TypeId}{l:List Int}{v:Value}(hx:R F β w (.sl (lI l) l.length) v)(hs:qm P src)(hd:fO P dst=true):
 aX P F m nx β w { pre:=True,val:=.s (.string (mkStr l)) } (do Pure.pure (Next.value (<- convert src dst v))):=by
 rcases hx.tS with⟨h1,h2,a,cap,rfl⟩|⟨b,o,cap,rfl,_,_,_,_,_,C⟩
 .have hl:l=[]:=List.eq_nil_of_length_eq_zero h2;subst hl;exact aX.pure hm (Jg hs hd a cap) (.s _ rfl)
 .exact aX.pure hm (Ra hs hd C) (.s _ rfl)
theorem XJ(hm:aK P F m β w){src dst:TypeId}{l:List Int}{i off:Nat}{cs:List D}{e:TypeId}{v:Value}(hx:R F β w (.rs i off l.length) v)(hi:m i=some (.cells cs e))(hl:(cs.drop off).take l.length=lI l)(hs:qm P src)(hd:fO P dst=true){rd:List Nat}:
 aX P F m nx β w { pre:=True,val:=.s (.string (mkStr l)),rd:=rd } (do Pure.pure (Next.value (<- convert src dst v))):=by
 rcases hx.CC hm hi with⟨h1,h2,C,_,a,rfl⟩|⟨b,o,room,_,aq,U⟩
 .have J:l=[]:=List.eq_nil_of_length_eq_zero C;subst J;exact aX.pure hm (Jg hs hd a 0) (.s _ rfl)
 .rcases U with⟨C,a,rfl⟩|⟨cap,rfl,_⟩
  .have J:l=[]:=List.eq_nil_of_length_eq_zero C;subst J;exact aX.pure hm (Jg hs hd a 0) (.s _ rfl)
  .have M:=(aq.rd.1.drop off).take l.length;rw[hl] at M;exact aX.pure hm (Ra hs hd M) (.s _ rfl)
theorem YK(hm:aK P F m β w){src dst:TypeId}{k k':IntKind}{n:Int}{v:Value}(hx:R F β w (.s (.int k n)) v)(hs:P.underlying src=some (.int k'))(hd:fO P dst=true)(h0:0<=n)(h1:n<128):
 aX P F m nx β w { pre:=True,val:=.s (.string (mkStr [n])) } (do Pure.pure (Next.value (<- convert src dst v))):=by
 obtain⟨rfl,_⟩:=hx.cX;refine aX.pure hm (v:=.string (mkStr [n])) ?_ (.s _ rfl)
 have hv:Utf8.encode n=mkStr [n]:=by
  have h2:n.toNat<128:=by omega
  have C:Utf8.valid n=true:=by
   unfold Utf8.valid;simp;omega
  unfold Utf8.encode;simp only[C,if_true,if_pos h2];simp[mkStr]
 simp[convert,run_underlying hs,run_underlying (ve hd),Conv.intToString,hv]
theorem aal(hm:aK P F m β w){t:TypeId}{es:List D}{n:Nat}{k k':IntKind}{v J C:Value}(hx:R F β w (.sl es n) v)(hh:R F β w (.s (.int k n)) J)(hc:R F β w (.s (.int k' n)) C)(ht:bg P t=true)(hn:n*P.cellsOf (aF P t)=es.length):
 aX P F m nx β w { pre:=True,val:=.sc es n } (do Pure.pure (Next.value (<- Instr.sliceAt t v none (some J) (some C)))):=by
 obtain⟨rfl,_⟩:=hh.cX;obtain⟨rfl,_⟩:=hc.cX;obtain⟨hu,he⟩:=jU ht;rcases hx.tS with⟨rfl,rfl,a,cap,rfl⟩|⟨b,o,cap,rfl,U,X,g3,g4,g5,M⟩
 .have hb:=EA (P:=P) (w:=w) 0 cap (kh:=k) (km:=k') (lo:=none) (l:=0) (h:=0) (k:=0) (.inl ⟨rfl,rfl⟩) oG oG oG oG;refine aX.val hm (v:=.slice a 0 0) ?_ (.sc [] 0 a (.gg a 0));simp[tk hu,Instr.slice,run_underlying hu,hb,iz w (jy he)]
 .have hb:=EA (P:=P) (w:=w) n cap (kh:=k) (km:=k') (lo:=none) (l:=0) (h:=n) (k:=n) (.inl ⟨rfl,rfl⟩) oG oG oG oG;refine aX.val hm (v:=.slice (if n=0 then some ⟨b,o,none⟩ else some ⟨b,o,none⟩) n n) ?_ ?_
  .simp[tk hu,Instr.slice,run_underlying hu,hb,iz w (jy he),Addr.add_lit]
  .obtain⟨us,r1,r2⟩:=M;simp only[ite_self];exact .sc es n _ (.sl es n b o n us g3 g4 g5 (bc _) (Nat.le_trans U X) r1 r2)
theorem R6(b:ByteArray):Rl F β w (fj b) (Lib.strCells b):=by
 refine⟨by simp[fj,Lib.strCells],fun k d u hk hu=>?_⟩;simp only[fj,Lib.strCells,List.getElem?_map,cU] at hk hu;obtain⟨x,h1,rfl⟩:=hk;obtain⟨y,h2,rfl⟩:=hu;rw[h1] at h2;cases h2;exact⟨.s _ rfl,rfl⟩
theorem Rb{t u ty:TypeId}(ht:qm P t)(hu:fO P u=true)(b:ByteArray):Src P w t u ty (aF P t) (.string b) b.size (Lib.strCells b):=by
 obtain⟨J,bK⟩:=jU ht.1;obtain⟨i,d,z,hi,hd,hz,_,ju,_,bC,hb,_⟩:=qF bK;have mO:i.size=1:=bC.trans ht.2.2;have hlen:=Lib.strCells_length b;have C:=ve hu;refine⟨by rw[hlen,ht.2.2,Nat.mul_one],fun hk a0 n cap M=>?_,fun hk a0 n cap gd z' U rv tT h0 j3 hg dh j4=>?_,fun hk g o n cap cur Ls uc X l6=>?_⟩
 .have hf:=Lib.run_firstCells_string (P:=P) w 1 b;have My:b=.empty:=by rw[ByteArray.size_eq_zero_iff] at hk;exact hk
  subst My;cases a0<;>simp[Builtin.append_,run_underlying J,run_underlying C,sizeOf,typeInfo,hi,Builtin.lenOf,M,Builtin.firstCells,storeCells]
 .simp only[hi,Option.bind_some] at U;rw[hz] at U;cases U;simp only[maxLen] at dh;cases a0 with
  |some ad=>exact Lib.run_append_grow_string (P:=P) w t u ty _ i z J C hi hz ad n cap gd (by rw[mO,rv,ht.2.2]) (tT ad rfl) b hg oG (growslice_fits oG (by rw[hb];exact j4))
  |none=>
   obtain⟨rfl,rfl⟩:=h0 rfl;have:gd=[]:=List.eq_nil_of_length_eq_zero (by simpa using rv);subst this;have:=run_append_nil_string (P:=P) (w:=w) t u ty _ i z J C hi hz b hk oG (by rw[hb];simp at j4;omega);simp only[Nat.zero_add];rw[this];simp only[Lib.strCells];congr 3;apply Array.ext';simp
 .have hf:=Lib.run_firstCells_string (P:=P) w 1 b;rw[ht.2.2,Nat.mul_one] at X ⊢;have c8:=run_storeCells_at P g (o+n) (aF P t) (Lib.strCells b) 0 cur w Ls (by simpa[hlen] using X) (Lib.strCells_oneCell b);simp only[Nat.add_zero] at c8;simp[Builtin.append_,run_underlying J,run_underlying C,sizeOf,typeInfo,hi,mO,Builtin.lenOf,uc,hf,Addr.add_lit,c8]
theorem XK(hm:aK P F m β w){ts:Array TypeId}{ty:TypeId}{i off n:Nat}{r:Row}{v:Value}(hx:R F β w (.rs i off n) v)(hi:m i=some r)(hn:0<n){rd:List Nat}:
 aX P F m nx β w { pre:=True,val:=.rp i off,rd:=rd } (do Pure.pure (Next.value (<- Builtin.unsafeSliceData_ ts ty #[v]))):=by
 obtain⟨p,hp,aq⟩:=hm.row i _ hi;cases hx with
 |kG _ _ _ _ h _=>rw[h] at hp;cases hp;exact absurd rfl aq.live
 |iO _ a h=>omega
 |jK _ _ a b o len room sz h=>omega
 |rs _ _ _ cap b o len room sz h h1 h2 C J=>
  exact aX.pure hm (Lib.run_unsafeSliceData_row w ts ty _ n cap oG) (.rp i off b o len room sz h)
theorem YL(hm:aK P F m β w){t ty:TypeId}{i:Nat}{es:List (Value×D)}{v:Value}(hx:R F β w (.mp i) v)(hi:m i=some (.map es))(ht:fL P t=true){rd:List Nat}:
 aX P F m nx β w { pre:=True,val:=.s (.int .i64 es.length),rd:=rd } (do Pure.pure (Next.value (<- Builtin.len_ #[t] ty #[v]))):=by
 obtain⟨r,ms,clock,_,rfl,hb,hl,_⟩:=hx.Ct hm hi;have L:=zG ht;refine aX.pure hm (v:=.int .i64 ms.size) ?_ (by rw[hl];exact .s _ rfl);simp[Builtin.len_,run_underlying L.1,run_getObj_map w r ms clock hb,goInt]
theorem We{e:TypeId}(hc:P.cellsOf e=1)(count off n:Nat)(hn:off+n<=count):liesAt P P.depth e count off e n=true:=by
 have hd:P.depth=(2*(P.types.size+Made.depth)+1)+1:=rfl;rw[hd];simp only[liesAt,Bool.or_eq_true];left;rw[hd];simp[rowAt,hc,hn,sameLayout,Nat.mod_one]
theorem aam(pt U ty e:TypeId)(hp:P.underlying pt=some (.pointer e))(hc:P.cellsOf e=1)(g o cells:Nat)(lp:w.shape? g=some (e,cells))(l:List UInt8)(h0:l≠[])(hn:o+l.length<=cells)(UW:l.length<=9223372036854775807)
 (C:∀ j x,l[j]? =some x->w.cell? ((⟨g,o,none⟩:Addr).add j)=some (.int .u8 x.toNat)) (k:IntKind):
 (Builtin.unsafeString_ #[pt,U] ty #[.pointer (some ⟨g,o,none⟩),.int k l.length]).run P w=.ok (.string ⟨l.toArray⟩) (w.freeze ⟨g,o,none⟩ l.length):=by
 have hl:l.length≠0:=by simpa using h0
 have X:=Lib.run_loadBytes (P:=P) w l ⟨g,o,none⟩ .empty C;have J:=We (P:=P) hc (cells / P.cellsOf e) o l.length (by rw[hc];simpa using hn);have M:¬ (9223372036854775807:Int)<(l.length:Int):=by omega
 have Lt:Builtin.unsafeString_ #[pt,U] ty #[.pointer (some ⟨g,o,none⟩),.int k l.length]=
  (do
   let n<- asInt (.int k l.length)
   if n<0 then runtimePanic (.error "unsafe.String: len out of range")
   if n>IntKind.i64.max then unsupported (.unsafePointer "String: a length above the largest int")
   if n=0 then pure (.string .empty)
   else if<- variablesAt ⟨g,o,none⟩ (<- elemOf pt) n.toNat then do
    let s<- loadBytes ⟨g,o,none⟩ .empty n.toNat
    freeze ⟨g,o,none⟩ n.toNat
    pure (.string s)
   else unsupported (.unsafePointer "String: not so many bytes at ptr")):=rfl
 rw[Lt];have dh:IntKind.i64.max=9223372036854775807:=rfl;have Lu:¬ (l.length:Int)<0:=by omega
 simp[asInt,asIntOf,dh,M,Lu,hl,variablesAt,lp,elemOf,run_underlying hp,J,X]
theorem NX(w:World)(a:Addr)(n k:Nat)(h:k≠a.block):(w.freeze a n).heap[k]? =w.heap[k]? :=by
 unfold World.freeze;split
 .rfl
 .simp only[Array.getElem?_modify];rw[if_neg (fun e=>h e.symm)]
theorem W3(w:World)(a:Addr)(n:Nat):(w.freeze a n).heap.size=w.heap.size:=by
 unfold World.freeze;split
 .rfl
 .simp
theorem XL(w:World)(a:Addr)(n:Nat):Out w (w.freeze a n):=by
 unfold World.freeze;split<;>exact⟨rfl,rfl⟩
theorem W4(w:World)(a:Addr)(n b:Nat):ku w (w.freeze a n) b:=by
 by_cases hb:b=a.block
 .subst hb;unfold World.freeze;split
  .exact ku.refl w _
  .refine⟨fun o u hu=>?_,fun ms c hm=>?_⟩
   .simp only[World.cell?,Array.getElem?_modify,if_true] at hu ⊢;cases hh:w.heap[a.block]? with
    |none=>rw[hh] at hu;simp at hu
    |some C=>
     rw[hh] at hu;cases C<;>simp_all
   .simp only[Array.getElem?_modify,if_true,hm,Option.map_some]
 .exact tE (NX w a n b hb)
theorem W5(hm:aK P F m β w){i:Nat}{p:Pl}{a:Addr}(hp:β i=some p)(hb:p.bG=some a.block)(n:Nat):
 aK P F (up m i none) (up β i (some .dead)) (w.freeze a n)/\Step β w (up β i (some .dead)) (w.freeze a n):=by
 have X:=zD β w i;have C:=hm.dead i;have U:=W3 w a n;have M:=NX w a n;have hs:Step β w (up β i (some .dead)) (w.freeze a n):=⟨oG,fun k hk hf=>⟨M k fun e=>hf i p hp (e▸hb),(X.dd k hk hf).2⟩,X.keep,XL w a n⟩
 have aG:∀ j q,up β i (some .dead) j=some q->∀ c,q.bG=some c->c≠a.block:=fun j q hq c hc e=>by
  by_cases hj:j=i
  .subst hj;rw[al] at hq;cases hq;simp[Pl.bG] at hc
  .rw[aB _ _ hj] at hq;exact hm.qD hp hb hq hj (e▸hc)
 refine⟨⟨fun j r hj=>?_,C.inj,fun j q c hq hc=>by rw[U];exact C.lt j q c hq hc,C.nf,C.fb.next (fun c hc=>by rw[U];exact C.fb.lt c hc) (fun _ h=>h) fun t _ J=>M _ fun e=>hm.nf i p _ hp hb (e▸J)⟩,hs⟩;obtain⟨q,hq,aq⟩:=C.row j r hj;exact⟨q,hq,aq.gen oG (fun c _ J hf=>⟨W4 w a n c,hf,J⟩) (fun _ _ _ h=>.inl h) fun c hc=>M c (aG j q hq c hc)⟩
theorem YM(hm:aK P F m β w){t u ty e:TypeId}{l:List Int}{i off:Nat}{cs:List D}{k:IntKind}{U M:Value}(hp:R F β w (.rp i off) U)(hn:R F β w (.s (.int k l.length)) M)(hi:m i=some (.cells cs e))(hl:(cs.drop off).take l.length=lI l)(h0:l≠[])
 (ht:P.underlying t=some (.pointer e)) (he:P.cellsOf e=1) (dh:l.length<=maxLen) (hr:∀ x∈l,0<=x/\x<256) {rd:List Nat}:
 aX P F m nx β w { pre:=True,val:=.s (.string (mkStr l)),aT:=[(i,none)],rd:=rd } (do Pure.pure (Next.value (<- Builtin.unsafeString_ #[t,u] ty #[U,M]))):=by
 obtain⟨rfl,_⟩:=hn.cX;obtain⟨b,o,room,sz,J,rfl,aq⟩:=hp.Gb hm hi;obtain⟨c,h1,h2⟩:=((aq.rd.1.drop off).take l.length).AO;rw[hl] at h1;have hc:=Jf h1;subst hc;cases aq with
 |cells _ _ _ _ _ _ cc X uc hlen bC hh=>
 have me:l.length<=cs.length - off:=by
  have:=congrArg List.length hl;simp[lI] at this;omega
 have oL:0<l.length:=List.length_pos_iff.2 h0
 have C:=aam (P:=P) (w:=w) t u ty e ht he b (o+off) cc.size (by simp[World.shape?,X]) (l.map fun n=>UInt8.ofNat n.toNat) (by simpa using h0) oP (by simp[maxLen] at dh ⊢;omega) (fun j x hx=>by
  simp only[List.getElem?_map,cU] at hx;obtain⟨n,hn,rfl⟩:=hx;have hb:=hr n (bz hn);rw[h2 j (.int .u8 n) (by simp[hn])];have:(UInt8.ofNat n.toNat).toNat=n.toNat:=by simp;omega
  rw[this,Int.toNat_of_nonneg hb.1]) k
 simp only[List.length_map] at C;obtain⟨q1,q2⟩:=W5 hm (a:=⟨b,o+off,none⟩) J rfl l.length;refine⟨_,.string (mkStr l),_,_,by simp only[Sem.run_bind,C,Result.andThen_ok,Sem.run_pure];rfl,.inl rfl,.s _ rfl,q1,q2,fun j hj _=>?_⟩;rw[aB _ _ fun e=>by rw[e,J] at hj;cases hj];exact hj
theorem R7(hm:aK P F m β w)(hn:β nx=none){t:TypeId}{x:D}{v:Value}(hs:P.cellsOf t=2)(hx:R F β w x v)(h1:v.oneCell'=true):
 aK P F (up m nx (some (.bs false x t))) (up β nx (some (.cells w.heap.size 0 2 2 2))) (w.alloc (.cells #[.pointer none,v] t))/\Step β w (up β nx (some (.cells w.heap.size 0 2 2 2))) (w.alloc (.cells #[.pointer none,v] t)):=by
 have C:=zA hm (.cells #[.pointer none,v] t) hn (.cells w.heap.size 0 2 2 2) (fun b hb=>by simp[Pl.bG] at hb;exact hb.symm);exact⟨hm.alloc hn _ _ _ (fun b hb=>by simp[Pl.bG] at hb;exact hb.symm) (.bs false x t _ v (heap_alloc_new w _) hs (hx.step C) h1),C⟩
theorem YN(hm:aK P F m β w)(hn:β nx=none){t:TypeId}{c d:D}{v:Value}(hc:c.cells=[.s (.pointer none),d])(hd:d.one=true)(hs:P.cellsOf t=2)(hx:R F β w c v):
 aX P F m nx β w { pre:=True,val:=.rp nx 0,aT:=[(nx,some (.bs false d t))],new:=1 } (do Pure.pure (Next.value (<- Instr.box t v))):=by
 have U:c.cells.all D.one=true:=by rw[hc];simp only[List.all_cons,List.all_nil,hd];rfl
 obtain⟨c1,C,c3⟩:=hx.cells U;rw[hc] at c1 C
 have h0:∃ J M,v.cells= #[J,M]:=by
  obtain⟨l,hl⟩:∃ l,v.cells=⟨l⟩:=⟨v.cells.toList,rfl⟩
  rw[hl] at c1 ⊢
  match l,c1 with
  |[a,b],_=>exact⟨a,b,rfl⟩
 obtain⟨J,M,hv⟩:=h0;obtain⟨q0,_⟩:=C 0 (.s (.pointer none)) J rfl (by simp[hv]);obtain⟨q1,q2⟩:=C 1 d M rfl (by simp[hv]);obtain⟨rfl,_⟩:=q0.cX;obtain⟨h2,X⟩:=R7 hm hn hs q1 q2;refine⟨_,_,_,_,by simp[Instr.box,EB,hv];rfl,.inl rfl,?_,h2,X,vf⟩;exact .rp nx 0 w.heap.size 0 _ _ _ (al _ _ _)
theorem W6(hm:aK P F m β w)(hn:β nx=none){t:TypeId}(ht:aI P t=true)(hz:a7 P t=[.s (.pointer none),.z]):
 aX P F m nx β w { pre:=True,val:=.rp nx 0,aT:=[(nx,some (.bs false .z t))],new:=1 } (do Pure.pure (Next.value (<- Instr.alloc t true (.tuple #[])))):=by
 obtain⟨z,qt,ju,U,X⟩:=zx (P:=P) w ht;obtain⟨c1,C⟩:=Ae (F:=F) (β:=β) (w:=w) U X;rw[hz] at c1 C
 have h0:∃ J M,z.cells= #[J,M]:=by
  obtain⟨l,hl⟩:∃ l,z.cells=⟨l⟩:=⟨z.cells.toList,rfl⟩
  rw[hl] at c1 ⊢
  match l,c1 with
  |[a,b],_=>exact⟨a,b,rfl⟩
 obtain⟨J,M,hv⟩:=h0;obtain⟨q0,_⟩:=C 0 (.s (.pointer none)) J rfl (by simp[hv]);obtain⟨q1,q2⟩:=C 1 .z M rfl (by simp[hv]);obtain⟨rfl,_⟩:=q0.cX;have hs:P.cellsOf t=2:=by rw[<- ju,hv];rfl
 obtain⟨h5,h6⟩:=R7 hm hn hs q1 q2;refine⟨_,_,_,_,by simp[Instr.alloc,qt,EB,hv];rfl,.inl rfl,?_,h5,h6,vf⟩;exact .rp nx 0 w.heap.size 0 _ _ _ (al _ _ _)
theorem Kf(hm:aK P F m β w){i off:Nat}{u:Bool}{x:D}{T:TypeId}{a:Value}(ha:R F β w (.rp i off) a)(hi:m i=some (.bs u x T)):
 ∃ b v,β i=some (.cells b 0 2 2 2)/\a=.pointer (some ⟨b,0+off,none⟩)/\w.heap[b]? =some (.cells #[.pointer (if u then some ⟨b,0,none⟩ else none),v] T (0,0))/\P.cellsOf T=2/\R F β w x v/\v.oneCell'=true:=by
 obtain⟨p,hp,aq⟩:=hm.row i _ hi;cases aq with
 |bs _ _ _ b v hb hs hx h1=>
 cases ha with
 |qk _ _ _ h _=>rw[h] at hp;cases hp
 |rp _ _ C o len room sz h=>
  rw[h] at hp;cases hp;exact⟨b,v,h,rfl,hb,hs,hx,h1⟩
theorem XM(hm:aK P F m β w){t:TypeId}{i:Nat}{u:Bool}{x:D}{T:TypeId}{a:Value}(ha:R F β w (.rp i 1) a)(hi:m i=some (.bs u x T))(ht:aI P t=true)(hg:bl P t=false){rd:List Nat}:
 aX P F m nx β w { pre:=True,val:=x,rd:=rd } (do Pure.pure (Next.value (<- Instr.loadAt t a))):=by
 obtain⟨b,v,_,rfl,hb,_,hx,h1⟩:=Kf hm ha hi;refine aX.pure hm (v:=v) ?_ hx;have hc:w.cell? ⟨b,0+1,none⟩=some v:=by simp[World.cell?,hb]
 simp[Instr.loadAt,Instr.sureAddr,loadVar,BS w (zM ht),hg,hc]
theorem W7(hm:aK P F m β w){t:TypeId}{i:Nat}{u:Bool}{x d:D}{T:TypeId}{a y:Value}(ha:R F β w (.rp i 1) a)(hy:R F β w d y)(hi:m i=some (.bs u x T))(ht:aI P t=true)(hg:bl P t=false)(hd:d.one=true){rd:List Nat}:
 aX P F m nx β w { pre:=True,val:=.aM [],aT:=[(i,some (.bs u d T))],rd:=rd } (do Instr.storeAt t a y;Pure.pure Next.skip):=by
 obtain⟨b,v,X,rfl,hb,hs,hx,h1⟩:=Kf hm ha hi;have C:y.oneCell'=true:=hy.one hd;obtain⟨_,_,_,_,_,_,sZ,_⟩:=qF ht;have tT:y.cells= #[y]:=by cases y<;>first|rfl|simp[Value.oneCell'] at C
 have J:=run_storeCells_at P b 1 T [y] 0 #[.pointer (if u then some ⟨b,0,none⟩ else none),v] w hb oS (by simpa using C)
 have di:(storeVar t ⟨b,0+1,none⟩ y).run P w=.ok () (w.setRow b #[.pointer (if u then some ⟨b,0,none⟩ else none),y]):=by
  simp only[storeVar];simp only[Nat.add_zero] at J;simp[iz w (jy ht),sZ hg,tT,J]
 have qY:=setRow_heap w b #[.pointer (if u then some ⟨b,0,none⟩ else none),v] #[.pointer (if u then some ⟨b,0,none⟩ else none),y] T (0,0) hb;have U:∀ k,k≠b->(w.setRow b #[.pointer (if u then some ⟨b,0,none⟩ else none),y]).heap[k]? =w.heap[k]? :=fun k hk=>setRow_other w b k _ hk;have bC:(w.setRow b #[.pointer (if u then some ⟨b,0,none⟩ else none),y]).heap.size=w.heap.size:=by simp
 have M:=BR hm X rfl oG U;have fC:=hm.write X rfl bC U (.bs u d T) (.bs u d T b y qY hs (hy.step M) C);exact⟨.skip,undef,_,β,by simp[Instr.storeAt,Instr.sureAddr,di],.inr ⟨rfl,rfl⟩,.aM [] [] rfl oS,fC,M,fun _ h _=>h⟩
theorem dc.env{ρ J:Operand->D}{nx:Nat}{o:Op}{e:dt}(hr:∀ x∈o.operands,J x=ρ x)(h:dc P ρ m nx o e):dc P J m nx o e:=by
 cases h with
 |add t p x y a b hx hy h=>exact .add t p x y a b ((hr x cF).trans hx) ((hr y cF).trans hy) h
 |CP src dst x l hx hs hd=>exact .CP src dst x l ((hr x cF).trans hx) hs hd
 |CQ src dst x l i off cs e hx hi hl hs hd=>exact .CQ src dst x l i off cs e ((hr x cF).trans hx) hi hl hs hd
 |rune src dst x k k' n hx hs hd h0 h1=>exact .rune src dst x k k' n ((hr x cF).trans hx) hs hd h0 h1
 |cut t x h c es n k k' hx hh hc ht hn=>exact .cut t x h c es n k k' ((hr x cF).trans hx) ((hr h cF).trans hh) ((hr c cF).trans hc) ht hn
 |xS c s x t es news n k p rd hc hs hx hp ht hn hk hz C hb=>
  refine .xS c s x t es news n k p rd hc ((hr s (by rw[hc];simp[Op.operands,Call.operands])).trans hs) ?_ hp ht hn hk hz C hb;rw[hr x (by rw[hc];simp[Op.operands,Call.operands])];exact hx
 |xg c s x t u b hc hs hx ht hu C hb=>exact .xg c s x t u b hc ((hr s (by rw[hc];simp[Op.operands,Call.operands])).trans hs) ((hr x (by rw[hc];simp[Op.operands,Call.operands])).trans hx) ht hu C hb
 |xy c s x t u b i off n cs hc hs hx hi ht hu hf C hb=>exact .xy c s x t u b i off n cs hc ((hr s (by rw[hc];simp[Op.operands,Call.operands])).trans hs) ((hr x (by rw[hc];simp[Op.operands,Call.operands])).trans hx) hi ht hu hf C hb
 |yp c x t i es hc hx hi ht=>exact .yp c x t i es hc ((hr x (by rw[hc];simp[Op.operands,Call.operands])).trans hx) hi ht
 |xT c s t i off n r hc hs hi hn=>exact .xT c s t i off n r hc ((hr s (by rw[hc];simp[Op.operands,Call.operands])).trans hs) hi hn
 |yq c p n t u e l i off cs k hc hp hn hi hl h0 ht he C M=>exact .yq c p n t u e l i off cs k hc ((hr p (by rw[hc];simp[Op.operands,Call.operands])).trans hp) ((hr n (by rw[hc];simp[Op.operands,Call.operands])).trans hn) hi hl h0 ht he C M
 |Ab t hb ht hz=>exact .Ab t hb ht hz
 |AJ t x d hb hx hd hs=>exact .AJ t x d hb (by rw[hr x cF];exact hx) hd hs
 |Ar t a i u x T ha hi ht hg=>exact .Ar t a i u x T ((hr a cF).trans ha) hi ht hg
 |xz t a y i u x T ha hi ht hg hy=>
  rw[<- hr y cF];exact .xz t a y i u x T ((hr a cF).trans ha) hi ht hg (by rw[hr y cF];exact hy)
theorem dc.mem{ρ:Operand->D}{m':Mem}{nx:Nat}{o:Op}{e:dt}(h:dc P ρ m nx o e)(hr:∀ i∈e.rd,m i≠none->m' i=m i):dc P ρ m' nx o e:=by
 cases h with
 |add t p x y a b hx hy h=>exact .add t p x y a b hx hy h
 |CP src dst x l hx hs hd=>exact .CP src dst x l hx hs hd
 |CQ src dst x l i off cs e hx hi hl hs hd=>exact .CQ src dst x l i off cs e hx ((hr i oS (by simp[hi])).trans hi) hl hs hd
 |rune src dst x k k' n hx hs hd h0 h1=>exact .rune src dst x k k' n hx hs hd h0 h1
 |cut t x h c es n k k' hx hh hc ht hn=>exact .cut t x h c es n k k' hx hh hc ht hn
 |xS c s x t es news n k p rd hc hs hx hp ht hn hk hz C hb=>
  refine .xS c s x t es news n k p rd hc hs ?_ hp ht hn hk hz C hb;revert hx;unfold jx;split
  .exact id
  .exact id
  .intro hx;split at hx
   .rename_i J;cases hx;rw[hr _ oS (by simp[J]),J]
   .cases hx
  .exact id
 |xg c s x t u b hc hs hx ht hu C hb=>exact .xg c s x t u b hc hs hx ht hu C hb
 |xy c s x t u b i off n cs hc hs hx hi ht hu hf C hb=>exact .xy c s x t u b i off n cs hc hs hx ((hr i oS (by simp[hi])).trans hi) ht hu hf C hb
 |yp c x t i es hc hx hi ht=>exact .yp c x t i es hc hx ((hr i oS (by simp[hi])).trans hi) ht
 |xT c s t i off n r hc hs hi hn=>exact .xT c s t i off n r hc hs ((hr i oS (by simp[hi])).trans hi) hn
 |yq c p n t u e l i off cs k hc hp hn hi hl h0 ht he C M=>exact .yq c p n t u e l i off cs k hc hp hn ((hr i oS (by simp[hi])).trans hi) hl h0 ht he C M
 |Ab t hb ht hz=>exact .Ab t hb ht hz
 |AJ t x d hb hx hd hs=>exact .AJ t x d hb hx hd hs
 |Ar t a i u x T ha hi ht hg=>exact .Ar t a i u x T ha ((hr i oS (by simp[hi])).trans hi) ht hg
 |xz t a y i u x T ha hi ht hg hy=>exact .xz t a y i u x T ha ((hr i oS (by simp[hi])).trans hi) ht hg hy
theorem dc.pre{ρ:Operand->D}{nx:Nat}{o:Op}{e:dt}(h:dc P ρ m nx o e):e.pre:=by cases h<;>trivial
theorem dc.defer{ρ:Operand->D}{nx:Nat}{o:Op}{e:dt}(h:dc P ρ m nx o e):∀ c,o≠ .defer c:=by cases h<;>simp
theorem dc.tidy{ρ:Operand->D}{nx:Nat}{o:Op}{e:dt}(h:dc P ρ m nx o e):
 (∀ i∈e.aT.map (·.1),m i≠none\/(nx<=i/\i<nx+e.new))/\(cY o=0->e.rd=[]/\e.aT=[])/\(cY o=1->e.aT=[])/\(cY o=3->e.rd=[]/\∀ i∈e.aT.map (·.1),nx<=i):=by
 cases h with
 |xS c s x t es news n k p rd hc hs hx hp ht hn hk hz C hb=>rw[hc];simp[cY]
 |xg c s x t u b hc hs hx ht hu C hb=>rw[hc];simp[cY]
 |xy c s x t u b i off n cs hc hs hx hi ht hu hf C hb=>rw[hc];simp[cY,hi]
 |yp c x t i es hc hx hi ht=>rw[hc];simp[cY]
 |xT c s t i off n r hc hs hi hn=>rw[hc];simp[cY]
 |yq c p n t u e l i off cs k hc hp hn hi hl h0 ht he C J=>rw[hc];simp[cY,hi]
 |xz t a y i u x T ha hi ht hg hy=>simp[cY,hi]
 |_=>simp[cY]
theorem XN(hm:aK P F m β w){o:Oper}{env:Env}{a:Act}{e:dt}(hn:e.new=1->β nx=none)(hE:gI F β w env a)(ha:asks env o.op)(h:dc P (aZ env o.op) m nx o.op e):aX P F m nx β w e (execOp a.eval o):=by
 obtain⟨dst,op,type,pos,after,guard⟩:=o;simp only at ha h
 have J:(∀ c x y,op≠ .pick c x y)->∀ x∈op.operands.toList,R F β w (aZ env op x) (a.eval x):=fun DY x hx=>by
  have h1:aZ env op x=(opd env x).core:=by cases op<;>first|rfl|exact absurd rfl (DY _ _ _)
  have h2:(opd env x).ask:=by cases op<;>first|exact ha x hx|exact absurd rfl (DY _ _ _)
  rw[h1];exact(hE.opd x).tD _ h2
 have call:∀ (b:Builtin) (s x:Operand) (ts:Array TypeId) (q:Sem Next),op=.call { callee:=.builtin b,args:= #[s,x],argTypes:=ts }->(∀ cs,builtin b ts type cs #[a.eval s,a.eval x]=q)->aX P F m nx β w e q->aX P F m nx β w e (execOp a.eval ⟨dst,op,type,pos,after,guard⟩):=by
  intro b s x ts q ho hb hq;subst ho;obtain⟨n,v,w',β',h1,h2⟩:=hq;refine⟨n,v,w',β',?_,h2⟩;unfold execOp;simp only[resolve,Sem.run_bind,Sem.run_pure,Result.andThen_ok,invoke];have e1:(#[s,x]:Array Operand).map a.eval= #[a.eval s,a.eval x]:=by simp
  rw[e1,hb];exact h1
 have SN:∀ (b:Builtin) (s:Operand) (ts:Array TypeId) (q:Sem Next),op=.call { callee:=.builtin b,args:= #[s],argTypes:=ts }->(∀ cs,builtin b ts type cs #[a.eval s]=q)->aX P F m nx β w e q->aX P F m nx β w e (execOp a.eval ⟨dst,op,type,pos,after,guard⟩):=by
  intro b s ts q ho hb hq;subst ho;obtain⟨n,v,w',β',h1,h2⟩:=hq;refine⟨n,v,w',β',?_,h2⟩;unfold execOp;simp only[resolve,Sem.run_bind,Sem.run_pure,Result.andThen_ok,invoke];have e1:(#[s]:Array Operand).map a.eval= #[a.eval s]:=by simp
  rw[e1,hb];exact h1
 cases h with
 |add t p x y b c hx hy h=>
  have C:=J oS x cF;have qy:=J oS y cF;rw[hx] at C;rw[hy] at qy;obtain⟨e1,_⟩:=C.cX;obtain⟨e2,_⟩:=qy.cX;unfold execOp;refine aX.val hm (v:=.string (b++c)) ?_ (.s _ rfl);simp only[e1,e2,Sem.run_bind,uY .add t x y (.string b) (.string c) oS oS,Result.andThen_ok,binOp_string_add,run_string_add_sum w b c (by simp[maxLen] at h;omega),Sem.run_pure]
 |CP src dst x l hx hs hd=>
  have C:=J oS x cF;rw[hx] at C;exact XI hm C hs hd
 |CQ src dst x l i off cs e hx hi hl hs hd=>
  have C:=J oS x cF;rw[hx] at C;exact XJ hm C hi hl hs hd
 |rune src dst x k k' n hx hs hd h0 h1=>
  have C:=J oS x cF;rw[hx] at C;exact YK hm C hs hd h0 h1
 |cut t x h c es n k k' hx hh hc ht ic=>
  have C:=J oS x cF;have qh:=J oS h cF;have qc:=J oS c cF;rw[hx] at C;rw[hh] at qh;rw[hc] at qc;exact aal hm C qh qc ht ic
 |xS c s x t es news n k p rd hc hs hx hp ht ic hk hz U hb=>
  have M:=J oS s (by rw[hc];simp[Op.operands,Call.operands]);have C:=J oS x (by rw[hc];simp[Op.operands,Call.operands]);rw[hs] at M;obtain⟨cc,dy,X⟩:=IJ (ty:=type) hm C hx hp ht hz;exact call .append s x _ _ (by rw[hc]) (fun _=>rfl) ((BO hm (hn rfl) dy X (jU ht).2 hz).2.1 es n M hk ic U hb)
 |xg c s x t u b hc hs hx ht hu U hb=>
  have M:=J oS s (by rw[hc];simp[Op.operands,Call.operands]);have C:=J oS x (by rw[hc];simp[Op.operands,Call.operands]);rw[hs] at M;rw[hx] at C;obtain⟨e1,_⟩:=C.cX;refine call .append s x _ _ (by rw[hc]) (fun _=>rfl) ?_;rw[e1];exact(BO hm (hn rfl) (R6 b) (Rb (ty:=type) ht hu b) (jU ht.1).2 (by rw[ht.2.2];omega)).1 M U hb
 |xy c s x t u b i off n cs hc hs hx hi ht hu hf U hb=>
  have M:=J oS s (by rw[hc];simp[Op.operands,Call.operands]);have C:=J oS x (by rw[hc];simp[Op.operands,Call.operands]);rw[hs] at M;rw[hx] at C;obtain⟨e1,_⟩:=C.cX;refine call .append s x _ _ (by rw[hc]) (fun _=>rfl) ?_;rw[e1];exact(BO hm (hn rfl) (R6 b) (Rb (ty:=type) ht hu b) (jU ht.1).2 (by rw[ht.2.2];omega)).2.2 i off n cs M hi (by rw[ht.2.2];omega) U hb
 |yp c x t i es hc hx hi ht=>
  have C:=J oS x (by rw[hc];simp[Op.operands,Call.operands]);rw[hx] at C;exact SN .len x _ _ (by rw[hc]) (fun _=>rfl) (YL hm C hi ht)
 |xT c s t i off n r hc hs hi ic=>
  have M:=J oS s (by rw[hc];simp[Op.operands,Call.operands]);rw[hs] at M;exact SN .unsafeSliceData s _ _ (by rw[hc]) (fun _=>rfl) (XK hm M hi ic)
 |yq c p n t u e l i off cs k hc hp ic hi hl h0 ht he U oI=>
  have qp:=J oS p (by rw[hc];simp[Op.operands,Call.operands]);have qn:=J oS n (by rw[hc];simp[Op.operands,Call.operands]);rw[hp] at qp;rw[ic] at qn;exact call .unsafeString p n _ _ (by rw[hc]) (fun _=>rfl) (YM hm qp qn hi hl h0 ht he U oI)
 |Ab t hb ht hz=>exact W6 hm (hn rfl) ht hz
 |AJ t x d hb hx hd hs=>exact YN hm (hn rfl) hx hd hs (J oS x cF)
 |Ar t b i u x T hb hi ht hg=>
  have qa:=J oS b cF;rw[hb] at qa;exact XM hm qa hi ht hg
 |xz t b y i u x T hb hi ht hg hy=>
  have qa:=J oS b cF;have qy:=J oS y cF;rw[hb] at qa;exact W7 hm qa qy hi ht hg hy
end
theorem ab1{P:Program}{ops:Array Oper}{o:Oper}{st:St}{e:dt}(U:iD ops o st true)(ha:asks st.env o.op)(h:dc P (aZ st.env o.op) st.mem st.nx o.op e):dj.Ok P ops o st ⟨e.val,e.aT,e.rd,e.new⟩:=by
 intro F β w a m env N he J hm hr hn hN r n X K M;have C:=w8 he;refine Rc (m:=m) (nx:=st.nx) (β:=β) (F:=F) h.defer (U F β w a env he J) (XN hm (fun h1=>hn st.nx (bc _) (by simp[h1])) J (by rw[xd C];exact ha) ?_) M;exact(h.env (xh C)).mem hr
end Go.Abs
