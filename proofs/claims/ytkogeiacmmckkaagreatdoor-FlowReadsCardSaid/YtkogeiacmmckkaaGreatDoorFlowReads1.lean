/- Part 1 of the proof; the last part says what is proved. -/
import Derived.DeepKeys3
import Derived.RangeFuncLeaves
import Derived.WalkKit
import Derived.WideKeyMaps
set_option linter.all false
namespace Go.Abs
inductive D where
  | u
  | s (v:Value)
  | ub
  | opt (c:Bool) (d:D)
  | agg (cs:List D)
  | tup (cs:List D)
  | z
  | sl (es:List D) (n:Nat)
  | sc (es:List D) (n:Nat)
  | pt (cs:List D)
  | rs (i off n:Nat)
  | rp (i off:Nat)
  | mp (i:Nat)
  | im (es:List (Value×D))
  | fn (f:Fn) (fs cs:List D)
  | yl (i:Nat)
  deriving Inhabited
inductive Pl where
  | dead
  | nil
  | cells (b o len room sz:Nat)
  | map (r:Nat)
  | raw (r:Nat)
  | lp (r:Nat)
def Pl.blk:Pl→Option Nat
  | .cells b _ _ _ _=>some b
  | .map r=>some r
  | .raw r=>some r
  | .lp r=>some r
  | _=>none
@[simp] def plain1 : Value → Bool
 | .bool _ | .int _ _ | .string _ | .pointer none | .nilFunc | .nilIface | .map none=>true
 | _=>false
def plain:Value→Bool
  | .iface _ (.agg cs)=>cs.toList.all plain1
  | .iface _ v=>plain1 v
  | v=>plain1 v
abbrev Pla:=Nat→Option Pl
def Pla.free (β:Pla) (b:Nat):Prop:=∀ i p,β i=some p→p.blk≠some b
inductive R (F:Nat→Prop) (β:Pla) (w:World):D→Value→Prop
  | u (v:Value):R F β w .u v
  | s (v:Value) (h:plain v=true):R F β w (.s v) v
  | ub (b:Bool):R F β w .ub (.bool b)
  | opt (c:Bool) (d:D) (v:Value) (h:c=true→R F β w d v) (h':c=false→v=undef):R F β w (.opt c d) v
  | agg (cs:List D) (vs:List Value) (hl:vs.length=cs.length) (h:∀ (k:Nat) (d:D) (v:Value),cs[k]? =some d→vs[k]? =some v→R F β w d v):R F β w (.agg cs) (.agg vs.toArray)
  | tup (cs:List D) (vs:List Value) (hl:vs.length=cs.length) (h:∀ (k:Nat) (d:D) (v:Value),cs[k]? =some d→vs[k]? =some v→R F β w d v):R F β w (.tup cs) (.tuple vs.toArray)
  | z:R F β w .z (.slice none 0 0)
  | yl (i l:Nat) (h:β i=some (.lp l)):R F β w (.yl i) (.func (.yield l) #[] #[])
  | yld (i:Nat) (v:Value) (h:β i=some .dead) (hv:v.oneCell'=true):R F β w (.yl i) v
  | sln (a:Option Addr) (cap:Nat):R F β w (.sl [] 0) (.slice a 0 cap)
  | sl (es:List D) (n b o cap:Nat) (us:Nat→Value) (hf:¬ F b) (hb:β.free b) (hlt:b<w.heap.size) (hcap:n≤cap) (hmax:cap≤maxLen)
   (hc:∀ k:Nat,k<es.length→w.cell? ⟨b,o+k,none⟩=some (us k)∧(us k).oneCell'=true) (h:∀ (k:Nat) (d:D),es[k]? =some d→R F β w d (us k)):R F β w (.sl es n) (.slice (some ⟨b,o,none⟩) n cap)
  | sc (es:List D) (n:Nat) (a:Option Addr) (h:R F β w (.sl es n) (.slice a n n)):R F β w (.sc es n) (.slice a n n)
  | pt (cs:List D) (b o:Nat) (us:Nat→Value) (hf:¬ F b) (hb:β.free b) (hlt:b<w.heap.size)
   (hc:∀ k:Nat,k<cs.length→w.cell? ⟨b,o+k,none⟩=some (us k)∧(us k).oneCell'=true) (h:∀ (k:Nat) (d:D),cs[k]? =some d→R F β w d (us k)):R F β w (.pt cs) (.pointer (some ⟨b,o,none⟩))
  | rsd (i off n:Nat) (v:Value) (h:β i=some .dead) (hv:v.oneCell'=true):R F β w (.rs i off n) v
  | rsn (i:Nat) (a:Option Addr) (h:β i=some .nil):R F β w (.rs i 0 0) (.slice a 0 0)
  | rsz (i off:Nat) (a:Option Addr) (b o len room sz:Nat) (h:β i=some (.cells b o len room sz)):R F β w (.rs i off 0) (.slice a 0 0)
  | rs (i off n cap b o len room sz:Nat) (h:β i=some (.cells b o len room sz)) (hn:n≤cap) (hmax:cap≤maxLen)
   (h1:len≤off+cap*sz) (h2:off+cap*sz≤room):R F β w (.rs i off n) (.slice (some ⟨b,o+off,none⟩) n cap)
  | rpd (i off:Nat) (v:Value) (h:β i=some .dead) (hv:v.oneCell'=true):R F β w (.rp i off) v
  | rp (i off b o len room sz:Nat) (h:β i=some (.cells b o len room sz)):R F β w (.rp i off) (.pointer (some ⟨b,o+off,none⟩))
  | mpd (i:Nat) (v:Value) (h:β i=some .dead) (hv:v.oneCell'=true):R F β w (.mp i) v
  | mp (i r:Nat) (h:β i=some (.map r)):R F β w (.mp i) (.map (some r))
  | im (es:List (Value×D)) (r:Nat) (ms:Array MapEntry) (clock:Nat) (hf:¬ F r) (hb:β.free r) (hc:w.heap[r]? =some (.map ms clock)) (hl:ms.size=es.length) (hnd:(es.map (·.1)).Nodup)
   (hk:∀ (k:Nat) (x:Value×D) (m:MapEntry),es[k]? =some x→ms[k]? =some m→m.key=x.1) (h:∀ (k:Nat) (x:Value×D) (m:MapEntry),es[k]? =some x→ms[k]? =some m→R F β w x.2 m.val):R F β w (.im es) (.map (some r))
  | fn (f:Fn) (fs cs:List D) (us vs:List Value) (hl:us.length=fs.length) (hl':vs.length=cs.length)
   (h:∀ (k:Nat) (d:D) (v:Value),fs[k]? =some d→us[k]? =some v→R F β w d v) (h':∀ (k:Nat) (d:D) (v:Value),cs[k]? =some d→vs[k]? =some v→R F β w d v):R F β w (.fn f fs cs) (.func f us.toArray vs.toArray)
abbrev Out (w w':World):Prop:=w'.os=w.os∧w'.output=w.output
theorem Out.trans {w₁ w₂ w₃:World} (h:Out w₁ w₂) (k:Out w₂ w₃):Out w₁ w₃:=⟨k.1.trans h.1,k.2.trans h.2⟩
def Skel (w w':World) (r:Nat):Prop:=∀ L,w.heap[r]? =some (.loop L)→∃ st pe,w'.heap[r]? =some (.loop { L with state:=st,pending:=pe })
theorem skel_of {w w':World} {r:Nat} (h:w'.heap[r]? =w.heap[r]?):Skel w w' r:=fun L hL=>⟨L.state,L.pending,h.trans hL⟩
theorem skel_lt {w w':World} {r:Nat} (h:r<w.heap.size→w'.heap[r]? =w.heap[r]?):Skel w w' r:=fun L hL=>⟨L.state,L.pending,(h (Array.getElem?_eq_some_iff.1 hL).1).trans hL⟩
theorem Skel.trans {w w₁ w₂:World} {r:Nat} (h:Skel w w₁ r) (k:Skel w₁ w₂ r):Skel w w₂ r:=fun L hL=>by
  obtain ⟨a,b,h1⟩:=h L hL
  obtain ⟨c,d,h2⟩:=k _ h1
  exact ⟨c,d,h2⟩
structure Step (β:Pla) (w:World) (β':Pla) (w':World):Prop where
  size:w.heap.size≤w'.heap.size
  imm:∀ b,b<w.heap.size→β.free b→w'.heap[b]? =w.heap[b]? ∧β'.free b
  keep:∀ i p,β i=some p→β' i=some p∨β' i=some .dead
  out:Out w w'
  lp:∀ i r,β i=some (.lp r)→β' i=some (.lp r)→Skel w w' r
theorem Step.refl (β:Pla) (w:World):Step β w β w:=⟨Nat.le_refl _,fun _ _ h=>⟨rfl,h⟩,fun _ _ h=>.inl h,⟨rfl,rfl⟩,fun _ _ _ _=>skel_of rfl⟩
theorem Step.trans {β₁ β₂ β₃:Pla} {w₁ w₂ w₃:World} (h:Step β₁ w₁ β₂ w₂) (k:Step β₂ w₂ β₃ w₃):Step β₁ w₁ β₃ w₃:=by
  refine ⟨Nat.le_trans h.size k.size,fun b hb hf=>?_,fun i p hp=>?_,h.out.trans k.out,fun i r hp hp'=>?_⟩
  · obtain ⟨h1,h2⟩:=h.imm b hb hf
    obtain ⟨k1,k2⟩:=k.imm b (Nat.lt_of_lt_of_le hb h.size) h2
    exact ⟨k1.trans h1,k2⟩
  · rcases h.keep i p hp with h1 | h1
    · exact k.keep i p h1
    · right
      rcases k.keep i _ h1 with h2 | h2<;>exact h2
  · rcases h.keep i _ hp with h1 | h1
    · exact (h.lp i r hp h1).trans (k.lp i r h1 hp')
    · rcases k.keep i _ h1 with h2 | h2<;>(rw [h2] at hp';cases hp')
theorem cell_of_heap {w w':World} {b o:Nat} (h:w'.heap[b]? =w.heap[b]?):w'.cell? ⟨b,o,none⟩=w.cell? ⟨b,o,none⟩:=by
  simp [World.cell?,h]
def SameB (w w':World) (b:Nat):Prop:=(∀ o u,w.cell? ⟨b,o,none⟩=some u→w'.cell? ⟨b,o,none⟩=some u)∧∀ ms c,w.heap[b]? =some (.map ms c)→w'.heap[b]? =some (.map ms c)
theorem same_of {w w':World} {b:Nat} (h:w'.heap[b]? =w.heap[b]?):SameB w w' b:=⟨fun _ _ hu=>(cell_of_heap h).trans hu,fun _ _ hm=>h.trans hm⟩
theorem SameB.refl (w:World) (b:Nat):SameB w w b:=⟨fun _ _ h=>h,fun _ _ h=>h⟩
theorem R.gen {F F':Nat→Prop} {β β':Pla} {w w':World} (hsz:w.heap.size≤w'.heap.size)
    (himm:∀ b,b<w.heap.size→¬ F b→β.free b→SameB w w' b∧β'.free b∧¬ F' b)
    (hkeep:∀ i p,(∀ r,p≠ .raw r)→β i=some p→β' i=some p∨β' i=some .dead) {d:D} {v:Value} (h:R F β w d v):R F' β' w' d v:=by
  induction h with
  | u v=>exact .u v
  | s v h=>exact .s v h
  | ub b=>exact .ub b
  | opt c d v _ h' ih=>exact .opt c d v ih h'
  | agg cs vs hl _ ih=>exact .agg cs vs hl ih
  | tup cs vs hl _ ih=>exact .tup cs vs hl ih
  | z=>exact .z
  | yl i l h=>
    rcases hkeep i _ (by simp) h with h1 | h1
    · exact .yl i l h1
    · exact .yld i _ h1 rfl
  | yld i v h hv=>exact .yld i v (by rcases hkeep i _ (by simp) h with h1 | h1<;>exact h1) hv
  | sln a cap=>exact .sln a cap
  | sl es n b o cap us hf hb hlt hcap hmax hc _ ih=>
    obtain ⟨h1,h2,h3⟩:=himm b hlt hf hb
    exact .sl es n b o cap us h3 h2 (Nat.lt_of_lt_of_le hlt hsz) hcap hmax (fun k hk=>⟨h1.1 _ _ (hc k hk).1,(hc k hk).2⟩) ih
  | sc es n a _ ih=>exact .sc es n a ih
  | pt cs b o us hf hb hlt hc _ ih=>
    obtain ⟨h1,h2,h3⟩:=himm b hlt hf hb
    exact .pt cs b o us h3 h2 (Nat.lt_of_lt_of_le hlt hsz) (fun k hk=>⟨h1.1 _ _ (hc k hk).1,(hc k hk).2⟩) ih
  | rsd i off n v h hv=>exact .rsd i off n v (by rcases hkeep i _ (by simp) h with h1 | h1<;>exact h1) hv
  | rsn i a h=>
    rcases hkeep i _ (by simp) h with h1 | h1
    · exact .rsn i a h1
    · exact .rsd i 0 0 _ h1 rfl
  | rsz i off a b o len room sz h=>
    rcases hkeep i _ (by simp) h with h1 | h1
    · exact .rsz i off a b o len room sz h1
    · exact .rsd i off 0 _ h1 rfl
  | rs i off n cap b o len room sz h hn hmax h1 h2=>
    rcases hkeep i _ (by simp) h with h3 | h3
    · exact .rs i off n cap b o len room sz h3 hn hmax h1 h2
    · exact .rsd i off n _ h3 rfl
  | rpd i off v h hv=>exact .rpd i off v (by rcases hkeep i _ (by simp) h with h1 | h1<;>exact h1) hv
  | rp i off b o len room sz h=>
    rcases hkeep i _ (by simp) h with h1 | h1
    · exact .rp i off b o len room sz h1
    · exact .rpd i off _ h1 rfl
  | mpd i v h hv=>exact .mpd i v (by rcases hkeep i _ (by simp) h with h1 | h1<;>exact h1) hv
  | mp i r h=>
    rcases hkeep i _ (by simp) h with h1 | h1
    · exact .mp i r h1
    · exact .mpd i _ h1 rfl
  | im es r ms clock hf hb hc hl hnd hk _ ih=>
    obtain ⟨h1,h2,h3⟩:=himm r (Array.getElem?_eq_some_iff.1 hc).1 hf hb
    exact .im es r ms clock h3 h2 (h1.2 _ _ hc) hl hnd hk ih
  | fn f fs cs us vs hl hl' _ _ ih ih'=>exact .fn f fs cs us vs hl hl' ih ih'
theorem R.step {F:Nat→Prop} {β β':Pla} {w w':World} (hs:Step β w β' w') {d:D} {v:Value} (h:R F β w d v):R F β' w' d v:=
  h.gen hs.size (fun b hb hf hfree=>⟨same_of (hs.imm b hb hfree).1,(hs.imm b hb hfree).2,hf⟩) fun i p _=>hs.keep i p
inductive RS where
  | ready
  | busy
  | done (e:Exit)
def exitC:Exit→Option Code
  | .ret=>some .ret
  | .exit id=>some (.exit id)
  | _=>none
def RS.Is (L:Loop):RS→Prop
  | .ready=>L.state=.ready∧L.pending=none
  | .busy=>L.state=.busy∧L.pending=none
  | .done e=>L.state=.done∧L.pending=exitC e
inductive Row where
  | cells (cs:List D) (e:TypeId)
  | map (es:List (Value×D))
  | raw (r:Nat) (o:Obj)
  | bs (u:Bool) (x:D) (T:TypeId)
  | ren (f:Nat→Option Nat) (r:Row)
  | lp (k:RS)
abbrev Mem:=Nat→Option Row
inductive RowB (P:Program) (F:Nat→Prop) (β:Pla) (w:World):Row→Pl→Prop
  | nil (e:TypeId):RowB P F β w (.cells [] e) .nil
  | cells (cs:List D) (e:TypeId) (b o room sz:Nat) (c:Array Value) (hb:w.heap[b]? =some (.cells c e (0,0))) (hr:o+room≤c.size) (hlen:cs.length≤room) (hsz:sz=P.cellsOf e)
      (h:∀ (k:Nat) (d:D),cs[k]? =some d→∃ v,c[o+k]? =some v∧R F β w d v∧v.oneCell'=true):RowB P F β w (.cells cs e) (.cells b o cs.length room sz)
  | map (es:List (Value×D)) (r:Nat) (ms:Array MapEntry) (clock:Nat) (hb:w.heap[r]? =some (.map ms clock)) (hl:ms.size=es.length) (hnd:(es.map (·.1)).Nodup)
      (h:∀ (k:Nat) (x:Value×D) (m:MapEntry),es[k]? =some x→ms[k]? =some m→m.key=x.1∧R F β w x.2 m.val):RowB P F β w (.map es) (.map r)
  | raw (r:Nat) (o:Obj) (hb:w.heap[r]? =some o):RowB P F β w (.raw r o) (.raw r)
  | lp (k:RS) (r:Nat) (L:Loop) (hb:w.heap[r]? =some (.loop L)) (hk:RS.Is L k):RowB P F β w (.lp k) (.lp r)
  | bs (u:Bool) (x:D) (T:TypeId) (b:Nat) (v:Value) (hb:w.heap[b]? =some (.cells #[.pointer (if u then some ⟨b,0,none⟩ else none),v] T (0,0))) (hsz:P.cellsOf T=2) (h:R F β w x v) (h1:v.oneCell'=true):RowB P F β w (.bs u x T) (.cells b 0 2 2 2)
def Pla.via (β:Pla) (f:Nat→Option Nat):Pla:=fun i=>(f i).bind β
inductive RowR (P:Program) (F:Nat→Prop) (β:Pla) (w:World):Row→Pl→Prop
  | nil (e:TypeId):RowR P F β w (.cells [] e) .nil
  | cells (cs:List D) (e:TypeId) (b o room sz:Nat) (c:Array Value) (hb:w.heap[b]? =some (.cells c e (0,0))) (hr:o+room≤c.size) (hlen:cs.length≤room) (hsz:sz=P.cellsOf e)
      (h:∀ (k:Nat) (d:D),cs[k]? =some d→∃ v,c[o+k]? =some v∧R F β w d v∧v.oneCell'=true):RowR P F β w (.cells cs e) (.cells b o cs.length room sz)
  | map (es:List (Value×D)) (r:Nat) (ms:Array MapEntry) (clock:Nat) (hb:w.heap[r]? =some (.map ms clock)) (hl:ms.size=es.length) (hnd:(es.map (·.1)).Nodup)
      (h:∀ (k:Nat) (x:Value×D) (m:MapEntry),es[k]? =some x→ms[k]? =some m→m.key=x.1∧R F β w x.2 m.val):RowR P F β w (.map es) (.map r)
  | raw (r:Nat) (o:Obj) (hb:w.heap[r]? =some o):RowR P F β w (.raw r o) (.raw r)
  | lp (k:RS) (r:Nat) (L:Loop) (hb:w.heap[r]? =some (.loop L)) (hk:RS.Is L k):RowR P F β w (.lp k) (.lp r)
  | bs (u:Bool) (x:D) (T:TypeId) (b:Nat) (v:Value) (hb:w.heap[b]? =some (.cells #[.pointer (if u then some ⟨b,0,none⟩ else none),v] T (0,0))) (hsz:P.cellsOf T=2) (h:R F β w x v) (h1:v.oneCell'=true):RowR P F β w (.bs u x T) (.cells b 0 2 2 2)
  | ren (f:Nat→Option Nat) (r:Row) (p:Pl) (F₂:Nat→Prop) (h1:∀ b,F b→F₂ b) (h2:∀ b,¬ β.free b→(β.via f).free b→F₂ b) (h:RowB P F₂ (β.via f) w r p):RowR P F β w (.ren f r) p
def tabs:List (Nat×Array Value):=[(0, #[.int .u64 1,.int .u64 10,.int .u64 100,.int .u64 1000,.int .u64 10000,.int .u64 100000,.int .u64 1000000,.int .u64 10000000,.int .u64 100000000,.int .u64 1000000000,.int .u64 10000000000,.int .u64 100000000000,.int .u64 1000000000000,.int .u64 10000000000000,.int .u64 100000000000000,.int .u64 1000000000000000,.int .u64 10000000000000000,.int .u64 100000000000000000,.int .u64 1000000000000000000,.int .u64 10000000000000000000])]
def tabAt (w:World) (t:Nat×Array Value):Prop:=∃ e k,w.heap[t.1]? =some (.cells t.2 e k)
theorem tabAt.of {w w':World} {t:Nat×Array Value} (h:tabAt w t) (hk:w'.heap[t.1]? =w.heap[t.1]?):tabAt w' t:=by
  obtain ⟨e,k,h⟩:=h
  exact ⟨e,k,hk.trans h⟩
structure FB (F:Nat→Prop) (w:World):Prop where
  lt:∀ b,F b→b<w.heap.size
  tab:∀ t∈tabs,F t.1∧tabAt w t
theorem FB.next {F F':Nat→Prop} {w w':World} (h:FB F w) (hlt:∀ b,F' b→b<w'.heap.size) (hF:∀ b,F b→F' b) (hk:∀ t∈tabs,F t.1→w'.heap[t.1]? =w.heap[t.1]?):FB F' w':=
  ⟨hlt,fun t ht=>⟨hF _ (h.tab t ht).1,(h.tab t ht).2.of (hk t ht (h.tab t ht).1)⟩⟩
theorem tabs_nd {w:World} {t:Nat×Array Value} (h:tabAt w t) (x:Option (List Deferred)):w.heap[t.1]? ≠some (.deferred x):=by
  obtain ⟨e,k,h⟩:=h
  rw [h]
  simp
structure MSim (P:Program) (F:Nat→Prop) (m:Mem) (β:Pla) (w:World):Prop where
  row:∀ i r,m i=some r→∃ p,β i=some p∧RowR P F β w r p
  inj:∀ i j p q b,β i=some p→β j=some q→p.blk=some b→q.blk=some b→i=j
  lt:∀ i p b,β i=some p→p.blk=some b→b<w.heap.size
  nf:∀ i p b,β i=some p→p.blk=some b→¬ F b
  fb:FB F w
def up {α:Type} (f:Nat→α) (k:Nat) (v:α):Nat→α:=fun j=>if j=k then v else f j
theorem up_apply {α:Type} (f:Nat→α) (k:Nat) (v:α) (j:Nat):up f k v j=if j=k then v else f j:=rfl
theorem up_same {α:Type} (f:Nat→α) (k:Nat) (v:α):up f k v k=v:=by simp [up]
theorem up_ne {α:Type} (f:Nat→α) {k:Nat} (v:α) {j:Nat} (h:j≠k):up f k v j=f j:=by simp [up,h]
section
variable {P:Program} {F:Nat→Prop} {β β':Pla} {w w':World} {m:Mem}
theorem RowB.gen {F':Nat→Prop} (hsz:w.heap.size≤w'.heap.size)
    (himm:∀ b,b<w.heap.size→¬ F b→β.free b→SameB w w' b∧β'.free b∧¬ F' b)
    (hkeep:∀ i p,(∀ r,p≠ .raw r)→β i=some p→β' i=some p∨β' i=some .dead) {r:Row} {p:Pl} (hb:∀ b,p.blk=some b→w'.heap[b]? =w.heap[b]?) (h:RowB P F β w r p):RowB P F' β' w' r p:=by
  cases h with
  | nil e=>exact .nil e
  | cells cs e b o room sz c hc hr hlen hs hh=>
    refine .cells cs e b o room sz c ((hb b rfl).trans hc) hr hlen hs fun k d hk=>?_
    obtain ⟨v,h1,h2,h3⟩:=hh k d hk
    exact ⟨v,h1,h2.gen hsz himm hkeep,h3⟩
  | map es r ms clock hc hl hnd hh=>
    refine .map es r ms clock ((hb r rfl).trans hc) hl hnd fun k x mm hk hm=>?_
    obtain ⟨h1,h2⟩:=hh k x mm hk hm
    exact ⟨h1,h2.gen hsz himm hkeep⟩
  | raw r o hc=>exact .raw r o ((hb r rfl).trans hc)
  | lp k r L hc hk=>exact .lp k r L ((hb r rfl).trans hc) hk
  | bs u x T b v hc hs hx h1=>exact .bs u x T b v ((hb b rfl).trans hc) hs (hx.gen hsz himm hkeep) h1
theorem Pla.free_via {β:Pla} {b:Nat} (h:β.free b) (f:Nat→Option Nat):(β.via f).free b:=fun i p hp=>by
  unfold Pla.via at hp
  obtain ⟨j,_,hj⟩:=Option.bind_eq_some_iff.1 hp
  exact h j p hj
theorem RowR.gen {F':Nat→Prop} (hsz:w.heap.size≤w'.heap.size)
    (himm:∀ b,b<w.heap.size→¬ F b→β.free b→SameB w w' b∧β'.free b∧¬ F' b)
    (hkeep:∀ i p,(∀ r,p≠ .raw r)→β i=some p→β' i=some p∨β' i=some .dead) {r:Row} {p:Pl} (hb:∀ b,p.blk=some b→w'.heap[b]? =w.heap[b]?) (h:RowR P F β w r p):RowR P F' β' w' r p:=by
  cases h with
  | nil e=>exact .nil e
  | cells cs e b o room sz c hc hr hlen hs hh=>
    refine .cells cs e b o room sz c ((hb b rfl).trans hc) hr hlen hs fun k d hk=>?_
    obtain ⟨v,h1,h2,h3⟩:=hh k d hk
    exact ⟨v,h1,h2.gen hsz himm hkeep,h3⟩
  | map es r ms clock hc hl hnd hh=>
    refine .map es r ms clock ((hb r rfl).trans hc) hl hnd fun k x mm hk hm=>?_
    obtain ⟨h1,h2⟩:=hh k x mm hk hm
    exact ⟨h1,h2.gen hsz himm hkeep⟩
  | raw r o hc=>exact .raw r o ((hb r rfl).trans hc)
  | lp k r L hc hk=>exact .lp k r L ((hb r rfl).trans hc) hk
  | bs u x T b v hc hs hx h1=>exact .bs u x T b v ((hb b rfl).trans hc) hs (hx.gen hsz himm hkeep) h1
  | ren f r _ F₂ h1 h2 h=>
    refine .ren f r p (fun b=>F' b∨(¬ β'.free b∧(β'.via f).free b)) (fun b hb=>.inl hb) (fun b g1 g2=>.inr ⟨g1,g2⟩) (h.gen hsz (fun b hlt g1 g2=>?_) (fun i q hq hi=>?_) hb)
    · have g3:β.free b:=Classical.byContradiction fun hn=>g1 (h2 b hn g2)
      obtain ⟨k1,k2,k3⟩:=himm b hlt (fun e=>g1 (h1 b e)) g3
      exact ⟨k1,Pla.free_via k2 f,fun e=>e.elim k3 fun e=>e.1 k2⟩
    · unfold Pla.via at hi ⊢
      obtain ⟨j,hj,hβ⟩:=Option.bind_eq_some_iff.1 hi
      rw [hj]
      exact hkeep j q hq hβ
theorem RowR.step {r:Row} {p:Pl} (hs:Step β w β' w') (hb:∀ b,p.blk=some b→w'.heap[b]? =w.heap[b]?) (h:RowR P F β w r p):RowR P F β' w' r p:=
  h.gen hs.size (fun b hb hf hfree=>⟨same_of (hs.imm b hb hfree).1,(hs.imm b hb hfree).2,hf⟩) (fun i p _=>hs.keep i p) hb
theorem RowB.live {r:Row} {p:Pl} (h:RowB P F β w r p):p≠ .dead:=by cases h<;>simp
theorem RowR.live {r:Row} {p:Pl} (h:RowR P F β w r p):p≠ .dead:=by
  cases h with
  | ren _ _ _ _ _ _ h=>exact h.live
  | _=>simp
def Row.renB (f:Nat→Option Nat):Row→Row
  | .ren g r=>.ren (fun i=>(g i).bind f) r
  | r=>.ren f r
theorem RowR.base {r:Row} {p:Pl} (hq:∀ f r',r≠ .ren f r') (h:RowR P F β w r p):RowB P F β w r p:=by
  cases h with
  | nil e=>exact .nil e
  | cells cs e b o room sz c hc hr hlen hs hh=>exact .cells cs e b o room sz c hc hr hlen hs hh
  | map es r ms clock hc hl hnd hh=>exact .map es r ms clock hc hl hnd hh
  | raw r o hc=>exact .raw r o hc
  | lp k r L hc hk=>exact .lp k r L hc hk
  | bs u x T b v hc hs hx h1=>exact .bs u x T b v hc hs hx h1
  | ren f r _ _ _ _ _=>exact absurd rfl (hq f r)
theorem RowB.row {r:Row} {p:Pl} (h:RowB P F β w r p):RowR P F β w r p:=by
  cases h with
  | nil e=>exact .nil e
  | cells cs e b o room sz c hc hr hlen hs hh=>exact .cells cs e b o room sz c hc hr hlen hs hh
  | map es r ms clock hc hl hnd hh=>exact .map es r ms clock hc hl hnd hh
  | raw r o hc=>exact .raw r o hc
  | lp k r L hc hk=>exact .lp k r L hc hk
  | bs u x T b v hc hs hx h1=>exact .bs u x T b v hc hs hx h1
theorem RowB.weak {F':Nat→Prop} {r:Row} {p:Pl} (hF:∀ b,b<w.heap.size→β.free b→F' b→F b) (h:RowB P F β w r p):RowB P F' β w r p:=
  h.gen (Nat.le_refl _) (fun b hb h1 h2=>⟨SameB.refl w b,h2,fun e=>h1 (hF b hb h2 e)⟩) (fun _ _ _ h=>.inl h) fun _ _=>rfl
def hidden (F:Nat→Prop) (β:Pla) (f:Nat→Option Nat):Nat→Prop:=fun b=>F b∨(¬ β.free b∧(β.via f).free b)
theorem via_via (β:Pla) (f g:Nat→Option Nat):(β.via f).via g=β.via fun i=>(g i).bind f:=by
  funext i
  simp only [Pla.via]
  cases g i<;>rfl
theorem RowR.seen {f:Nat→Option Nat} {r:Row} {p:Pl} (h:RowR P F β w (r.renB f) p):RowR P (hidden F β f) (β.via f) w r p:=by
  have key:∀ r',RowR P F β w (.ren f r') p→RowB P (hidden F β f) (β.via f) w r' p:=fun r' h=>by
    cases h with
    | ren _ _ _ F₂ h1 h2 h=>exact h.weak fun b _ _ hb=>hb.elim (h1 b) fun e=>h2 b e.1 e.2
  cases r with
  | ren g r=>
    simp only [Row.renB] at h
    cases h with
    | ren _ _ _ F₂ h1 h2 h=>
    refine .ren g r p F₂ (fun b hb=>?_) (fun b g1 g2=>?_) (by rw [via_via];exact h)
    · rcases hb with hb | ⟨g1,g2⟩
      · exact h1 b hb
      · exact h2 b g1 (by rw [← via_via];exact Pla.free_via g2 g)
    · exact h2 b (fun e=>g1 (Pla.free_via e f)) (by rw [← via_via];exact g2)
  | _=>exact (key _ h).row
theorem RowR.hide {F':Nat→Prop} {f:Nat→Option Nat} {r:Row} {p:Pl} (h:RowR P F' (β.via f) w r p) (h1:∀ b,F b→F' b) (h2:∀ b,¬ β.free b→(β.via f).free b→F' b):RowR P F β w (r.renB f) p:=by
  cases r with
  | ren g r=>
    simp only [Row.renB]
    cases h with
    | ren _ _ _ F₂ g1 g2 h=>
    refine .ren _ r p F₂ (fun b hb=>g1 b (h1 b hb)) (fun b k1 k2=>?_) (by rw [← via_via];exact h)
    by_cases hb:(β.via f).free b
    · exact g1 b (h2 b k1 hb)
    · exact g2 b hb (by rw [via_via];exact k2)
  | _=>exact .ren f _ p F' h1 h2 (h.base (by simp))
theorem MSim.block (h:MSim P F m β w) {i:Nat} {p:Pl} {b:Nat} (hp:β i=some p) (hb:p.blk=some b):b<w.heap.size:=h.lt i p b hp hb
theorem MSim.free_other (h:MSim P F m β w) {i:Nat} {p:Pl} {b:Nat} (hp:β i=some p) (hb:p.blk=some b) {j:Nat} {q:Pl} (hq:β j=some q) (hji:j≠i):q.blk≠some b:=
  fun e=>hji (h.inj j i q p b hq hp e hb)
theorem step_alloc (h:MSim P F m β w) (o:Obj) {nx:Nat} (hn:β nx=none) (p:Pl) (hp:∀ b,p.blk=some b→b=w.heap.size):Step β w (up β nx (some p)) (w.alloc o):=by
  refine ⟨by simp,fun b hb hf=>⟨heap_alloc_old w o hb,fun i q hq=>?_⟩,fun i q hq=>?_,⟨rfl,rfl⟩,fun i r _ _=>skel_lt fun hr=>heap_alloc_old w o hr⟩
  · by_cases hi:i=nx
    · subst hi
      rw [up_same] at hq
      cases hq
      intro e
      have:=hp b e
      omega
    · rw [up_ne _ _ hi] at hq
      exact hf i q hq
  · left
    rw [up_ne _ _ (fun e=>by rw [e,hn] at hq;cases hq)]
    exact hq
theorem MSim.alloc (h:MSim P F m β w) {nx:Nat} (hn:β nx=none) (o:Obj) (r:Row) (p:Pl) (hp:∀ b,p.blk=some b→b=w.heap.size)
    (hr:RowR P F (up β nx (some p)) (w.alloc o) r p):MSim P F (up m nx (some r)) (up β nx (some p)) (w.alloc o):=by
  have hs:=step_alloc h o hn p hp
  refine ⟨fun i r' hi=>?_,fun i j q q' b hq hq' e e'=>?_,fun i q b hq e=>?_,fun i q b hq e=>?_,?_⟩
  · by_cases hin:i=nx
    · subst hin
      rw [up_same] at hi
      cases hi
      exact ⟨p,up_same _ _ _,hr⟩
    · rw [up_ne _ _ hin] at hi
      obtain ⟨q,hq,hrow⟩:=h.row i r' hi
      exact ⟨q,by rw [up_ne _ _ hin];exact hq,hrow.step hs fun b hb=>heap_alloc_old w o (h.lt i q b hq hb)⟩
  · by_cases hi:i=nx<;>by_cases hj:j=nx
    · rw [hi,hj]
    · subst hi
      rw [up_same] at hq
      rw [up_ne _ _ hj] at hq'
      cases hq
      have h1:=hp b e
      have h2:=h.lt j q' b hq' e'
      omega
    · subst hj
      rw [up_same] at hq'
      rw [up_ne _ _ hi] at hq
      cases hq'
      have h1:=hp b e'
      have h2:=h.lt i q b hq e
      omega
    · rw [up_ne _ _ hi] at hq
      rw [up_ne _ _ hj] at hq'
      exact h.inj i j q q' b hq hq' e e'
  · by_cases hi:i=nx
    · subst hi
      rw [up_same] at hq
      cases hq
      have:=hp b e
      simp;omega
    · rw [up_ne _ _ hi] at hq
      have:=h.lt i q b hq e
      simp;omega
  · by_cases hi:i=nx
    · subst hi
      rw [up_same] at hq
      cases hq
      intro hF
      have h1:=hp b e
      have h2:=h.fb.lt b hF
      omega
    · rw [up_ne _ _ hi] at hq
      exact h.nf i q b hq e
  · exact h.fb.next (fun b hb=>by have:=h.fb.lt b hb;simp;omega) (fun _ h=>h) fun t _ hF=>heap_alloc_old w o (h.fb.lt _ hF)
theorem step_dead (β:Pla) (w:World) (i:Nat):Step β w (up β i (some .dead)) w:=by
  refine ⟨Nat.le_refl _,fun b _ hf=>⟨rfl,fun j q hq=>?_⟩,fun j q hq=>?_,⟨rfl,rfl⟩,fun _ _ _ _=>skel_of rfl⟩
  · by_cases hj:j=i
    · subst hj
      rw [up_same] at hq
      cases hq
      simp [Pl.blk]
    · rw [up_ne _ _ hj] at hq
      exact hf j q hq
  · by_cases hj:j=i
    · subst hj
      exact .inr (up_same _ _ _)
    · exact .inl (by rw [up_ne _ _ hj];exact hq)
theorem MSim.dead (h:MSim P F m β w) (i:Nat):MSim P F (up m i none) (up β i (some .dead)) w:=by
  have hs:=step_dead β w i
  have hsub:∀ j q b,up β i (some .dead) j=some q→q.blk=some b→j≠i∧β j=some q:=fun j q b hq e=>by
    by_cases hj:j=i
    · subst hj
      rw [up_same] at hq
      cases hq
      simp [Pl.blk] at e
    · rw [up_ne _ _ hj] at hq
      exact ⟨hj,hq⟩
  refine ⟨fun j r' hj=>?_,fun j k q q' b hq hq' e e'=>?_,fun j q b hq e=>h.lt j q b (hsub j q b hq e).2 e,fun j q b hq e=>h.nf j q b (hsub j q b hq e).2 e,h.fb⟩
  · by_cases hji:j=i
    · subst hji
      rw [up_same] at hj
      cases hj
    · rw [up_ne _ _ hji] at hj
      obtain ⟨q,hq,hrow⟩:=h.row j r' hj
      exact ⟨q,by rw [up_ne _ _ hji];exact hq,hrow.step hs fun b _=>rfl⟩
  · exact h.inj j k q q' b (hsub j q b hq e).2 (hsub k q' b hq' e').2 e e'
theorem step_write (h:MSim P F m β w) {i:Nat} {p:Pl} {b:Nat} (hp:β i=some p) (hb:p.blk=some b) (hw:w.heap.size≤w'.heap.size)
    (ho:∀ k,k≠b→w'.heap[k]? =w.heap[k]?) (hout:Out w w':=by first | exact ⟨rfl,rfl⟩ | assumption) (hnl:∀ r,p≠ .lp r:=by intro _ h;cases h):Step β w β w':=
  ⟨hw,fun k _ hf=>⟨ho k fun e=>hf i p hp (e▸hb),hf⟩,fun _ _ hq=>.inl hq,hout,fun j r hj _=>skel_of (ho r fun e=>by
    have:=h.inj j i _ p b hj hp (by simp [Pl.blk,e]) hb
    subst this
    rw [hp] at hj
    exact hnl r (Option.some.inj hj))⟩
theorem MSim.write (h:MSim P F m β w) {i:Nat} {p:Pl} {b:Nat} (hp:β i=some p) (hb:p.blk=some b) (hw:w'.heap.size=w.heap.size)
    (ho:∀ k,k≠b→w'.heap[k]? =w.heap[k]?) (r:Row) (hr:RowR P F β w' r p) (hout:Out w w':=by first | exact ⟨rfl,rfl⟩ | assumption) (hnl:∀ r,p≠ .lp r:=by intro _ h;cases h):MSim P F (up m i (some r)) β w':=by
  have hs:=step_write h hp hb (by omega) ho hout hnl
  refine ⟨fun j r' hj=>?_,h.inj,fun j q c hq e=>by rw [hw];exact h.lt j q c hq e,h.nf,h.fb.next (fun c hc=>by rw [hw];exact h.fb.lt c hc) (fun _ h=>h) fun t _ hF=>ho _ fun e=>h.nf _ _ _ hp hb (e▸hF)⟩
  by_cases hji:j=i
  · subst hji
    rw [up_same] at hj
    cases hj
    exact ⟨p,hp,hr⟩
  · rw [up_ne _ _ hji] at hj
    obtain ⟨q,hq,hrow⟩:=h.row j r' hj
    exact ⟨q,hq,hrow.step hs fun c hc=>ho c fun e=>h.free_other hp hb hq hji (e▸hc)⟩
theorem MSim.move (h:MSim P F m β w) {i nx:Nat} {p p':Pl} {b:Nat} (hp:β i=some p) (hb:p.blk=some b) (hb':p'.blk=some b) (hn:β nx=none) (hw:w'.heap.size=w.heap.size)
    (ho:∀ k,k≠b→w'.heap[k]? =w.heap[k]?) (r:Row) (hr:Step β w (up (up β i (some .dead)) nx (some p')) w'→RowR P F (up (up β i (some .dead)) nx (some p')) w' r p') (hout:Out w w':=by first | exact ⟨rfl,rfl⟩ | assumption):
    MSim P F (up (up m i none) nx (some r)) (up (up β i (some .dead)) nx (some p')) w'∧Step β w (up (up β i (some .dead)) nx (some p')) w':=by
  have hin:i≠nx:=fun e=>by rw [e,hn] at hp;cases hp
  have hlook:∀ j q,up (up β i (some .dead)) nx (some p') j=some q→(j=nx∧q=p')∨(j=i∧q=.dead)∨(j≠nx∧j≠i∧β j=some q):=fun j q hq=>by
    by_cases hj:j=nx
    · subst hj
      rw [up_same] at hq
      cases hq
      exact .inl ⟨rfl,rfl⟩
    · rw [up_ne _ _ hj] at hq
      by_cases hji:j=i
      · subst hji
        rw [up_same] at hq
        cases hq
        exact .inr (.inl ⟨rfl,rfl⟩)
      · rw [up_ne _ _ hji] at hq
        exact .inr (.inr ⟨hj,hji,hq⟩)
  have hs:Step β w (up (up β i (some .dead)) nx (some p')) w':=by
    refine ⟨by omega,fun c hc hf=>⟨ho c fun e=>hf i p hp (e▸hb),fun j q hq e=>?_⟩,fun j q hq=>?_,hout,fun j r hj hj'=>skel_of (ho r fun e=>?_)⟩
    rotate_left 2
    · rcases hlook j _ hj' with ⟨rfl,h1⟩ | ⟨rfl,h1⟩ | ⟨h1,h2,h3⟩
      · rw [hn] at hj;cases hj
      · cases h1
      · exact h2 (h.inj j i _ p b h3 hp (by simp [Pl.blk,e]) hb)
    · rcases hlook j q hq with ⟨rfl,rfl⟩ | ⟨rfl,rfl⟩ | ⟨_,_,hq'⟩
      · rw [hb'] at e
        cases e
        exact hf i p hp hb
      · simp [Pl.blk] at e
      · exact hf j q hq' e
    · by_cases hji:j=i
      · subst hji
        exact .inr (by rw [up_ne _ _ hin,up_same])
      · have hj:j≠nx:=fun e=>by rw [e,hn] at hq;cases hq
        exact .inl (by rw [up_ne _ _ hj,up_ne _ _ hji];exact hq)
  refine ⟨⟨fun j r' hj=>?_,fun j k q q' c hq hq' e e'=>?_,fun j q c hq e=>?_,fun j q c hq e=>?_,h.fb.next (fun c hc=>by rw [hw];exact h.fb.lt c hc) (fun _ h=>h) fun t _ hF=>ho _ fun e=>h.nf _ _ _ hp hb (e▸hF)⟩,hs⟩
  · by_cases hjn:j=nx
    · subst hjn
      rw [up_same] at hj
      cases hj
      exact ⟨p',up_same _ _ _,hr hs⟩
    · rw [up_ne _ _ hjn] at hj
      by_cases hji:j=i
      · subst hji
        rw [up_same] at hj
        cases hj
      · rw [up_ne _ _ hji] at hj
        obtain ⟨q,hq,hrow⟩:=h.row j r' hj
        exact ⟨q,by rw [up_ne _ _ hjn,up_ne _ _ hji];exact hq,hrow.step hs fun c hc=>ho c fun e=>h.free_other hp hb hq hji (e▸hc)⟩
  · rcases hlook j q hq with ⟨rfl,rfl⟩ | ⟨rfl,rfl⟩ | ⟨h1,h2,h3⟩<;>rcases hlook k q' hq' with ⟨rfl,rfl⟩ | ⟨rfl,rfl⟩ | ⟨k1,k2,k3⟩
    · rfl
    · simp [Pl.blk] at e'
    · rw [hb'] at e
      cases e
      exact absurd e' (h.free_other hp hb k3 k2)
    · simp [Pl.blk] at e
    · rfl
    · simp [Pl.blk] at e
    · rw [hb'] at e'
      cases e'
      exact absurd e (h.free_other hp hb h3 h2)
    · simp [Pl.blk] at e'
    · exact h.inj j k q q' c h3 k3 e e'
  · rw [hw]
    rcases hlook j q hq with ⟨rfl,rfl⟩ | ⟨rfl,rfl⟩ | ⟨_,_,h3⟩
    · rw [hb'] at e
      cases e
      exact h.lt i p b hp hb
    · simp [Pl.blk] at e
    · exact h.lt j q c h3 e
  · rcases hlook j q hq with ⟨rfl,rfl⟩ | ⟨rfl,rfl⟩ | ⟨_,_,h3⟩
    · rw [hb'] at e
      cases e
      exact h.nf i p b hp hb
    · simp [Pl.blk] at e
    · exact h.nf j q c h3 e
end
def toD1:Value→D
  | .bool b=>.s (.bool b)
  | .int k n=>.s (.int k n)
  | .string b=>.s (.string b)
  | .pointer none=>.s (.pointer none)
  | .nilFunc=>.s .nilFunc
  | .nilIface=>.s .nilIface
  | .map none=>.s (.map none)
  | .slice none 0 0=>.z
  | _=>.u
def toD:Value→D
  | .agg cs=>.agg (cs.toList.map toD1)
  | .bool b=>.s (.bool b)
  | .int k n=>.s (.int k n)
  | .string b=>.s (.string b)
  | .pointer none=>.s (.pointer none)
  | .nilFunc=>.s .nilFunc
  | .nilIface=>.s .nilIface
  | .map none=>.s (.map none)
  | .slice none 0 0=>.z
  | _=>.u
abbrev Env:=Nat→D
structure St where
  env:Env
  mem:Mem
  nx:Nat
def St.put (st:St) (d:Option Nat) (v:D):St:=
  match d with
  | some t=>{ st with env:=up st.env t v }
  | none=>st
def opd (env:Env):Operand→D
  | .tmp t=>env t
  | .const v=>toD v
  | .global _=>.u
  | .func f=>.fn (.func f) [] []
def D.core:D→D
  | .opt _ d=>d
  | d=>d
def D.ask:D→Prop
  | .opt c _=>c=true
  | _=>True
section types
variable (P:Program)
def aggP (t:TypeId):Bool:=match P.underlying t with
  | some (.struct _)=>true
  | some (.array _ _)=>true
  | _=>false
def elemP (t:TypeId):TypeId:=match P.underlying t with
  | some (.slice e)=>e
  | some (.pointer e)=>e
  | some (.array _ e)=>e
  | _=>0
def fieldP (t:TypeId) (k:Nat):Option (Nat×TypeId):=match P.underlying t with
  | some (.struct fs)=>(fs[k]?).map fun f=>(f.offset,f.type)
  | _=>none
def zeroP (t:TypeId):List D:=((P.info? t).bind (·.zero)).elim [] fun v=>v.cells.toList.map toD1
def lenP (t:TypeId):Nat:=match P.underlying t with
  | some (.array n _)=>n
  | _=>0
end types
def D.one:D→Bool
  | .u | .opt _ _ | .agg _ | .tup _=>false
  | _=>true
def tyOk (P:Program) (t:TypeId):Bool:=
  (P.underlying t).isSome&&(aggP P t||P.cellsOf t==1)&&match (P.info? t).bind (·.zero) with
    | some v=>v.cells.toList.all (fun c=>(toD1 c).one)&&v.cells.size==P.cellsOf t
    | none=>false
def slT (P:Program) (t:TypeId):Bool:=match P.underlying t with
  | some (.slice e)=>tyOk P e
  | _=>false
def arT (P:Program) (t:TypeId):Bool:=match P.underlying t with
  | some (.array _ e)=>tyOk P e
  | _=>false
def stT (P:Program) (t:TypeId):Bool:=match P.underlying t with
  | some .string=>true
  | _=>false
def D.cells:D→List D
  | .agg cs=>cs
  | d=>[d]
def takeV (P:Program) (t:TypeId) (cs:List D):D:=if aggP P t then .agg (cs.take (P.cellsOf t)) else cs.headD .u
def splice (cs:List D) (off:Nat):List D→List D
  | [x]=>cs.set off x
  | xs=>cs.take off++xs++cs.drop (off+xs.length)
structure Eff where
  pre:Prop
  val:D
  ups:List (Nat×Option Row):=[]
  rd:List Nat:=[]
  new:Nat:=0
def upds (m:Mem):List (Nat×Option Row)→Mem
  | []=>m
  | (i,r)::us=>upds (up m i r) us
def intBitsV (op:BinOp) (k:IntKind) (x y:Int):Int:=
  let a:=BitVec.ofInt k.bits x
  let b:=BitVec.ofInt k.bits y
  k.wrap (match op with
    | .and=>a&&& b
    | .or=>a||| b
    | .xor=>a ^^^ b
    | _=>a&&& ~~~b).toNat
def binV (op:BinOp) (x y:Value):Option (Prop×Value):=
  match op,x,y with
  | .shl,.int k a,.int _ b=>some (0≤b,.int k (k.wrap (a*2 ^ (min b.toNat k.bits))))
  | .shr,.int k a,.int _ b=>some (0≤b,.int k (a.fdiv (2 ^ (min b.toNat k.bits))))
  | .add,.int k a,.int k' b=>some (k=k',.int k (k.wrap (a+b)))
  | .sub,.int k a,.int k' b=>some (k=k',.int k (k.wrap (a - b)))
  | .mul,.int k a,.int k' b=>some (k=k',.int k (k.wrap (a*b)))
  | .quo,.int k a,.int k' b=>some (k=k'∧b≠0,.int k (k.wrap (a.tdiv b)))
  | .rem,.int k a,.int k' b=>some (k=k'∧b≠0,.int k (a.tmod b))
  | .and,.int k a,.int k' b=>some (k=k',.int k (intBitsV .and k a b))
  | .or,.int k a,.int k' b=>some (k=k',.int k (intBitsV .or k a b))
  | .xor,.int k a,.int k' b=>some (k=k',.int k (intBitsV .xor k a b))
  | .andNot,.int k a,.int k' b=>some (k=k',.int k (intBitsV .andNot k a b))
  | .eql,.int k a,.int k' b=>some (k=k',.bool (a==b))
  | .neq,.int k a,.int k' b=>some (k=k',.bool (a !=b))
  | .lss,.int k a,.int k' b=>some (k=k',.bool (decide (a<b)))
  | .leq,.int k a,.int k' b=>some (k=k',.bool (decide (a≤b)))
  | .gtr,.int k a,.int k' b=>some (k=k',.bool (decide (b<a)))
  | .geq,.int k a,.int k' b=>some (k=k',.bool (decide (b≤a)))
  | .eql,.string a,.string b=>some (True,.bool (a.toList==b.toList))
  | .neq,.string a,.string b=>some (True,.bool !(a.toList==b.toList))
  | .lss,.string a,.string b=>some (True,.bool (Op.bytesLess a.toList b.toList))
  | .geq,.string a,.string b=>some (True,.bool !(Op.bytesLess a.toList b.toList))
  | _,_,_=>none
def kindV:Value→Nat
  | .int _ _=>0
  | .bool _=>1
  | .string _=>2
  | _=>3
def kindT (P:Program) (t:TypeId):Nat:=match P.underlying t with
  | some (.int _)=>0
  | some .bool=>1
  | some .string=>2
  | _=>9
def oneT (P:Program) (t:TypeId):Bool:=kindT P t !=9&&P.cellsOf t==1&&tyOk P t&& !aggP P t
def flatT (P:Program) (t:TypeId):Option (List Nat):=match P.underlying t with
  | some (.array n e)=>if oneT P e&&P.cellsOf t==n then some (List.replicate n (kindT P e)) else none
  | some (.struct fs)=>if (fs.toList.all fun f=>f.name !="_"&&oneT P f.type)&&P.runs 0 fs.toList==some fs.toList.length&& !P.stoodInHeld t then some (fs.toList.map fun f=>kindT P f.type) else none
  | _=>none
def sameK:Value→Value→Bool
  | .int k _,.int k' _=>k==k'
  | .bool _,.bool _=>true
  | .string _,.string _=>true
  | _,_=>false
def zipV:List D→List D→Option (List Value×List Value)
  | [],[]=>some ([],[])
  | .s x::xs,.s y::ys=>if sameK x y then (zipV xs ys).map fun q=>(x::q.1,y::q.2) else none
  | _,_=>none
def veq1:Value→Value→Bool
  | .int k a,.int k' b=>k==k'&&a==b
  | .bool a,.bool b=>a==b
  | .string a,.string b=>a.data.toList==b.data.toList
  | _,_=>false
def veqs:List Value→List Value→Bool
  | [],[]=>true
  | a::as,b::bs=>veq1 a b&&veqs as bs
  | _,_=>false
def aggEqD (P:Program) (op:BinOp) (t:TypeId) (xs ys:List D):Option (Prop×D):=
  match op,flatT P t,zipV xs ys with
  | .eql,some ks,some q=>some (q.1.map kindV=ks∧P.eqGuardType P.depth t=false,.s (.bool (veqs q.1 q.2)))
  | .neq,some ks,some q=>some (q.1.map kindV=ks∧P.eqGuardType P.depth t=false,.s (.bool !(veqs q.1 q.2)))
  | _,_,_=>none
def boT (P:Program) (t:TypeId):Bool:=match P.underlying t with
  | some .bool=>true
  | _=>false
def ptT (P:Program) (t:TypeId):Bool:=match P.underlying t with
  | some (.pointer _)=>true
  | _=>false
def binD (P:Program) (op:BinOp) (t:TypeId) (x y:D):Option (Prop×D):=
  match x,y with
  | .s (.bool a),.s (.bool b)=>match op with
    | .eql=>some (boT P t=true,.s (.bool (a==b)))
    | .neq=>some (boT P t=true,.s (.bool !(a==b)))
    | _=>none
  | .s a,.s b=>(binV op a b).map fun r=>(r.1,.s r.2)
  | .agg xs,.agg ys=>aggEqD P op t xs ys
  | _,_=>none
def nilD (P:Program) (m:Mem) (op:BinOp) (t:TypeId) (x:D) (y:Operand):Option Eff:=
  match y,op,x with
  | .const (.slice none 0 0),.eql,.sl _ n=>some { pre:=slT P t=true,val:=if n=0 then .ub else .s (.bool false) }
  | .const (.pointer none),.eql,.rp i _=>match m i with
    | some _=>some { pre:=ptT P t=true,val:=.s (.bool false),rd:=[i] }
    | none=>none
  | .const (.pointer none),.neq,.rp i _=>match m i with
    | some _=>some { pre:=ptT P t=true,val:=.s (.bool true),rd:=[i] }
    | none=>none
  | _,_,_=>none
def unV (op:UnOp) (x:Value):Option Value:=
  match op,x with
  | .neg,.int k n=>some (.int k (k.wrap (0 - n)))
  | .xor,.int k n=>some (.int k (intBitsV .xor k (if k.signed then -1 else k.max) n))
  | .not,.bool b=>some (.bool !b)
  | _,_=>none
def D.bool? :D→Option Bool
  | .s (.bool b)=>some b
  | _=>none
def D.int? :D→Option Int
  | .s (.int _ n)=>some n
  | _=>none
def fillD (place:Nat→Option (Nat×Nat)) (cells:List D):List (Nat×D)→Option (List D)
  | []=>some cells
  | (i,d)::rest=>
    match place i with
    | none=>none
    | some (off,size)=>if d.cells.length=size∧off+size≤cells.length∧d.cells.all D.one=true then fillD place (splice cells off d.cells) rest else none
def replD (n:Nat) (z:List D):List D:=(List.replicate n z).flatten
def lenD (P:Program) (m:Mem) (t:TypeId):D→Option Eff
  | .sl _ n=>some { pre:=slT P t=true,val:=.s (.int .i64 n) }
  | .rs i _ n=>match m i with
    | some _=>some { pre:=slT P t=true,val:=.s (.int .i64 n),rd:=[i] }
    | none=>none
  | .z=>some { pre:=slT P t=true,val:=.s (.int .i64 0) }
  | .s (.string b)=>some { pre:=stT P t=true,val:=.s (.int .i64 b.size) }
  | .agg _=>some { pre:=arT P t=true,val:=.s (.int .i64 (lenP P t)) }
  | _=>none
def sliceCells (m:Mem) (sz:Nat):D→Option (Prop×List Nat×Nat×List D)
  | .sl es n=>some (n*sz≤es.length,[],n,es.take (n*sz))
  | .z=>some (True,[],0,[])
  | .rs i off n=>match m i with
    | some (.cells cs _)=>some (off+n*sz≤cs.length,[i],n,(cs.drop off).take (n*sz))
    | _=>none
  | _=>none
def appendD (P:Program) (m:Mem) (nx:Nat) (t:TypeId) (s x:D):Option Eff:=
  let e:=elemP P t
  let sz:=P.cellsOf e
  match sliceCells m sz x with
  | none=>none
  | some (p,rd,k,news)=>
    match s with
    | .z=>some { pre:=slT P t=true∧p∧0<sz∧k≤maxLen∧k*P.bytesOf e≤140737488355328,val:=.rs nx 0 k,ups:=[(nx,some (.cells news e))],rd:=rd,new:=1 }
    | .rs i off n=>match m i with
      | some (.cells cs e')=>some { pre:=slT P t=true∧e'=e∧p∧0<sz∧off+n*sz=cs.length∧n+k≤maxLen∧(n+k)*P.bytesOf e≤140737488355328∧i∉rd,val:=.rs nx 0 (n+k),ups:=[(i,none),(nx,some (.cells (cs.drop off++news) e))],rd:=i::rd,new:=1 }
      | _=>none
    | _=>none
def veq:Value→Value→Bool
  | .agg a,.agg b=>veqs a.toList b.toList
  | a,b=>veq1 a b
def valsV:List D→Option (List Value)
  | []=>some []
  | .s v::ds=>(valsV ds).map (v::·)
  | _=>none
def keyV:D→Option Value
  | .s v=>some v
  | .agg cs=>(valsV cs).map fun vs=>.agg vs.toArray
  | _=>none
def lookD (k:Value):List (Value×D)→Option (Nat×D)
  | []=>none
  | (k',d)::es=>if veq k' k then some (0,d) else (lookD k es).map fun x=>(x.1+1,x.2)
def putD (k:Value) (d:D) (es:List (Value×D)):List (Value×D):=match lookD k es with
  | some (i,_)=>es.set i (k,d)
  | none=>es++[(k,d)]
def delD (k:Value) (es:List (Value×D)):List (Value×D):=match lookD k es with
  | some (i,_)=>es.eraseIdx i
  | none=>es
def mkeyP (P:Program) (t:TypeId):TypeId:=match P.underlying t with
  | some (.map k _)=>k
  | _=>0
def melP (P:Program) (t:TypeId):TypeId:=match P.underlying t with
  | some (.map _ e)=>e
  | _=>0
def keyP (P:Program) (kt:TypeId) (v:Value):Bool:=match P.underlying kt with
  | some (.int k)=>(match v with | .int k' _=>k'==k | _=>false)
  | some .bool=>(match v with | .bool _=>true | _=>false)
  | some .string=>(match v with | .string _=>true | _=>false)
  | some (.array _ _)=>(keyOf P kt v).isSome
  | some (.struct _)=>(keyOf P kt v).isSome
  | _=>false
def zOk (P:Program) (t:TypeId):Bool:=match (P.info? t).bind (·.zero) with
  | some (.agg _)=>aggP P t
  | some _=> !aggP P t
  | none=>false
def mapT (P:Program) (t:TypeId):Bool:=match P.underlying t with
  | some (.map kt et)=>(tyOk P et&&zOk P et)&&match P.underlying kt with
    | some (.int _)=>true
    | some .bool=>true
    | some .string=>true
    | some (.array _ _)=>P.keyTypeAt 9 kt&&P.tiled 9 kt
    | some (.struct _)=>P.keyTypeAt 9 kt&&P.tiled 9 kt
    | _=>false
  | _=>false
def zeroD (P:Program) (t:TypeId):D:=if aggP P t then .agg (zeroP P t) else (zeroP P t).headD .u
def gotD (P:Program) (t:TypeId) (ok:Bool):Option (Nat×D)→D
  | some (_,d)=>if ok then .tup [d,.s (.bool true)] else d
  | none=>if ok then .tup [zeroD P (melP P t),.s (.bool false)] else zeroD P (melP P t)
def lookupD (P:Program) (m:Mem) (t:TypeId) (x k:D) (ok:Bool):Option Eff:=match keyV k,x with
  | some key,.mp i=>match m i with
    | some (.map es)=>some { pre:=mapT P t=true∧keyP P (mkeyP P t) key=true∧es.all (fun e=>keyP P (mkeyP P t) e.1)=true,val:=gotD P t ok (lookD key es),rd:=[i] }
    | _=>none
  | some key,.im es=>some { pre:=mapT P t=true∧keyP P (mkeyP P t) key=true∧es.all (fun e=>keyP P (mkeyP P t) e.1)=true,val:=gotD P t ok (lookD key es) }
  | some key,.s (.map none)=>some { pre:=mapT P t=true∧keyP P (mkeyP P t) key=true,val:=gotD P t ok none }
  | _,_=>none
def mapPutD (P:Program) (m:Mem) (t:TypeId) (x k v:D):Option Eff:=match keyV k,x with
  | some key,.mp i=>match m i with
    | some (.map es)=>some { pre:=mapT P t=true∧keyP P (mkeyP P t) key=true∧es.all (fun e=>keyP P (mkeyP P t) e.1)=true,val:=.tup [],ups:=[(i,some (.map (putD key v es)))],rd:=[i] }
    | _=>none
  | _,_=>none
def mapDelD (P:Program) (m:Mem) (t:TypeId) (x k:D):Option Eff:=match keyV k,x with
  | some key,.mp i=>match m i with
    | some (.map es)=>some { pre:=mapT P t=true∧keyP P (mkeyP P t) key=true∧es.all (fun e=>keyP P (mkeyP P t) e.1)=true,val:=.tup [],ups:=[(i,some (.map (delD key es)))],rd:=[i] }
    | _=>none
  | _,_=>none
def builtinD (P:Program) (m:Mem) (nx:Nat) (b:Builtin) (ts:Array TypeId) (args:List D):Option Eff:=
  match b,args with
  | .len,[x]=>lenD P m (ts.getD 0 0) x
  | .append,[s,x]=>if ts.getD 0 0=ts.getD 1 0 then appendD P m nx (ts.getD 0 0) s x else none
  | .min,[.s (.int k a),.s (.int k' b)]=>some { pre:=k=k',val:=.s (.int k (if b<a then b else a)) }
  | .clear,[.rs i off n]=>match m i with
    | some (.cells cs e)=>some { pre:=slT P (ts.getD 0 0)=true∧off+n*P.cellsOf e≤cs.length∧e=elemP P (ts.getD 0 0),val:=.tup [],ups:=[(i,some (.cells (splice cs off (replD n (zeroP P e))) e))],rd:=[i] }
    | _=>none
  | .delete,[x,k]=>mapDelD P m (ts.getD 0 0) x k
  | _,_=>none
def bndD (d:Option D) (dflt:Int):Option Int:=match d with
  | none=>some dflt
  | some d=>d.int?
def sliceD (P:Program) (m:Mem) (t:TypeId) (x:D) (lo hi mx:Option D):Option Eff:=
  match x with
  | .sl es n=>match bndD lo 0,bndD hi n,mx with
    | some l,some h,none=>some { pre:=slT P t=true∧0≤l∧l≤h∧h≤n,val:=.sl ((es.drop (l.toNat*P.cellsOf (elemP P t))).take ((h - l).toNat*P.cellsOf (elemP P t))) (h - l).toNat }
    | some l,some h,some d=>match d.int? with
      | some k=>some { pre:=slT P t=true∧hi.isSome=true∧0≤l∧l≤h∧h≤k∧k≤n,val:=.sl ((es.drop (l.toNat*P.cellsOf (elemP P t))).take ((h - l).toNat*P.cellsOf (elemP P t))) (h - l).toNat }
      | none=>none
    | _,_,_=>none
  | .rs i off n=>match m i with
    | some (.cells _ e)=>match bndD lo 0,bndD hi n,mx with
      | some l,some h,none=>some { pre:=(slT P t=true∧P.cellsOf e=P.cellsOf (elemP P t))∧0≤l∧l≤h∧h≤n,val:=.rs i (off+l.toNat*P.cellsOf (elemP P t)) (h - l).toNat,rd:=[i] }
      | _,_,_=>none
    | _=>none
  | .s (.string b)=>match bndD lo 0,bndD hi b.size,mx with
    | some l,some h,none=>some { pre:=stT P t=true∧0≤l∧l≤h∧h≤b.size,val:=.s (.string (b.extract l.toNat h.toNat)) }
    | _,_,_=>none
  | _=>none
def aop (P:Program) (o:Op) (ρ:Operand→D) (m:Mem) (nx:Nat):Option Eff:=
  match o with
  | .move x=>some { pre:=True,val:=ρ x }
  | .assign x=>some { pre:=True,val:=ρ x }
  | .pick c a b=>match (ρ c).core.bool? with
    | some t=>some { pre:=(t=true→(ρ a).ask∧(ρ a).core.bool?.isSome=true)∧(t=false→(ρ b).ask∧(ρ b).core.bool?.isSome=true),val:=.s (.bool (if t then (ρ a).core.bool?.getD false else (ρ b).core.bool?.getD false)) }
    | none=>none
  | .alloc t=>some { pre:=tyOk P t=true,val:=.rp nx 0,ups:=[(nx,some (.cells (zeroP P t) t))],new:=1 }
  | .box t x=>some { pre:=(ρ x).cells.all D.one=true,val:=.rp nx 0,ups:=[(nx,some (.cells (ρ x).cells t))],new:=1 }
  | .build t ps=>match P.underlying t with
    | some (.struct fs)=>(fillD (fun i=>(fs[i]?).map fun f=>(f.offset,P.cellsOf f.type)) (zeroP P t) (ps.toList.map fun q=>(q.1,ρ q.2))).map fun cs=>{ pre:=tyOk P t=true∧fs.toList.all (fun f=>(P.info? f.type).isSome)=true,val:=.agg cs }
    | some (.array _ e)=>(fillD (fun i=>some (i*P.cellsOf e,P.cellsOf e)) (zeroP P t) (ps.toList.map fun q=>(q.1,ρ q.2))).map fun cs=>{ pre:=tyOk P t=true∧tyOk P e=true,val:=.agg cs }
    | _=>none
  | .buildSlice t n ps=>(fillD (fun i=>some (i*P.cellsOf (elemP P t),P.cellsOf (elemP P t))) (replD n (zeroP P (elemP P t))) (ps.toList.map fun q=>(q.1,ρ q.2))).map fun cs=>
      { pre:=cs.all D.one=true∧n*P.cellsOf (elemP P t)≤2 ^ 24∧slT P t=true∧n≤maxLen,val:=.rs nx 0 n,ups:=[(nx,some (.cells cs (elemP P t)))],new:=1 }
  | .load t a=>match ρ a with
    | .pt cs=>some { pre:=tyOk P t=true∧P.cellsOf t≤cs.length,val:=takeV P t cs }
    | .rp i off=>match m i with
      | some (.cells cs _)=>some { pre:=tyOk P t=true∧off+P.cellsOf t≤cs.length,val:=takeV P t (cs.drop off),rd:=[i] }
      | _=>none
    | _=>none
  | .store t a x=>match ρ a with
    | .rp i off=>match m i with
      | some (.cells cs e)=>some { pre:=tyOk P t=true∧(ρ x).cells.length=P.cellsOf t∧off+P.cellsOf t≤cs.length∧(ρ x).cells.all D.one=true,val:=.tup [],ups:=[(i,some (.cells (splice cs off (ρ x).cells) e))],rd:=[i] }
      | _=>none
    | _=>none
  | .nilCheck x=>match ρ x with
    | .pt cs=>some { pre:=True,val:=.pt cs }
    | .rp i off=>match m i with
      | some _=>some { pre:=True,val:=.rp i off,rd:=[i] }
      | none=>none
    | _=>none
  | .binOp op t x y _=>match nilD P m op t (ρ x) y with
    | some e=>some e
    | none=>(binD P op t (ρ x) (ρ y)).map fun r=>{ pre:=r.1,val:=r.2 }
  | .unOp op _ x=>match ρ x with
    | .s v=>(unV op v).map fun r=>{ pre:=True,val:=.s r }
    | _=>none
  | .convert src dst x=>match P.underlying dst,ρ x with
    | some (.int k),.s (.int _ n)=>some { pre:=tyOk P src=true,val:=.s (.int k (k.wrap n)) }
    | some (.slice e),.s (.string b)=>match P.underlying e with
      | some (.int .u8)=>some { pre:=stT P src=true∧b.size≤maxLen,val:=.sl (b.data.toList.map fun c=>.s (.int .u8 c.toNat)) b.size }
      | _=>none
    | _,_=>none
  | .makeFunc f fs cs=>some { pre:=True,val:=.fn f (fs.toList.map ρ) (cs.toList.map ρ) }
  | .makeMap _ r=>match r with
    | none=>some { pre:=True,val:=.mp nx,ups:=[(nx,some (.map []))],new:=1 }
    | some _=>none
  | .makeSlice t l c=>match ρ l,ρ c with
    | .s (.int .i64 n),.s (.int .i64 k)=>some { pre:=0≤n∧n=k∧n≤9223372036854775807∧P.bytesOf (elemP P t)*n≤281474976710656∧slT P t=true,val:=.rs nx 0 n.toNat,ups:=[(nx,some (.cells (replD n.toNat (zeroP P (elemP P t))) (elemP P t)))],new:=1 }
    | _,_=>none
  | .lookup t x k ok=>lookupD P m t (ρ x) (ρ k) ok
  | .mapUpdate t x k v=>mapPutD P m t (ρ x) (ρ k) (ρ v)
  | .insert t x k v=>mapPutD P m t (ρ x) (ρ k) (ρ v)
  | .slice t x lo hi mx=>sliceD P m t (ρ x) (lo.map ρ) (hi.map ρ) (mx.map ρ)
  | .fieldAddr t x k=>match fieldP P t k,ρ x with
    | some (off,ft),.pt cs=>some { pre:=0<P.cellsOf ft,val:=.pt (cs.drop off) }
    | some (off,ft),.rp i o=>match m i with
      | some _=>some { pre:=0<P.cellsOf ft,val:=.rp i (o+off),rd:=[i] }
      | none=>none
    | _,_=>none
  | .field t x k=>match fieldP P t k,ρ x with
    | some (off,ft),.agg cs=>some { pre:=tyOk P ft=true∧off+P.cellsOf ft≤cs.length,val:=takeV P ft (cs.drop off) }
    | _,_=>none
  | .indexAddr t x i=>match ρ x,ρ i with
    | .sl es n,.s (.int _ k)=>some { pre:=slT P t=true∧0≤k∧k<n∧(k.toNat+1)*P.cellsOf (elemP P t)≤es.length,val:=.pt (es.drop (k.toNat*P.cellsOf (elemP P t))) }
    | .rs j off n,.s (.int _ k)=>match m j with
      | some _=>some { pre:=slT P t=true∧0≤k∧k<n,val:=.rp j (off+k.toNat*P.cellsOf (elemP P t)),rd:=[j] }
      | none=>none
    | .rp j off,.s (.int _ k)=>match m j with
      | some _=>some { pre:=arT P t=true∧0≤k∧k<lenP P t,val:=.rp j (off+k.toNat*P.cellsOf (elemP P t)),rd:=[j] }
      | none=>none
    | _,_=>none
  | .index t x i=>match ρ x,ρ i with
    | .s (.string b),.s (.int _ k)=>some { pre:=stT P t=true∧0≤k∧k<b.size,val:=.s (.int .u8 (b.data.toList.getD k.toNat 0).toNat) }
    | .agg cs,.s (.int _ k)=>some { pre:=arT P t=true∧0≤k∧k<lenP P t∧(k.toNat+1)*P.cellsOf (elemP P t)≤cs.length,val:=takeV P (elemP P t) (cs.drop (k.toNat*P.cellsOf (elemP P t))) }
    | _,_=>none
  | .extract x k=>match ρ x with
    | .tup cs=>some { pre:=k<cs.length,val:=cs.getD k .u }
    | _=>none
  | .call c=>match c.callee with
    | .builtin b=>if c.argTypes.size=c.args.size then builtinD P m nx b c.argTypes (c.args.toList.map ρ) else none
    | _=>none
  | _=>none
def bldT (t:TypeId):Bool:=([158,160]:List Nat).contains t
def mkStr (l:List Int):ByteArray:=⟨(l.map fun n=>UInt8.ofNat n.toNat).toArray⟩
def bytesD (l:List Int):List D:=l.map fun n=>.s (.int .u8 n)
def strD (b:ByteArray):List D:=b.data.toList.map fun c=>.s (.int .u8 c.toNat)
def u8T (P:Program) (t:TypeId):Prop:=slT P t=true∧P.underlying (elemP P t)=some (.int .u8)∧P.cellsOf (elemP P t)=1
def ifT (P:Program) (t:TypeId):Bool:=match P.underlying t with
  | some (.interface _)=>false
  | some _=>true
  | none=>false
def ifV:Value→Bool
  | .iface _ _ | .nilIface=>true
  | _=>false
def inD:Value→D
  | .agg cs=>.agg (cs.toList.map .s)
  | v=>.s v
def asrtD (P:Program) (t:TypeId):Value→D
  | .iface u v=>if u=t then .tup [inD v,.s (.bool true)] else .tup [zeroD P t,.s (.bool false)]
  | _=>.tup [zeroD P t,.s (.bool false)]
inductive AopN (P:Program) (ρ:Operand→D) (m:Mem) (nx:Nat):Op→Eff→Prop
  | add (t p:TypeId) (x y:Operand) (a b:ByteArray) (hx:ρ x=.s (.string a)) (hy:ρ y=.s (.string b)) (h:a.size+b.size≤maxLen):AopN P ρ m nx (.binOp .add t x y p) { pre:=True,val:=.s (.string (a++b)) }
  | strSl (src dst:TypeId) (x:Operand) (l:List Int) (hx:ρ x=.sl (bytesD l) l.length) (hs:u8T P src) (hd:stT P dst=true):AopN P ρ m nx (.convert src dst x) { pre:=True,val:=.s (.string (mkStr l)) }
  | strRs (src dst:TypeId) (x:Operand) (l:List Int) (i off:Nat) (cs:List D) (e:TypeId) (hx:ρ x=.rs i off l.length) (hi:m i=some (.cells cs e)) (hl:(cs.drop off).take l.length=bytesD l) (hs:u8T P src) (hd:stT P dst=true):
      AopN P ρ m nx (.convert src dst x) { pre:=True,val:=.s (.string (mkStr l)),rd:=[i] }
  | rune (src dst:TypeId) (x:Operand) (k k':IntKind) (n:Int) (hx:ρ x=.s (.int k n)) (hs:P.underlying src=some (.int k')) (hd:stT P dst=true) (h0:0≤n) (h1:n<128):AopN P ρ m nx (.convert src dst x) { pre:=True,val:=.s (.string (mkStr [n])) }
  | cut (t:TypeId) (x h c:Operand) (es:List D) (n:Nat) (k:IntKind) (k':IntKind) (hx:ρ x=.sl es n) (hh:ρ h=.s (.int k n)) (hc:ρ c=.s (.int k' n)) (ht:slT P t=true) (hn:n*P.cellsOf (elemP P t)=es.length):
      AopN P ρ m nx (.slice t x none (some h) (some c)) { pre:=True,val:=.sc es n }
  | appSc (c:Call) (s x:Operand) (t:TypeId) (es news:List D) (n k:Nat) (p:Prop) (rd:List Nat) (hc:c={ callee:=.builtin .append,args:= #[s,x],argTypes:= #[t,t] }) (hs:ρ s=.sc es n) (hx:sliceCells m (P.cellsOf (elemP P t)) (ρ x)=some (p,rd,k,news)) (hp:p)
      (ht:slT P t=true) (hn:n*P.cellsOf (elemP P t)=es.length) (hk:0<k) (hz:0<P.cellsOf (elemP P t)) (hm:n+k≤maxLen) (hb:(n+k)*P.bytesOf (elemP P t)≤140737488355328):
      AopN P ρ m nx (.call c) { pre:=True,val:=.rs nx 0 (n+k),ups:=[(nx,some (.cells (es++news) (elemP P t)))],rd:=rd,new:=1 }
  | appStrZ (c:Call) (s x:Operand) (t u:TypeId) (b:ByteArray) (hc:c={ callee:=.builtin .append,args:= #[s,x],argTypes:= #[t,u] }) (hs:ρ s=.z) (hx:ρ x=.s (.string b)) (ht:u8T P t) (hu:stT P u=true) (hm:b.size≤maxLen) (hb:b.size*P.bytesOf (elemP P t)≤140737488355328):
      AopN P ρ m nx (.call c) { pre:=True,val:=.rs nx 0 b.size,ups:=[(nx,some (.cells (strD b) (elemP P t)))],new:=1 }
  | appStr (c:Call) (s x:Operand) (t u:TypeId) (b:ByteArray) (i off n:Nat) (cs:List D) (hc:c={ callee:=.builtin .append,args:= #[s,x],argTypes:= #[t,u] }) (hs:ρ s=.rs i off n) (hx:ρ x=.s (.string b)) (hi:m i=some (.cells cs (elemP P t))) (ht:u8T P t) (hu:stT P u=true)
      (hf:off+n=cs.length) (hm:n+b.size≤maxLen) (hb:(n+b.size)*P.bytesOf (elemP P t)≤140737488355328):
      AopN P ρ m nx (.call c) { pre:=True,val:=.rs nx 0 (n+b.size),ups:=[(i,none),(nx,some (.cells (cs.drop off++strD b) (elemP P t)))],rd:=[i],new:=1 }
  | lenM (c:Call) (x:Operand) (t:TypeId) (i:Nat) (es:List (Value×D)) (hc:c={ callee:=.builtin .len,args:= #[x],argTypes:= #[t] }) (hx:ρ x=.mp i) (hi:m i=some (.map es)) (ht:mapT P t=true):AopN P ρ m nx (.call c) { pre:=True,val:=.s (.int .i64 es.length),rd:=[i] }
  | sdata (c:Call) (s:Operand) (t:TypeId) (i off n:Nat) (r:Row) (hc:c={ callee:=.builtin .unsafeSliceData,args:= #[s],argTypes:= #[t] }) (hs:ρ s=.rs i off n) (hi:m i=some r) (hn:0<n):AopN P ρ m nx (.call c) { pre:=True,val:=.rp i off,rd:=[i] }
  | ustr (c:Call) (p n:Operand) (t u e:TypeId) (l:List Int) (i off:Nat) (cs:List D) (k:IntKind) (hc:c={ callee:=.builtin .unsafeString,args:= #[p,n],argTypes:= #[t,u] }) (hp:ρ p=.rp i off) (hn:ρ n=.s (.int k l.length)) (hi:m i=some (.cells cs e)) (hl:(cs.drop off).take l.length=bytesD l) (h0:l≠[])
      (ht:P.underlying t=some (.pointer e)) (he:P.cellsOf e=1) (hm:l.length≤maxLen) (hr:∀ x∈l,0≤x∧x<256):AopN P ρ m nx (.call c) { pre:=True,val:=.s (.string (mkStr l)),ups:=[(i,none)],rd:=[i] }
  | allocB (t:TypeId) (hb:bldT t=true) (ht:tyOk P t=true) (hz:zeroP P t=[.s (.pointer none),.z]):AopN P ρ m nx (.alloc t) { pre:=True,val:=.rp nx 0,ups:=[(nx,some (.bs false .z t))],new:=1 }
  | boxB (t:TypeId) (x:Operand) (d:D) (hb:bldT t=true) (hx:(ρ x).cells=[.s (.pointer none),d]) (hd:d.one=true) (hs:P.cellsOf t=2):AopN P ρ m nx (.box t x) { pre:=True,val:=.rp nx 0,ups:=[(nx,some (.bs false d t))],new:=1 }
  | slZ (t:TypeId) (x:Operand) (lo hi:Option Operand) (hx:ρ x=.z) (hlo:bndD (lo.map ρ) 0=some 0) (hhi:bndD (hi.map ρ) 0=some 0) (ht:slT P t=true):AopN P ρ m nx (.slice t x lo hi none) { pre:=True,val:=.z }
  | nilZ (b:Bool) (op:BinOp) (t p:TypeId) (x:Operand) (hop:op=if b then .eql else .neq) (hx:ρ x=.z) (ht:slT P t=true):AopN P ρ m nx (.binOp op t x (.const (.slice none 0 0)) p) { pre:=True,val:=.s (.bool (true==b)) }
  | nilR (b:Bool) (op:BinOp) (t p:TypeId) (x:Operand) (i off n:Nat) (cs:List D) (e:TypeId) (hop:op=if b then .eql else .neq) (hx:ρ x=.rs i off n) (hi:m i=some (.cells cs e)) (hn:0<n) (ht:slT P t=true):
      AopN P ρ m nx (.binOp op t x (.const (.slice none 0 0)) p) { pre:=True,val:=.s (.bool (false==b)),rd:=[i] }
  | mkIf (t:TypeId) (x:Operand) (v:Value) (hx:keyV (ρ x)=some v) (hv:plain (.iface t v)=true) (ht:ifT P t=true):AopN P ρ m nx (.makeInterface t x) { pre:=True,val:=.s (.iface t v) }
  | asrt (x:Operand) (u t:TypeId) (v:Value) (hx:ρ x=.s v) (hv:ifV v=true) (ht:ifT P t=true) (ho:tyOk P t=true) (hz:zOk P t=true):AopN P ρ m nx (.typeAssert x u t true) { pre:=True,val:=asrtD P t v }
  | copy (c:Call) (x y:Operand) (t:TypeId) (i off n k:Nat) (cs news:List D) (p:Prop) (rd:List Nat) (hc:c={ callee:=.builtin .copy,args:= #[x,y],argTypes:= #[t,t] }) (hx:ρ x=.rs i off n) (hi:m i=some (.cells cs (elemP P t)))
      (hy:sliceCells m (P.cellsOf (elemP P t)) (ρ y)=some (p,rd,k,news)) (hp:p) (ht:slT P t=true) (hk:k≤n) (hl:off+n*P.cellsOf (elemP P t)≤cs.length):
      AopN P ρ m nx (.call c) { pre:=True,val:=.s (.int .i64 k),ups:=[(i,some (.cells (splice cs off news) (elemP P t)))],rd:=i::rd }
  | loadB (t:TypeId) (a:Operand) (i:Nat) (u:Bool) (x:D) (T:TypeId) (ha:ρ a=.rp i 1) (hi:m i=some (.bs u x T)) (ht:tyOk P t=true) (hg:aggP P t=false):AopN P ρ m nx (.load t a) { pre:=True,val:=x,rd:=[i] }
  | storeB (t:TypeId) (a y:Operand) (i:Nat) (u:Bool) (x:D) (T:TypeId) (ha:ρ a=.rp i 1) (hi:m i=some (.bs u x T)) (ht:tyOk P t=true) (hg:aggP P t=false) (hy:(ρ y).one=true):AopN P ρ m nx (.store t a y) { pre:=True,val:=.tup [],ups:=[(i,some (.bs u (ρ y) T))],rd:=[i] }
def callD (ρ:Operand→D):Op→Option (FuncId×List D)
  | .call c=>match c.callee with
    | .value f=>match ρ f with
      | .fn (.func k) fs cs=>some (k,fs++c.args.toList.map ρ++cs)
      | _=>none
    | _=>none
  | _=>none
def Rs (F:Nat→Prop) (β:Pla) (w:World) (ds:List D) (vs:Array Value):Prop:=
  vs.size=ds.length∧∀ (k:Nat) (d:D) (v:Value),ds[k]? =some d→vs[k]? =some v→R F β w d v
def noRows:Pla:=fun _=>none
def owned (F:Nat→Prop) (β:Pla):Nat→Prop:=fun b=>F b∨¬ β.free b
def Tr (d:D):Prop:=∀ F β w v,R F β w d v→R (owned F β) noRows w d v
def D.scal:D→Bool
  | .s _=>true
  | .ub=>true
  | .tup [.s _,.s _]=>true
  | .tup [.s _]=>true
  | .tup []=>true
  | _=>false
def Kept (w w':World):Prop:=w.heap.size≤w'.heap.size∧(∀ b,b<w.heap.size→w'.heap[b]? =w.heap[b]?)∧Out w w'
def enterOk (P:Program) (f:FuncId):Bool:=match P.funcs[f]? with
  | some fn=> !(fn.name=="runtime.NumGoroutine")&&fn.body.isSome
  | none=>false
def PCall (P:Program) (f:FuncId) (args:List D) (r:D):Prop:=
  enterOk P f=true∧(∀ a∈args,Tr a)∧∀ F w vs,FB F w→Rs F noRows w args vs→
    Calls P f vs w fun e w'=>∃ v,e=.returned v∧R F noRows w' r v∧Kept w w'
def OCall (P:Program) (f:FuncId) (args:List D) (es:List D) (n:Nat) (t:TypeId):Prop:=
  enterOk P f=true∧(∀ a∈args,Tr a)∧∀ F w vs,FB F w→Rs F noRows w args vs→
    Calls P f vs w fun e w'=>∃ v p,e=.returned v∧p≠ .dead∧(∀ b,p.blk=some b→w.heap.size≤b∧b<w'.heap.size)∧
      RowR P (fun x=>F x∨p.blk=some x) noRows w' (.cells es t) p∧R F (up noRows 0 (some p)) w' (.rs 0 0 n) v∧Kept w w'
def ACalls (P:Program) (f:FuncId) (args:List D) (m:Mem) (nx:Nat) (Post:D→Mem→Nat→Prop):Prop:=
  enterOk P f=true∧∀ F β w vs,MSim P F m β w→(∀ i,nx≤i→β i=none)→Rs F β w args vs→
    Calls P f vs w fun e w'=>∃ v d m' nx' β',e=.returned v∧Post d m' nx'∧MSim P F m' β' w'∧(∀ i,nx'≤i→β' i=none)∧R F β' w' d v∧Step β w β' w'∧nx≤nx'∧∀ i,i<nx→β i=none→β' i=none
def YCall (P:Program) (F:Nat→Prop) (βb:Pla) (wb:World) (l:Nat) (args:List D) (m:Mem) (nx:Nat) (Post:D→Mem→Nat→Prop):Prop:=
  ∀ β w us,Step βb wb β w→MSim P F m β w→(∀ i,nx≤i→β i=none)→Rs F β w args us→
    ∃ f tmps assign body,(Instr.yield l us).run P w=.ok (.round l f tmps assign body) w∧∀ n,RoundIn Fence.wide n P l f tmps assign body w fun e w'=>
      ∃ v d m' nx' β',e=.returned v∧Post d m' nx'∧MSim P F m' β' w'∧(∀ i,nx'≤i→β' i=none)∧R F β' w' d v∧Step β w β' w'∧nx≤nx'∧∀ i,i<nx→β i=none→β' i=none
def Closed (I:Mem→Nat→Prop):Prop:=∀ m nx m' nx',I m nx→nx≤nx'→(∀ i,i<nx→m' i=m i)→I m' nx'
def SeqPost (I:Nat→Mem→Nat→Prop) (Stop:Mem→Nat→Prop) (k:Nat) (d:D) (m:Mem) (nx:Nat):Prop:=
  (d=.s (.bool true)∧I (k+1) m nx)∨(d=.s (.bool false)∧Stop m nx)
def SeqA (P:Program) (f:FuncId) (fs cs:List D) (xs:List (List D)):Prop:=
  enterOk P f=true∧∀ (F:Nat→Prop) (l:Nat) (I:Nat→Mem→Nat→Prop) (Stop:Mem→Nat→Prop) (m:Mem) (nx:Nat) (β:Pla) (w:World) (vs:Array Value),(∀ k,Closed (I k))→Closed Stop→
    MSim P F m β w→(∀ i,nx≤i→β i=none)→Rs F β w (fs++[.fn (.yield l) [] []]++cs) vs→
    (∀ k x m nx,xs[k]? =some x→I k m nx→YCall P F β w l x m nx (SeqPost I Stop k))→I 0 m nx→
    Calls P f vs w fun e w'=>∃ v d m' nx' β',e=.returned v∧(I xs.length m' nx'∨Stop m' nx')∧MSim P F m' β' w'∧(∀ i,nx'≤i→β' i=none)∧R F β' w' d v∧Step β w β' w'∧nx≤nx'∧∀ i,i<nx→β i=none→β' i=none
abbrev YSpec:=Nat→List D→Mem→Nat→(D→Mem→Nat→Prop)→Prop
def noY:YSpec:=fun _ _ _ _ _=>False
def yieldD (ρ:Operand→D):Op→Option (Nat×List D)
  | .call c=>match c.callee with
    | .value f=>match ρ f with
      | .fn (.yield l) [] []=>some (l,c.args.toList.map ρ)
      | _=>none
    | _=>none
  | _=>none
def Sn (P:Program) (rds:List Nat) (m:Mem) (a a':D):Prop:=
  ∀ F β w v,(∀ i∈rds,∀ r,m i=some r→∃ p,β i=some p∧RowR P F β w r p∧∀ b,p.blk=some b→¬ F b)→R F β w a v→R F noRows w a' v
def Sns (P:Program) (rds:List Nat) (m:Mem):List D→List D→Prop
  | [],[]=>True
  | a::as,b::bs=>Sn P rds m a b∧Sns P rds m as bs
  | _,_=>False
def ScalRow (r:Row):Prop:=∃ cs e,r=.cells cs e∧∀ d∈cs,d.scal=true
def FrameOk (m:Mem) (rds:List Nat) (ups:List (Nat×Option Row)) (args:List D):Prop:=
  (∀ i∈rds,∃ r,m i=some r∧ScalRow r)∧(∀ x∈ups,x.1∈rds∧∀ r,x.2=some r→ScalRow r)∧∀ a∈args,Tr a∨∃ i off n,i∈rds∧a=.rs i off n
def only (rds:List Nat) (m:Mem):Mem:=fun i=>if i∈rds then m i else none
def CallOp (P:Program) (dr:Bool) (st:St) (f:FuncId) (args:List D) (K:D→Mem→Nat→List Nat→List Nat→Prop):Prop:=
  (∃ r,PCall P f args r∧K r st.mem st.nx [] [])∨
  (∃ args' rds r,Sns P rds st.mem args args'∧PCall P f args' r∧r.scal=true∧K r st.mem st.nx rds [])∨
  (∃ es n t,OCall P f args es n t∧K (.rs st.nx 0 n) (up st.mem st.nx (some (.cells es t))) (st.nx+1) [] [st.nx])∨
  (dr=false∧ACalls P f args st.mem st.nx fun r m nx=>K r m nx [] [])∨
  (∃ r ups rds,(∀ m2 nx2,(∀ i∈rds,st.mem i≠none→m2 i=st.mem i)→ACalls P f args m2 nx2 fun r' m' nx'=>r'=r∧m'=upds m2 ups∧nx'=nx2)∧(∀ i∈ups.map (·.1),i∈rds∧st.mem i≠none)∧K r (upds st.mem ups) st.nx rds (ups.map (·.1)))∨
  (∃ es n t ups rds,FrameOk st.mem rds ups args∧(∀ d∈es,d.scal=true)∧(∀ nx2,ACalls P f args (only rds st.mem) nx2 fun r' m' _=>∃ q,nx2≤q∧r'=.rs q 0 n∧m' q=some (.cells es t)∧∀ i∈rds,m' i=upds st.mem ups i)∧
   K (.rs st.nx 0 n) (up (upds st.mem ups) st.nx (some (.cells es t))) (st.nx+1) rds (ups.map (·.1)++[st.nx]))
def asks (env:Env) (o:Op):Prop:=match o with
  | .pick c _ _=>(opd env c).ask
  | o=>∀ x∈o.operands.toList,(opd env x).ask
def rho (env:Env) (o:Op):Operand→D:=match o with
  | .pick _ _ _=>opd env
  | _=>fun x=>(opd env x).core
def guardC:D→Bool→Option Bool
  | .s (.bool g),b=>some (g==b)
  | .opt c d,b=>match d with
    | .s (.bool g)=>some (c&&(g==b))
    | _=>bif c then none else some false
  | _,_=>none
abbrev Tra:=List (List Nat×List Nat)
def apartT (tr:Tra) (i j:Nat):Prop:=
  let a:=tr.getD i ([],[])
  let b:=tr.getD j ([],[])
  (∀ x∈a.2,x∉b.1∧x∉b.2)∧∀ x∈b.2,x∉a.1
def skipD:D:=.opt false .u
def AOp (P:Program) (Y:YSpec) (ops:Array Oper) (dr:Bool) (o:Oper) (st:St) (K:St→List Nat→List Nat→Prop):Prop:=
  match o.guard with
    | none=>asks st.env o.op∧match callD (rho st.env o.op) o.op with
      | some (f,args)=>CallOp P dr st f args fun r m nx rd wr=>K (St.put ⟨st.env,m,nx⟩ o.dst r) rd wr
      | none=>match yieldD (rho st.env o.op) o.op with
        | some (l,args)=>dr=false∧Y l args st.mem st.nx fun r m nx=>K (St.put ⟨st.env,m,nx⟩ o.dst r) [] []
        | none=>match aop P o.op (rho st.env o.op) st.mem st.nx with
          | some e=>e.pre∧K (St.put ⟨st.env,upds st.mem e.ups,st.nx+e.new⟩ o.dst e.val) e.rd (e.ups.map (·.1))
          | none=>False
    | some (j,b)=>match ((ops[j]?).bind (·.dst)).bind fun t=>guardC (st.env t) b with
      | none=>False
      | some c=>match callD (rho st.env o.op) o.op with
        | some (f,args)=>
          (∃ r,(c=true→asks st.env o.op∧PCall P f args r)∧K (st.put o.dst (.opt c r)) [] [])∨
          ((c=true→asks st.env o.op∧CallOp P dr st f args fun r m nx rd wr=>K (St.put ⟨st.env,m,nx⟩ o.dst r) rd wr)∧
            (c=false→K (st.put o.dst skipD) [] []))
        | none=>match yieldD (rho st.env o.op) o.op with
          | some (l,args)=>(c=true→asks st.env o.op∧dr=false∧Y l args st.mem st.nx fun r m nx=>K (St.put ⟨st.env,m,nx⟩ o.dst r) [] [])∧(c=false→K (st.put o.dst skipD) [] [])
          | none=>match aop P o.op (rho st.env o.op) st.mem st.nx with
            | some e=>if e.ups.isEmpty&&e.new==0 then (c=true→asks st.env o.op∧e.pre)∧K (st.put o.dst (.opt c e.val)) e.rd []
              else (c=true→asks st.env o.op∧e.pre∧K (St.put ⟨st.env,upds st.mem e.ups,st.nx+e.new⟩ o.dst e.val) e.rd (e.ups.map (·.1)))∧
                (c=false→K (st.put o.dst skipD) [] [])
            | none=>c=false∧K (st.put o.dst skipD) [] []
def goes (ops:Array Oper) (o:Oper) (st:St):Prop:=o.guard=none∨∃ j b,o.guard=some (j,b)∧(((ops[j]?).bind (·.dst)).bind fun t=>guardC (st.env t) b)=some true
def AOpN (P:Program) (ops:Array Oper) (o:Oper) (st:St) (K:St→List Nat→List Nat→Prop):Prop:=
  goes ops o st∧asks st.env o.op∧∃ e,AopN P (rho st.env o.op) st.mem st.nx o.op e∧K (St.put ⟨st.env,upds st.mem e.ups,st.nx+e.new⟩ o.dst e.val) e.rd (e.ups.map (·.1))
def AOps (P:Program) (Y:YSpec) (ops:Array Oper) (dr:Bool) (cf:List (Nat×Nat)) (Q:Exit→St→Prop):List Oper→St→Tra→Prop
  | [],st,tr=>(∀ q∈cf,apartT tr q.1 q.2)∧Q .normal st
  | o::rest,st,tr=>AOp P Y ops dr o st (fun st' rd wr=>AOps P Y ops dr cf Q rest st' (tr++[(rd,wr)]))∨AOpN P ops o st fun st' rd wr=>AOps P Y ops dr cf Q rest st' (tr++[(rd,wr)])
def kindO:Op→Nat
  | .call { callee:=.builtin .len,.. }=>1
  | .call { callee:=.builtin .min,.. }=>0
  | .store .. | .mapUpdate .. | .insert .. | .call _=>2
  | .load .. | .lookup .. | .fieldAddr .. | .indexAddr .. | .slice .. | .nilCheck _ | .convert .. =>1
  | .alloc _ | .box .. | .buildSlice .. | .makeSlice .. | .makeMap .. =>3
  | .binOp .eql .. | .binOp .neq .. =>1
  | .move _ | .assign _ | .pick .. | .build .. | .binOp .. | .unOp .. | .makeFunc .. | .field .. | .index .. | .extract .. =>0
  | _=>2
def befOf (acc:List Nat) (o:Oper):Nat:=o.after.toList.foldl (fun s e=>if Region.binds .any e then s||| 2 ^ e.on||| acc.getD e.on 0 else s) 0
def befs:List Oper→List Nat→List Nat
  | [],acc=>acc
  | o::r,acc=>befs r (acc++[befOf acc o])
def unordered (bs:List Nat) (n:Nat):List (Nat×Nat):=
  (List.range n).flatMap fun j=>((List.range j).filter fun i=> !(bs.getD j 0).testBit i).map fun i=>(i,j)
def tmpsApart (ops:Array Oper) (i j:Nat):Bool:=match ops[i]?,ops[j]? with
  | some x,some y=>x.apart ops y
  | _,_=>true
def mayMeet (ops:Array Oper) (i j:Nat):Bool:=match ops[i]?,ops[j]? with
  | some x,some y=>(kindO y.op==1||kindO y.op==2)&&kindO x.op !=0&& !(kindO x.op==1&&kindO y.op==1)
  | _,_=>false
def drawInfo (ops:Array Oper):Option (List (Nat×Nat)):=
  let u:=unordered (befs ops.toList []) ops.size
  if (ops.toList.zipIdx.all fun (o,i)=>o.after.toList.all fun e=> !Region.binds .any e||Nat.blt e.on i)&&u.all fun q=>tmpsApart ops q.1 q.2 then
   some (u.filter fun q=>mayMeet ops q.1 q.2)
  else none
def lastB (ops:Array Oper):Bool:=Nat.blt 0 ops.size&&(List.range (ops.size - 1)).all fun i=>((befs ops.toList []).getD (ops.size - 1) 0).testBit i
def seqQ (K:St→Prop) (Q:Exit→St→Prop):Exit→St→Prop
  | .normal,st=>K st
  | e,st=>Q e st
def blockQ (id:Nat) (Q:Exit→St→Prop):Exit→St→Prop
  | .exit i,st=>if i=id then Q .normal st else Q (.exit i) st
  | e,st=>Q e st
def scopeQ (Q:Exit→St→Prop):Exit→St→Prop
  | .goto _,_=>False
  | e,st=>Q e st
def fz0 (i:Nat) (cs:List D) (sz:Nat):D→D
  | .rs j off n=>if j=i then .sl ((cs.drop off).take (n*sz)) n else .rs j off n
  | .rp j off=>if j=i then .pt (cs.drop off) else .rp j off
  | d=>d
def fm0 (i:Nat) (es:List (Value×D)):D→D
  | .mp j=>if j=i then .im es else .mp j
  | d=>d
def sub1 (σ:D→D):D→D
  | .agg ds=>.agg (ds.map σ)
  | .opt c d=>.opt c (σ d)
  | d=>σ d
def sub (σ:D→D):D→D
  | .tup ds=>.tup (ds.map (sub1 σ))
  | .fn f fs ds=>.fn f (fs.map (sub1 σ)) (ds.map (sub1 σ))
  | d=>sub1 σ d
def Row.sub (σ:D→D):Row→Row
  | .cells ds e=>.cells (ds.map (Abs.sub σ)) e
  | .map es=>.map (es.map fun x=>(x.1,Abs.sub σ x.2))
  | .bs u x T=>.bs u (Abs.sub σ x) T
  | r=>r
def Wk (d d':D):Prop:=∀ F β w v,R F β w d v→R F β w d' v
inductive Ghost (P:Program):St→St→Prop
  | refl (st:St):Ghost P st st
  | trans {a b c:St} (h:Ghost P a b) (k:Ghost P b c):Ghost P a c
  | forget (env env':Env) (m:Mem) (nx:Nat) (h:∀ t,env' t=env t∨env' t=.u):Ghost P ⟨env,m,nx⟩ ⟨env',m,nx⟩
  | drop (env:Env) (m m':Mem) (nx:Nat) (h:∀ i,m' i=m i∨m' i=none):Ghost P ⟨env,m,nx⟩ ⟨env,m',nx⟩
  | freeze (env:Env) (m:Mem) (nx i:Nat) (cs:List D) (e:TypeId) (h:m i=some (.cells cs e)):
      Ghost P ⟨env,m,nx⟩ ⟨fun t=>sub (fz0 i cs (P.cellsOf e)) (env t),fun j=>if j=i then none else (m j).map (Row.sub (fz0 i cs (P.cellsOf e))),nx⟩
  | freezeM (env:Env) (m:Mem) (nx i:Nat) (es:List (Value×D)) (h:m i=some (.map es)):
      Ghost P ⟨env,m,nx⟩ ⟨fun t=>sub (fm0 i es) (env t),fun j=>if j=i then none else (m j).map (Row.sub (fm0 i es)),nx⟩
  | nilrow (env:Env) (m:Mem) (nx t:Nat) (e:TypeId) (h:env t=.z):Ghost P ⟨env,m,nx⟩ ⟨up env t (.rs nx 0 0),up m nx (some (.cells [] e)),nx+1⟩
  | weak (env env':Env) (m m':Mem) (nx:Nat) (h:∀ t,Wk (env t) (env' t)) (hm:∀ i,m' i=m i∨∃ cs cs' e,m i=some (.cells cs e)∧m' i=some (.cells cs' e)∧cs'.length=cs.length∧∀ (k:Nat) (d d':D),cs[k]? =some d→cs'[k]? =some d'→Wk d d'):
      Ghost P ⟨env,m,nx⟩ ⟨env',m',nx⟩
def setAll (env:Env):List Tmp→List D→Env
  | t::ts,d::ds=>setAll (up env t d) ts ds
  | _,_=>env
def assignQ (K:St→Prop):Exit→St→Prop
  | .normal,st=>K st
  | _,_=>False
def roundQ (env:Env) (I':Mem→Nat→Prop) (Q:Exit→St→Prop):Exit→St→Prop
  | .normal,st=>I' st.mem st.nx
  | .ret,st=>Q .ret ⟨env,st.mem,st.nx⟩
  | .exit id,st=>Q (.exit id) ⟨env,st.mem,st.nx⟩
  | _,_=>False
def lastQ (P:Program) (ops:Array Oper) (Q:Exit→St→Prop):Exit→St→Prop:=fun e st=>e=.normal∧AOps P noY ops false [] Q (ops.toList.drop (ops.size - 1)) st []
def DrawOk (P:Program) (Y:YSpec) (ops:Array Oper) (cf:List (Nat×Nat)) (Q:Exit→St→Prop) (st:St):Prop:=
  AOps P Y ops true cf Q ops.toList st []∨(lastB ops=true∧AOps P noY ops true cf (lastQ P ops Q) (ops.toList.take (ops.size - 1)) st [])
def AW (P:Program) (Y:YSpec) (rf:Bool):Code→(Exit→St→Prop)→St→Prop
  | .skip,Q,st=>Q .normal st
  | .region _ ops false,Q,st=>AOps P Y ops false [] Q ops.toList st []
  | .region _ ops true,Q,st=>match drawInfo ops with
    | some cf=>DrawOk P Y ops cf Q st
    | none=>False
  | .seq a b,Q,st=>AW P Y rf a (seqQ (fun st'=>∃ st'',Ghost P st' st''∧AW P Y rf b Q st'') Q) st
  | .cond c a b,Q,st=>(opd st.env c).ask∧match (opd st.env c).core with
    | .s (.bool t)=>(t=true→AW P Y rf a Q st)∧(t=false→AW P Y rf b Q st)
    | .ub=>AW P Y rf a Q st∧AW P Y rf b Q st
    | _=>False
  | .block id b,Q,st=>AW P Y rf b (blockQ id Q) st
  | .scope b,Q,st=>AW P Y rf b (scopeQ Q) st
  | .loop b,Q,st=>∃ (I:St→Prop) (μ:St→Nat),I st∧∀ st',I st'→AW P Y rf b (seqQ (fun st''=>∃ st3,Ghost P st'' st3∧I st3∧μ st3<μ st') Q) st'
  | .rangeFunc g ps assign body,Q,st=>rf=true∧(opd st.env g).ask∧∃ f fs cs xs,∃ I:Nat→Mem→Nat→Prop,(opd st.env g).core=.fn (.func f) fs cs∧SeqA P f fs cs xs∧(∀ x∈xs,x.length=ps.size∧∀ d∈x,Tr d)∧I 0 st.mem st.nx∧
      (∀ k m nx x,xs[k]? =some x→I k m nx→AW P noY false assign (assignQ fun s=>AW P noY false body (roundQ st.env (I (k+1)) Q) s) ⟨setAll st.env ps.toList x,m,nx⟩)∧
      ∀ m nx,I xs.length m nx→Q .normal ⟨st.env,m,nx⟩
  | .exit id,Q,st=>Q (.exit id) st
  | .label _,Q,st=>Q .normal st
  | .ret,Q,st=>Q .ret st
  | _,_,_=>False
def resD (P:Program) (st:St):ResultVar→Option (Prop×D)
  | .tmp t=>some (True,st.env t)
  | .cell a t=>match st.env a with
    | .rp i off=>match st.mem i with
      | some (.cells cs _)=>some (tyOk P t=true∧off+P.cellsOf t≤cs.length,takeV P t (cs.drop off))
      | _=>none
    | .pt cs=>some (tyOk P t=true∧P.cellsOf t≤cs.length,takeV P t cs)
    | _=>none
def retL (P:Program) (st:St):List ResultVar→List D→(List D→Prop)→Prop
  | [],acc,K=>K acc
  | r::rs,acc,K=>match resD P st r with
    | some (p,d)=>p∧retL P st rs (acc++[d]) K
    | none=>False
def one1:List D→D
  | [d]=>d
  | ds=>.tup ds
def retQ (P:Program) (rs:List ResultVar) (K:D→St→Prop):Exit→St→Prop
  | .normal,st=>retL P st rs [] fun ds=>K (one1 ds) st
  | .ret,st=>retL P st rs [] fun ds=>K (one1 ds) st
  | _,_=>False
def envOf (args:List D):Env:=fun t=>args.getD t .u
section inv
variable {F:Nat→Prop} {β:Pla} {w:World} {v:Value}
theorem R.s_inv {x:Value} (h:R F β w (.s x) v):v=x∧plain x=true:=by cases h;exact ⟨rfl,‹_›⟩
theorem R.ub_inv (h:R F β w .ub v):∃ b,v=.bool b:=by cases h;exact ⟨_,rfl⟩
theorem R.z_eq (h:R F β w .z v):v=.slice none 0 0:=by cases h;rfl
theorem R.z_inv (h:R F β w .z v):∃ a,v=.slice a 0 0:=⟨_,h.z_eq⟩
theorem R.agg_inv {cs:List D} (h:R F β w (.agg cs) v):∃ vs:List Value,v=.agg vs.toArray∧vs.length=cs.length∧∀ (k:Nat) (d:D) (u:Value),cs[k]? =some d→vs[k]? =some u→R F β w d u:=by
  cases h with | agg _ vs hl h=>exact ⟨vs,rfl,hl,h⟩
theorem R.tup_inv {cs:List D} (h:R F β w (.tup cs) v):∃ vs:List Value,v=.tuple vs.toArray∧vs.length=cs.length∧∀ (k:Nat) (d:D) (u:Value),cs[k]? =some d→vs[k]? =some u→R F β w d u:=by
  cases h with | tup _ vs hl h=>exact ⟨vs,rfl,hl,h⟩
theorem R.core_of (d:D) (h:R F β w d v) (ha:d.ask):R F β w d.core v:=by
  cases h with
  | opt c d v h h'=>exact h ha
  | u v=>exact .u _
  | s v h=>exact .s _ h
  | ub b=>exact .ub _
  | agg cs vs h h'=>exact .agg _ _ h h'
  | tup cs vs h h'=>exact .tup _ _ h h'
  | z=>exact .z
  | yl i l h=>exact .yl _ _ h
  | yld i v h hv=>exact .yld _ _ h hv
  | sln a c=>exact .sln _ _
  | sc es n a h=>exact .sc _ _ _ h
  | sl es n b o cap us h1 h2 h3 h4 h5 h6 h7=>exact .sl _ _ _ _ _ _ h1 h2 h3 h4 h5 h6 h7
  | pt cs b o us h1 h2 h3 h4 h5=>exact .pt _ _ _ _ h1 h2 h3 h4 h5
  | rsd i off n v h hv=>exact .rsd _ _ _ _ h hv
  | rsn i a h=>exact .rsn _ _ h
  | rsz i off a b o len room sz h=>exact .rsz _ _ _ _ _ _ _ _ h
  | rs i off n cap b o len room sz h h1 h2 h3 h4=>exact .rs _ _ _ _ _ _ _ _ _ h h1 h2 h3 h4
  | rpd i off v h hv=>exact .rpd _ _ _ h hv
  | rp i off b o len room sz h=>exact .rp _ _ _ _ _ _ _ h
  | mpd i v h hv=>exact .mpd _ _ h hv
  | mp i r h=>exact .mp _ _ h
  | im es r ms c h1 h2 h3 h4 h5 h6 h7=>exact .im _ _ _ _ h1 h2 h3 h4 h5 h6 h7
  | fn f fs cs us vs h1 h2 h3 h4=>exact .fn _ _ _ _ _ h1 h2 h3 h4
theorem plain_one {x:Value} (h:plain x=true):x.oneCell'=true:=by cases x<;>simp_all [plain,Value.oneCell']
theorem R.one {d:D} (h:R F β w d v) (hd:d.one=true):v.oneCell'=true:=by
  cases h<;>first | rfl | assumption | (simp [D.one] at hd;done) | (exact plain_one ‹_›)
theorem R.cells {d:D} (h:R F β w d v) (hd:d.cells.all D.one=true):v.cells.size=d.cells.length∧(∀ (k:Nat) (e:D) (u:Value),d.cells[k]? =some e→v.cells[k]? =some u→R F β w e u∧u.oneCell'=true)∧(∀ u∈v.cells.toList,u.oneCell'=true):=by
  have single:d.cells=[d]→v.cells.size=d.cells.length∧(∀ (k:Nat) (e:D) (u:Value),d.cells[k]? =some e→v.cells[k]? =some u→R F β w e u∧u.oneCell'=true)∧(∀ u∈v.cells.toList,u.oneCell'=true):=fun hs=>by
    have h1:d.one=true:=by simpa [hs] using hd
    have h2:=h.one h1
    have h3:v.cells= #[v]:=by cases v<;>first | rfl | (simp [Value.oneCell'] at h2;done)
    rw [h3,hs]
    refine ⟨rfl,fun k e u hk hu=>?_,fun u hu=>?_⟩
    · cases k with
      | zero=>simp at hk hu;subst hk;subst hu;exact ⟨h,h2⟩
      | succ k=>simp at hk
    · simp at hu;subst hu;exact h2
  cases d with
  | agg cs=>
    obtain ⟨vs,rfl,hl,hr⟩:=h.agg_inv
    have hone:∀ (k:Nat) (u:Value),vs[k]? =some u→u.oneCell'=true:=fun k u hu=>by
      have hk:k<cs.length:=by
        have:=(List.getElem?_eq_some_iff.1 hu).1
        omega
      have h1:=hr k cs[k] u (by simp [hk]) hu
      exact h1.one (List.all_eq_true.1 hd _ (List.getElem_mem hk))
    refine ⟨by simpa [Value.cells,D.cells] using hl,fun k e u hk hu=>?_,fun u hu=>?_⟩
    · simp [Value.cells] at hu
      exact ⟨hr k e u hk hu,hone k u hu⟩
    · simp [Value.cells] at hu
      obtain ⟨k,hk⟩:=List.getElem?_of_mem hu
      exact hone k u hk
  | _=>exact single rfl
end inv
section opd
variable {F:Nat→Prop} {β:Pla} {w:World}
theorem toD1_R (v:Value):R F β w (toD1 v) v:=by
  unfold toD1
  split<;>first | exact .u _ | exact .s _ rfl | exact .z
theorem toD_R (v:Value):R F β w (toD v) v:=by
  unfold toD
  split
  · rename_i cs
    have:=R.agg (F:=F) (β:=β) (w:=w) (cs.toList.map toD1) cs.toList (by simp) (fun k d u hk hu=>by
      simp only [List.getElem?_map,hu,Option.map_some,Option.some.injEq] at hk
      subst hk
      exact toD1_R u)
    simpa using this
  all_goals first | exact .u _ | exact .s _ rfl | exact .z
def ESim (F:Nat→Prop) (β:Pla) (w:World) (env:Env) (a:Act):Prop:=∀ t,R F β w (env t) (a.tmps.getD t undef)
theorem ESim.opd {env:Env} {a:Act} (h:ESim F β w env a) (x:Operand):R F β w (opd env x) (a.eval x):=by
  cases x with
  | tmp t=>exact h t
  | const v=>exact toD_R v
  | global g=>exact .u _
  | func f=>exact .fn (.func f) [] [] [] [] rfl rfl (by simp) (by simp)
theorem ESim.step {β':Pla} {w':World} {env:Env} {a:Act} (h:ESim F β w env a) (hs:Step β w β' w'):ESim F β' w' env a:=fun t=>(h t).step hs
theorem ESim.put {env:Env} {a:Act} (h:ESim F β w env a) (dst:Option Nat) (d:D) (v:Value) (hr:R F β w d v) (hd:∀ t,dst=some t→t<a.tmps.size):
    ESim F β w (match dst with | some t=>up env t d | none=>env) (a.put dst v):=by
  cases dst with
  | none=>exact h
  | some t=>
    intro j
    have ht:=hd t rfl
    by_cases hj:j=t
    · subst hj
      simp only [up_same,Act.put]
      simpa [Array.getD_eq_getD_getElem?,ht] using hr
    · simp only [up_ne _ _ hj,Act.put]
      have:=h j
      simpa [Array.getD_eq_getD_getElem?,Array.getElem?_setIfInBounds_ne (Ne.symm hj)] using this
end opd
section types
variable {P:Program} (w:World)
theorem tyOk_spec {t:TypeId} (h:tyOk P t=true):∃ i d z,P.info? t=some i∧P.underlying t=some d∧i.zero=some z∧(aggP P t=false→P.cellsOf t=1)∧z.cells.size=P.cellsOf t∧
    zeroP P t=z.cells.toList.map toD1∧i.size=P.cellsOf t∧i.bytes=P.bytesOf t∧(∀ u∈z.cells.toList,(toD1 u).one=true):=by
  unfold tyOk at h
  simp only [Bool.and_eq_true,Bool.or_eq_true,beq_iff_eq] at h
  obtain ⟨⟨h1,h2⟩,h3⟩:=h
  obtain ⟨d,hd⟩:=Option.isSome_iff_exists.1 h1
  cases hi:P.info? t with
  | none=>simp [hi] at h3
  | some i=>
    cases hz:i.zero with
    | none=>simp [hi,hz] at h3
    | some z=>
      simp only [hi,hz,Option.bind_some,Bool.and_eq_true,beq_iff_eq,List.all_eq_true] at h3
      refine ⟨i,d,z,rfl,hd,hz,fun ha=>?_,h3.2,?_,?_,?_,h3.1⟩
      · rcases h2 with h2 | h2
        · rw [h2] at ha;cases ha
        · exact h2
      · simp [zeroP,hi,hz]
      · simp [Program.cellsOf,hi]
      · simp [Program.bytesOf,hi]
theorem run_isAgg' {t:TypeId} (h:(P.underlying t).isSome=true):(isAgg t).run P w=.ok (aggP P t) w:=by
  obtain ⟨d,hd⟩:=Option.isSome_iff_exists.1 h
  simp only [isAgg,Sem.run_bind,run_underlying hd,Result.andThen_ok,aggP,hd]
  cases d<;>rfl
theorem run_sizeOf' {t:TypeId} (h:(P.info? t).isSome=true):(sizeOf t).run P w=.ok (P.cellsOf t) w:=by
  obtain ⟨i,hi⟩:=Option.isSome_iff_exists.1 h
  simp [sizeOf,typeInfo,Program.cellsOf,hi]
theorem tyOk_info {t:TypeId} (h:tyOk P t=true):(P.info? t).isSome=true:=by
  obtain ⟨i,_,_,hi,_⟩:=tyOk_spec h
  simp [hi]
theorem tyOk_und {t:TypeId} (h:tyOk P t=true):(P.underlying t).isSome=true:=by
  obtain ⟨_,d,_,_,hd,_⟩:=tyOk_spec h
  simp [hd]
theorem run_zeroValue' {t:TypeId} (h:tyOk P t=true):∃ z,(zeroValue t).run P w=.ok z w∧z.cells.size=P.cellsOf t∧zeroP P t=z.cells.toList.map toD1∧(∀ u∈z.cells.toList,(toD1 u).one=true):=by
  obtain ⟨i,d,z,hi,_,hz,_,h1,h2,_,_,h3⟩:=tyOk_spec h
  exact ⟨z,by simp [zeroValue,typeInfo,hi,hz],h1,h2,h3⟩
theorem slT_spec {t:TypeId} (h:slT P t=true):P.underlying t=some (.slice (elemP P t))∧tyOk P (elemP P t)=true:=by
  unfold slT at h
  unfold elemP
  split at h
  · rename_i e he
    rw [he]
    exact ⟨rfl,h⟩
  · cases h
theorem arT_spec {t:TypeId} (h:arT P t=true):P.underlying t=some (.array (lenP P t) (elemP P t))∧tyOk P (elemP P t)=true:=by
  unfold arT at h
  unfold elemP lenP
  split at h
  · rename_i e he
    rw [he]
    exact ⟨rfl,h⟩
  · cases h
theorem stT_spec {t:TypeId} (h:stT P t=true):P.underlying t=some .string:=by
  unfold stT at h
  split at h
  · assumption
  · cases h
end types
end Go.Abs
