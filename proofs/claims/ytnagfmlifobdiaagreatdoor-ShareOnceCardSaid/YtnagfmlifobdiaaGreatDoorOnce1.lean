/- Part 1. -/
import Derived.ChangeKeysEq
import Derived.DeepKeys3
import Derived.KernelRfl
import Derived.Laws.BytesArg
import Derived.Laws.Concat
import Derived.Lib.UnsafeStr
import Derived.OrdersIn
import Derived.ProofKit
import Derived.RangeFuncLeaves
import Derived.WalkKit
import Derived.WideKeyMaps
set_option linter.all false
theorem kr {α:Sort _} {a b:α} (h:a=b:=by kernel_rfl):a=b:=h
theorem aL{α : Type _}{l : List α}{i : Nat}(h : i < l.length) : l[i]? = some l[i] := List.getElem?_eq_getElem h
theorem dF{α : Type _}{l : List α}{i : Nat}{a : α} : l.getD i a = l[i]?.getD a := List.getD_eq_getElem?_getD
theorem aG{α : Type _}(a b : α) : (some a = some b) = (a = b) := Option.some.injEq a b
theorem bI{α : Type _}{l : List α}{i : Nat}{a : α} : l[i]? = some a ↔ ∃ h : i < l.length, l[i] = a := List.getElem?_eq_some_iff
theorem aW(a b : Bool) : ((a && b) = true) = (a = true ∧ b = true) := Bool.and_eq_true a b
theorem bJ{n m : Nat}(h : Nat.ble n m = true) : n ≤ m := Nat.le_of_ble_eq_true h
theorem lu(n : Nat) : ((n : Int)).toNat = n := Int.toNat_natCast n
theorem gA{α : Type _}{l : List α}{n : Nat}(h : n < l.length) : l[n] ∈ l := List.getElem_mem h
theorem lv{a : Int}(h : 0 ≤ a) : ∃ n : Nat, a = n := Int.eq_ofNat_of_zero_le h
theorem bu{α : Type _}{l : List α}{i : Nat}{a : α}(e : l[i]? = some a) : a ∈ l := List.mem_of_getElem? e
theorem dq{α : Type _}{l : List α}{i : Nat}(h : l.length ≤ i) : List.take i l = l := List.take_of_length_le h
theorem cU{α β : Type _}{f : α → β}{x : Option α}{b : β} : x.map f = some b ↔ ∃ a, x = some a ∧ f a = b := Option.map_eq_some_iff
theorem dN{α : Type _}{a : α}{l : List α}(h : a ∈ l) : ∃ i : Nat, l[i]? = some a := List.getElem?_of_mem h
theorem bS{α : Type _}{p : α → Bool}{l : List α} : l.all p = true ↔ ∀ x ∈ l, p x = true := List.all_eq_true
theorem bR{α β : Type _}(a : α)(b : β)(c : α)(d : β) : ((a, b) = (c, d)) = (a = c ∧ b = d) := Prod.mk.injEq a b c d
theorem aZ(n : Nat) : n ≤ n := Nat.le_refl n
theorem oS{p : Prop}(h : p:=by simp) : p:=h
theorem oM{p : Prop}(h : p:=by dsimp only;omega) : p:=h
theorem oC{p : Prop}(h : p:=by decide) : p:=h
theorem oN{p : Prop}(h : p:=by assumption) : p:=h
theorem oP{p : Prop}(h : p:=by simp;omega) : p:=h
theorem oH{p : Prop}(h : p:=by cases h) : p:=h
theorem aK{p : Prop}(h : p:=by repeat' (first|exact trivial|exact rfl|refine And.intro ?_ ?_)) : p:=h
theorem cx{p : Prop}(h : p:=by simp[qo]) : p:=h
theorem cI{p : Prop}(h : p:=by simp[Op.operands]) : p:=h
theorem aoN{p : Prop}(h : p:=by first|(simp;done)|exact⟨rfl,bJ rfl⟩|(simp;omega)) : p:=h
theorem aoO{p : Prop}(h : p:=by first|(simp;done)|omega|exact bJ rfl) : p:=h
theorem aoP{p : Prop}(h : p:=by first|rfl|exact bJ rfl|(simp;done)|(simp;omega)|omega) : p:=h
theorem oG{p:Prop}(h:p:=by omega):p:=h
theorem eG{p:Prop}(h:p:=by repeat' (first|exact trivial|exact rfl|refine And.intro ?_ ?_)):p:=h
namespace Go.Abs
inductive D where
 |u
 |s (v:Value)
 |ub
 |cB (c:Bool) (d:D)
 |agg (cs:List D)
 |aM (cs:List D)
 |z
 |sl (es:List D) (n:Nat)
 |sc (es:List D) (n:Nat)
 |pt (cs:List D)
 |rs (i off n:Nat)
 |rp (i off:Nat)
 |mp (i:Nat)
 |im (es:List (Value×D))
 |fn (f:Fn) (fs cs:List D)
 deriving Inhabited
inductive Pl where
 |dead
 |nil
 |cells (b o len room sz:Nat)
 |map (r:Nat)
 |raw (r:Nat)
def Pl.bF:Pl->Option Nat
 | .cells b _ _ _ _=>some b
 | .map r=>some r
 | .raw r=>some r
 |_=>none
def plain:Value->Bool
 | .bool _ | .int _ _ | .string _ | .pointer none | .nilFunc | .nilIface | .map none=>true
 |_=>false
abbrev aE:=Nat->Option Pl
def aE.free(β:aE)(b:Nat):Prop:=∀ i p,β i=some p->p.bF≠some b
inductive R(F:Nat->Prop)(β:aE)(w:World):D->Value->Prop
 |u (v:Value):R F β w .u v
 |s (v:Value) (h:plain v=true):R F β w (.s v) v
 |ub (b:Bool):R F β w .ub (.bool b)
 |cB (c:Bool) (d:D) (v:Value) (h:c=true->R F β w d v) (h':c=false->v=undef):R F β w (.cB c d) v
 |agg (cs:List D) (vs:List Value) (hl:vs.length=cs.length) (h:∀ (k:Nat) (d:D) (v:Value),cs[k]? =some d->vs[k]? =some v->R F β w d v):R F β w (.agg cs) (.agg vs.toArray)
 |aM (cs:List D) (vs:List Value) (hl:vs.length=cs.length) (h:∀ (k:Nat) (d:D) (v:Value),cs[k]? =some d->vs[k]? =some v->R F β w d v):R F β w (.aM cs) (.tuple vs.toArray)
 |z (a:Option Addr):R F β w .z (.slice a 0 0)
 |gy (a:Option Addr) (cap:Nat):R F β w (.sl [] 0) (.slice a 0 cap)
 |sl (es:List D) (n b o cap:Nat) (us:Nat->Value) (hf:¬ F b) (hb:β.free b) (af:b<w.heap.size) (pg:n<=cap) (dk:cap<=maxLen)
  (hc:∀ k:Nat,k<es.length->w.cell? ⟨b,o+k,none⟩=some (us k)/\(us k).oneCell'=true) (h:∀ (k:Nat) (d:D),es[k]? =some d->R F β w d (us k)):R F β w (.sl es n) (.slice (some ⟨b,o,none⟩) n cap)
 |sc (es:List D) (n:Nat) (a:Option Addr) (h:R F β w (.sl es n) (.slice a n n)):R F β w (.sc es n) (.slice a n n)
 |pt (cs:List D) (b o:Nat) (us:Nat->Value) (hf:¬ F b) (hb:β.free b) (af:b<w.heap.size)
  (hc:∀ k:Nat,k<cs.length->w.cell? ⟨b,o+k,none⟩=some (us k)/\(us k).oneCell'=true) (h:∀ (k:Nat) (d:D),cs[k]? =some d->R F β w d (us k)):R F β w (.pt cs) (.pointer (some ⟨b,o,none⟩))
 |lp (i off n:Nat) (v:Value) (h:β i=some .dead) (hv:v.oneCell'=true):R F β w (.rs i off n) v
 |jr (i:Nat) (a:Option Addr) (h:β i=some .nil):R F β w (.rs i 0 0) (.slice a 0 0)
 |j9 (i off:Nat) (a:Option Addr) (b o len room sz:Nat) (h:β i=some (.cells b o len room sz)):R F β w (.rs i off 0) (.slice a 0 0)
 |rs (i off n cap b o len room sz:Nat) (h:β i=some (.cells b o len room sz)) (hn:n<=cap) (dk:cap<=maxLen)
  (h1:len<=off+cap*sz) (h2:off+cap*sz<=room):R F β w (.rs i off n) (.slice (some ⟨b,o+off,none⟩) n cap)
 |qY (i off:Nat) (v:Value) (h:β i=some .dead) (hv:v.oneCell'=true):R F β w (.rp i off) v
 |rp (i off b o len room sz:Nat) (h:β i=some (.cells b o len room sz)):R F β w (.rp i off) (.pointer (some ⟨b,o+off,none⟩))
 |zO (i:Nat) (v:Value) (h:β i=some .dead) (hv:v.oneCell'=true):R F β w (.mp i) v
 |mp (i r:Nat) (h:β i=some (.map r)):R F β w (.mp i) (.map (some r))
 |im (es:List (Value×D)) (r:Nat) (ms:Array MapEntry) (clock:Nat) (hf:¬ F r) (hb:β.free r) (hc:w.heap[r]? =some (.map ms clock)) (hl:ms.size=es.length) (eh:(es.map (·.1)).Nodup)
  (hk:∀ (k:Nat) (x:Value×D) (m:MapEntry),es[k]? =some x->ms[k]? =some m->m.key=x.1) (h:∀ (k:Nat) (x:Value×D) (m:MapEntry),es[k]? =some x->ms[k]? =some m->R F β w x.2 m.val):R F β w (.im es) (.map (some r))
 |fn (f:Fn) (fs cs:List D) (us vs:List Value) (hl:us.length=fs.length) (mP:vs.length=cs.length)
  (h:∀ (k:Nat) (d:D) (v:Value),fs[k]? =some d->us[k]? =some v->R F β w d v) (h':∀ (k:Nat) (d:D) (v:Value),cs[k]? =some d->vs[k]? =some v->R F β w d v):R F β w (.fn f fs cs) (.func f us.toArray vs.toArray)
abbrev Out(w w':World):Prop:=w'.os=w.os/\w'.output=w.output
theorem Out.trans{C J M:World}(h:Out C J)(k:Out J M):Out C M:=⟨k.1.trans h.1,k.2.trans h.2⟩
structure Step(β:aE)(w:World)(β':aE)(w':World):Prop where
 size:w.heap.size<=w'.heap.size
 de:∀ b,b<w.heap.size->β.free b->w'.heap[b]? =w.heap[b]? /\β'.free b
 keep:∀ i p,β i=some p->β' i=some p\/β' i=some .dead
 out:Out w w'
theorem Step.refl(β:aE)(w:World):Step β w β w:=⟨aZ _,fun _ _ h=>⟨rfl,h⟩,fun _ _ h=>.inl h,rfl,rfl⟩
theorem Step.trans{U X β₃:aE}{C J M:World}(h:Step U C X J)(k:Step X J β₃ M):Step U C β₃ M:=by
 refine⟨Nat.le_trans h.size k.size,fun b hb hf=>?_,fun i p hp=>?_,h.out.trans k.out⟩
 .obtain⟨h1,h2⟩:=h.de b hb hf;obtain⟨k1,k2⟩:=k.de b (Nat.lt_of_lt_of_le hb h.size) h2;exact⟨k1.trans h1,k2⟩
 .rcases h.keep i p hp with h1|h1
  .exact k.keep i p h1
  .right;rcases k.keep i _ h1 with h2|h2<;>exact h2
theorem cell_of_heap{w w':World}{b o:Nat}(h:w'.heap[b]? =w.heap[b]?):w'.cell? ⟨b,o,none⟩=w.cell? ⟨b,o,none⟩:=by
 simp[World.cell?,h]
def kV(w w':World)(b:Nat):Prop:=(∀ o u,w.cell? ⟨b,o,none⟩=some u->w'.cell? ⟨b,o,none⟩=some u)/\∀ ms c,w.heap[b]? =some (.map ms c)->w'.heap[b]? =some (.map ms c)
theorem uG{w w':World}{b:Nat}(h:w'.heap[b]? =w.heap[b]?):kV w w' b:=⟨fun _ _ hu=>(cell_of_heap h).trans hu,fun _ _ hm=>h.trans hm⟩
theorem kV.refl(w:World)(b:Nat):kV w w b:=⟨fun _ _ h=>h,fun _ _ h=>h⟩
theorem R.gen{F F':Nat->Prop}{β β':aE}{w w':World}(bD:w.heap.size<=w'.heap.size)
 (U:∀ b,b<w.heap.size->¬ F b->β.free b->kV w w' b/\β'.free b/\¬ F' b)
 (J:∀ i p,(∀ r,p≠ .raw r)->β i=some p->β' i=some p\/β' i=some .dead) {d:D} {v:Value} (h:R F β w d v):R F' β' w' d v:=by
 induction h with
 |u v=>exact .u v
 |s v h=>exact .s v h
 |ub b=>exact .ub b
 |cB c d v _ h' ih=>exact .cB c d v ih h'
 |agg cs vs hl _ ih=>exact .agg cs vs hl ih
 |aM cs vs hl _ ih=>exact .aM cs vs hl ih
 |z a=>exact .z a
 |gy a cap=>exact .gy a cap
 |sl es n b o cap us hf hb af pg dk hc _ ih=>
  obtain⟨h1,h2,C⟩:=U b af hf hb;exact .sl es n b o cap us C h2 (Nat.lt_of_lt_of_le af bD) pg dk (fun k hk=>⟨h1.1 _ _ (hc k hk).1,(hc k hk).2⟩) ih
 |sc es n a _ ih=>exact .sc es n a ih
 |pt cs b o us hf hb af hc _ ih=>
  obtain⟨h1,h2,C⟩:=U b af hf hb;exact .pt cs b o us C h2 (Nat.lt_of_lt_of_le af bD) (fun k hk=>⟨h1.1 _ _ (hc k hk).1,(hc k hk).2⟩) ih
 |lp i off n v h hv=>exact .lp i off n v (by rcases J i _ oS h with h1|h1<;>exact h1) hv
 |jr i a h=>
  rcases J i _ oS h with h1|h1
  .exact .jr i a h1
  .exact .lp i 0 0 _ h1 rfl
 |j9 i off a b o len room sz h=>
  rcases J i _ oS h with h1|h1
  .exact .j9 i off a b o len room sz h1
  .exact .lp i off 0 _ h1 rfl
 |rs i off n cap b o len room sz h hn dk h1 h2=>
  rcases J i _ oS h with C|C
  .exact .rs i off n cap b o len room sz C hn dk h1 h2
  .exact .lp i off n _ C rfl
 |qY i off v h hv=>exact .qY i off v (by rcases J i _ oS h with h1|h1<;>exact h1) hv
 |rp i off b o len room sz h=>
  rcases J i _ oS h with h1|h1
  .exact .rp i off b o len room sz h1
  .exact .qY i off _ h1 rfl
 |zO i v h hv=>exact .zO i v (by rcases J i _ oS h with h1|h1<;>exact h1) hv
 |mp i r h=>
  rcases J i _ oS h with h1|h1
  .exact .mp i r h1
  .exact .zO i _ h1 rfl
 |im es r ms clock hf hb hc hl eh hk _ ih=>
  obtain⟨h1,h2,C⟩:=U r (Array.getElem?_eq_some_iff.1 hc).1 hf hb;exact .im es r ms clock C h2 (h1.2 _ _ hc) hl eh hk ih
 |fn f fs cs us vs hl mP _ _ ih M=>exact .fn f fs cs us vs hl mP ih M
theorem R.step{F:Nat->Prop}{β β':aE}{w w':World}(hs:Step β w β' w'){d:D}{v:Value}(h:R F β w d v):R F β' w' d v:=
 h.gen hs.size (fun b hb hf C=>⟨uG (hs.de b hb C).1,(hs.de b hb C).2,hf⟩) fun i p _=>hs.keep i p
inductive Row where
 |cells (cs:List D) (e:TypeId)
 |map (es:List (Value×D))
 |raw (r:Nat) (o:Obj)
 |bs (u:Bool) (x:D) (T:TypeId)
 |iK (f:Nat->Option Nat) (r:Row)
abbrev Mem:=Nat->Option Row
inductive lV(P:Program)(F:Nat->Prop)(β:aE)(w:World):Row->Pl->Prop
 |nil (e:TypeId):lV P F β w (.cells [] e) .nil
 |cells (cs:List D) (e:TypeId) (b o room sz:Nat) (c:Array Value) (hb:w.heap[b]? =some (.cells c e (0,0))) (hr:o+room<=c.size) (hlen:cs.length<=room) (bD:sz=P.cellsOf e)
  (h:∀ (k:Nat) (d:D),cs[k]? =some d->∃ v,c[o+k]? =some v/\R F β w d v/\v.oneCell'=true):lV P F β w (.cells cs e) (.cells b o cs.length room sz)
 |map (es:List (Value×D)) (r:Nat) (ms:Array MapEntry) (clock:Nat) (hb:w.heap[r]? =some (.map ms clock)) (hl:ms.size=es.length) (eh:(es.map (·.1)).Nodup)
  (h:∀ (k:Nat) (x:Value×D) (m:MapEntry),es[k]? =some x->ms[k]? =some m->m.key=x.1/\R F β w x.2 m.val):lV P F β w (.map es) (.map r)
 |raw (r:Nat) (o:Obj) (hb:w.heap[r]? =some o):lV P F β w (.raw r o) (.raw r)
 |bs (u:Bool) (x:D) (T:TypeId) (b:Nat) (v:Value) (hb:w.heap[b]? =some (.cells #[.pointer (if u then some ⟨b,0,none⟩ else none),v] T (0,0))) (bD:P.cellsOf T=2) (h:R F β w x v) (h1:v.oneCell'=true):lV P F β w (.bs u x T) (.cells b 0 2 2 2)
def aE.via(β:aE)(f:Nat->Option Nat):aE:=fun i=>(f i).bind β
inductive cC(P:Program)(F:Nat->Prop)(β:aE)(w:World):Row->Pl->Prop
 |nil (e:TypeId):cC P F β w (.cells [] e) .nil
 |cells (cs:List D) (e:TypeId) (b o room sz:Nat) (c:Array Value) (hb:w.heap[b]? =some (.cells c e (0,0))) (hr:o+room<=c.size) (hlen:cs.length<=room) (bD:sz=P.cellsOf e)
  (h:∀ (k:Nat) (d:D),cs[k]? =some d->∃ v,c[o+k]? =some v/\R F β w d v/\v.oneCell'=true):cC P F β w (.cells cs e) (.cells b o cs.length room sz)
 |map (es:List (Value×D)) (r:Nat) (ms:Array MapEntry) (clock:Nat) (hb:w.heap[r]? =some (.map ms clock)) (hl:ms.size=es.length) (eh:(es.map (·.1)).Nodup)
  (h:∀ (k:Nat) (x:Value×D) (m:MapEntry),es[k]? =some x->ms[k]? =some m->m.key=x.1/\R F β w x.2 m.val):cC P F β w (.map es) (.map r)
 |raw (r:Nat) (o:Obj) (hb:w.heap[r]? =some o):cC P F β w (.raw r o) (.raw r)
 |bs (u:Bool) (x:D) (T:TypeId) (b:Nat) (v:Value) (hb:w.heap[b]? =some (.cells #[.pointer (if u then some ⟨b,0,none⟩ else none),v] T (0,0))) (bD:P.cellsOf T=2) (h:R F β w x v) (h1:v.oneCell'=true):cC P F β w (.bs u x T) (.cells b 0 2 2 2)
 |iK (f:Nat->Option Nat) (r:Row) (p:Pl) (F₂:Nat->Prop) (h1:∀ b,F b->F₂ b) (h2:∀ b,¬ β.free b->(β.via f).free b->F₂ b) (h:lV P F₂ (β.via f) w r p):cC P F β w (.iK f r) p
def vu:List (Nat×Array Value):=[(0, #[.int .u64 1,.int .u64 10,.int .u64 100,.int .u64 1000,.int .u64 10000,.int .u64 100000,.int .u64 1000000,.int .u64 10000000,.int .u64 100000000,.int .u64 1000000000,.int .u64 10000000000,.int .u64 100000000000,.int .u64 1000000000000,.int .u64 10000000000000,.int .u64 100000000000000,.int .u64 1000000000000000,.int .u64 10000000000000000,.int .u64 100000000000000000,.int .u64 1000000000000000000,.int .u64 10000000000000000000])]
def Bx(w:World)(t:Nat×Array Value):Prop:=∃ e k,w.heap[t.1]? =some (.cells t.2 e k)
theorem Bx.of{w w':World}{t:Nat×Array Value}(h:Bx w t)(hk:w'.heap[t.1]? =w.heap[t.1]?):Bx w' t:=by
 obtain⟨e,k,h⟩:=h;exact⟨e,k,hk.trans h⟩
structure FB(F:Nat->Prop)(w:World):Prop where
 lt:∀ b,F b->b<w.heap.size
 mQ:∀ t∈vu,F t.1/\Bx w t
theorem FB.next{F F':Nat->Prop}{w w':World}(h:FB F w)(af:∀ b,F' b->b<w'.heap.size)(C:∀ b,F b->F' b)(hk:∀ t∈vu,F t.1->w'.heap[t.1]? =w.heap[t.1]?):FB F' w':=
 ⟨af,fun t ht=>⟨C _ (h.mQ t ht).1,(h.mQ t ht).2.of (hk t ht (h.mQ t ht).1)⟩⟩
theorem adQ{w:World}{t:Nat×Array Value}(h:Bx w t)(x:Option (List Deferred)):w.heap[t.1]? ≠some (.deferred x):=by
 obtain⟨e,k,h⟩:=h;rw[h];simp
structure aJ(P:Program)(F:Nat->Prop)(m:Mem)(β:aE)(w:World):Prop where
 row:∀ i r,m i=some r->∃ p,β i=some p/\cC P F β w r p
 inj:∀ i j p q b,β i=some p->β j=some q->p.bF=some b->q.bF=some b->i=j
 lt:∀ i p b,β i=some p->p.bF=some b->b<w.heap.size
 nf:∀ i p b,β i=some p->p.bF=some b->¬ F b
 fb:FB F w
def up{α:Type}(f:Nat->α)(k:Nat)(v:α):Nat->α:=fun j=>if j=k then v else f j
theorem Dt{α:Type}(f:Nat->α)(k:Nat)(v:α)(j:Nat):up f k v j=if j=k then v else f j:=rfl
theorem aj{α:Type}(f:Nat->α)(k:Nat)(v:α):up f k v k=v:=by simp[up]
theorem aA{α:Type}(f:Nat->α){k:Nat}(v:α){j:Nat}(h:j≠k):up f k v j=f j:=by simp[up,h]
section
variable{P:Program}{F:Nat->Prop}{β β':aE}{w w':World}{m:Mem}
theorem lV.gen{F':Nat->Prop}(bD:w.heap.size<=w'.heap.size)
 (J:∀ b,b<w.heap.size->¬ F b->β.free b->kV w w' b/\β'.free b/\¬ F' b)
 (C:∀ i p,(∀ r,p≠ .raw r)->β i=some p->β' i=some p\/β' i=some .dead) {r:Row} {p:Pl} (hb:∀ b,p.bF=some b->w'.heap[b]? =w.heap[b]?) (h:lV P F β w r p):lV P F' β' w' r p:=by
 cases h with
 |nil e=>exact .nil e
 |cells cs e b o room sz c hc hr hlen hs hh=>
  refine .cells cs e b o room sz c ((hb b rfl).trans hc) hr hlen hs fun k d hk=>?_;obtain⟨v,h1,h2,M⟩:=hh k d hk;exact⟨v,h1,h2.gen bD J C,M⟩
 |map es r ms clock hc hl eh hh=>
  refine .map es r ms clock ((hb r rfl).trans hc) hl eh fun k x U hk hm=>?_;obtain⟨h1,h2⟩:=hh k x U hk hm;exact⟨h1,h2.gen bD J C⟩
 |raw r o hc=>exact .raw r o ((hb r rfl).trans hc)
 |bs u x T b v hc hs hx h1=>exact .bs u x T b v ((hb b rfl).trans hc) hs (hx.gen bD J C) h1
theorem aE.pH{β:aE}{b:Nat}(h:β.free b)(f:Nat->Option Nat):(β.via f).free b:=fun i p hp=>by
 unfold aE.via at hp;obtain⟨j,_,hj⟩:=Option.bind_eq_some_iff.1 hp;exact h j p hj
theorem cC.gen{F':Nat->Prop}(bD:w.heap.size<=w'.heap.size)
 (M:∀ b,b<w.heap.size->¬ F b->β.free b->kV w w' b/\β'.free b/\¬ F' b)
 (J:∀ i p,(∀ r,p≠ .raw r)->β i=some p->β' i=some p\/β' i=some .dead) {r:Row} {p:Pl} (hb:∀ b,p.bF=some b->w'.heap[b]? =w.heap[b]?) (h:cC P F β w r p):cC P F' β' w' r p:=by
 cases h with
 |nil e=>exact .nil e
 |cells cs e b o room sz c hc hr hlen hs hh=>
  refine .cells cs e b o room sz c ((hb b rfl).trans hc) hr hlen hs fun k d hk=>?_;obtain⟨v,h1,h2,h3⟩:=hh k d hk;exact⟨v,h1,h2.gen bD M J,h3⟩
 |map es r ms clock hc hl eh hh=>
  refine .map es r ms clock ((hb r rfl).trans hc) hl eh fun k x mm hk hm=>?_;obtain⟨h1,h2⟩:=hh k x mm hk hm;exact⟨h1,h2.gen bD M J⟩
 |raw r o hc=>exact .raw r o ((hb r rfl).trans hc)
 |bs u x T b v hc hs hx h1=>exact .bs u x T b v ((hb b rfl).trans hc) hs (hx.gen bD M J) h1
 |iK f r _ F₂ h1 h2 h=>
  refine .iK f r p (fun b=>F' b\/(¬ β'.free b/\(β'.via f).free b)) (fun b hb=>.inl hb) (fun b C U=>.inr ⟨C,U⟩) (h.gen bD (fun b af C U=>?_) (fun i q hq hi=>?_) hb)
  .have g3:β.free b:=Classical.byContradiction fun hn=>C (h2 b hn U);obtain⟨k1,X,k3⟩:=M b af (fun e=>C (h1 b e)) g3;exact⟨k1,aE.pH X f,fun e=>e.elim k3 fun e=>e.1 X⟩
  .unfold aE.via at hi ⊢;obtain⟨j,hj,hβ⟩:=Option.bind_eq_some_iff.1 hi;rw[hj];exact J j q hq hβ
theorem cC.step{r:Row}{p:Pl}(hs:Step β w β' w')(hb:∀ b,p.bF=some b->w'.heap[b]? =w.heap[b]?)(h:cC P F β w r p):cC P F β' w' r p:=
 h.gen hs.size (fun b hb hf C=>⟨uG (hs.de b hb C).1,(hs.de b hb C).2,hf⟩) (fun i p _=>hs.keep i p) hb
theorem lV.live{r:Row}{p:Pl}(h:lV P F β w r p):p≠ .dead:=by cases h<;>simp
theorem cC.live{r:Row}{p:Pl}(h:cC P F β w r p):p≠ .dead:=by
 cases h with
 |iK _ _ _ _ _ _ h=>exact h.live
 |_=>simp
def Row.mI(f:Nat->Option Nat):Row->Row
 | .iK g r=>.iK (fun i=>(g i).bind f) r
 |r=>.iK f r
theorem cC.base{r:Row}{p:Pl}(hq:∀ f r',r≠ .iK f r')(h:cC P F β w r p):lV P F β w r p:=by
 cases h with
 |nil e=>exact .nil e
 |cells cs e b o room sz c hc hr hlen hs hh=>exact .cells cs e b o room sz c hc hr hlen hs hh
 |map es r ms clock hc hl eh hh=>exact .map es r ms clock hc hl eh hh
 |raw r o hc=>exact .raw r o hc
 |bs u x T b v hc hs hx h1=>exact .bs u x T b v hc hs hx h1
 |iK f r _ _ _ _ _=>exact absurd rfl (hq f r)
theorem lV.row{r:Row}{p:Pl}(h:lV P F β w r p):cC P F β w r p:=by
 cases h with
 |nil e=>exact .nil e
 |cells cs e b o room sz c hc hr hlen hs hh=>exact .cells cs e b o room sz c hc hr hlen hs hh
 |map es r ms clock hc hl eh hh=>exact .map es r ms clock hc hl eh hh
 |raw r o hc=>exact .raw r o hc
 |bs u x T b v hc hs hx h1=>exact .bs u x T b v hc hs hx h1
theorem lV.og{F':Nat->Prop}{r:Row}{p:Pl}(C:∀ b,b<w.heap.size->β.free b->F' b->F b)(h:lV P F β w r p):lV P F' β w r p:=
 h.gen (aZ _) (fun b hb h1 h2=>⟨kV.refl w b,h2,fun e=>h1 (C b hb h2 e)⟩) (fun _ _ _ h=>.inl h) fun _ _=>rfl
def hidden(F:Nat->Prop)(β:aE)(f:Nat->Option Nat):Nat->Prop:=fun b=>F b\/(¬ β.free b/\(β.via f).free b)
theorem DD(β:aE)(f g:Nat->Option Nat):(β.via f).via g=β.via fun i=>(g i).bind f:=by
 funext i;simp only[aE.via];cases g i<;>rfl
theorem cC.seen{f:Nat->Option Nat}{r:Row}{p:Pl}(h:cC P F β w (r.mI f) p):cC P (hidden F β f) (β.via f) w r p:=by
 have key:∀ r',cC P F β w (.iK f r') p->lV P (hidden F β f) (β.via f) w r' p:=fun r' h=>by
  cases h with
  |iK _ _ _ F₂ h1 h2 h=>exact h.og fun b _ _ hb=>hb.elim (h1 b) fun e=>h2 b e.1 e.2
 cases r with
 |iK g r=>
  simp only[Row.mI] at h;cases h with
  |iK _ _ _ F₂ h1 h2 h=>
  refine .iK g r p F₂ (fun b hb=>?_) (fun b C J=>?_) (by rw[DD];exact h)
  .rcases hb with hb|⟨C,J⟩
   .exact h1 b hb
   .exact h2 b C (by rw[<- DD];exact aE.pH J g)
  .exact h2 b (fun e=>C (aE.pH e f)) (by rw[<- DD];exact J)
 |_=>exact(key _ h).row
theorem cC.Im{F':Nat->Prop}{f:Nat->Option Nat}{r:Row}{p:Pl}(h:cC P F' (β.via f) w r p)(h1:∀ b,F b->F' b)(h2:∀ b,¬ β.free b->(β.via f).free b->F' b):cC P F β w (r.mI f) p:=by
 cases r with
 |iK g r=>
  simp only[Row.mI];cases h with
  |iK _ _ _ F₂ C J h=>
  refine .iK _ r p F₂ (fun b hb=>C b (h1 b hb)) (fun b k1 M=>?_) (by rw[<- DD];exact h);by_cases hb:(β.via f).free b
  .exact C b (h2 b k1 hb)
  .exact J b hb (by rw[DD];exact M)
 |_=>exact .iK f _ p F' h1 h2 (h.base oS)
theorem aJ.rD(h:aJ P F m β w){i:Nat}{p:Pl}{b:Nat}(hp:β i=some p)(hb:p.bF=some b){j:Nat}{q:Pl}(hq:β j=some q)(C:j≠i):q.bF≠some b:=
 fun e=>C (h.inj j i q p b hq hp e hb)
theorem AH(h:aJ P F m β w)(o:Obj){nx:Nat}(hn:β nx=none)(p:Pl)(hp:∀ b,p.bF=some b->b=w.heap.size):Step β w (up β nx (some p)) (w.alloc o):=by
 refine⟨oS,fun b hb hf=>⟨heap_alloc_old w o hb,fun i q hq=>?_⟩,fun i q hq=>?_,rfl,rfl⟩
 .by_cases hi:i=nx
  .subst hi;rw[aj] at hq;cases hq;intro e;have:=hp b e;omega
  .rw[aA _ _ hi] at hq;exact hf i q hq
 .left;rw[aA _ _ (fun e=>by rw[e,hn] at hq;cases hq)];exact hq
theorem aJ.alloc(h:aJ P F m β w){nx:Nat}(hn:β nx=none)(o:Obj)(r:Row)(p:Pl)(hp:∀ b,p.bF=some b->b=w.heap.size)
 (hr:cC P F (up β nx (some p)) (w.alloc o) r p):aJ P F (up m nx (some r)) (up β nx (some p)) (w.alloc o):=by
 have hs:=AH h o hn p hp;refine⟨fun i r' hi=>?_,fun i j q X b hq C e M=>?_,fun i q b hq e=>?_,fun i q b hq e=>?_,?_⟩
 .by_cases J:i=nx
  .subst J;rw[aj] at hi;cases hi;exact⟨p,aj _ _ _,hr⟩
  .rw[aA _ _ J] at hi;obtain⟨q,hq,ap⟩:=h.row i r' hi;exact⟨q,by rw[aA _ _ J];exact hq,ap.step hs fun b hb=>heap_alloc_old w o (h.lt i q b hq hb)⟩
 .by_cases hi:i=nx<;>by_cases hj:j=nx
  .rw[hi,hj]
  .subst hi;rw[aj] at hq;rw[aA _ _ hj] at C;cases hq;have h1:=hp b e;have h2:=h.lt j X b C M;omega
  .subst hj;rw[aj] at C;rw[aA _ _ hi] at hq;cases C;have h1:=hp b M;have h2:=h.lt i q b hq e;omega
  .rw[aA _ _ hi] at hq;rw[aA _ _ hj] at C;exact h.inj i j q X b hq C e M
 .by_cases hi:i=nx
  .subst hi;rw[aj] at hq;cases hq;have:=hp b e;simp;omega
  .rw[aA _ _ hi] at hq;have:=h.lt i q b hq e;simp;omega
 .by_cases hi:i=nx
  .subst hi;rw[aj] at hq;cases hq;intro U;have h1:=hp b e;have h2:=h.fb.lt b U;omega
  .rw[aA _ _ hi] at hq;exact h.nf i q b hq e
 .exact h.fb.next (fun b hb=>by have:=h.fb.lt b hb;simp;omega) (fun _ h=>h) fun t _ U=>heap_alloc_old w o (h.fb.lt _ U)
theorem AL(β:aE)(w:World)(i:Nat):Step β w (up β i (some .dead)) w:=by
 refine⟨aZ _,fun b _ hf=>⟨rfl,fun j q hq=>?_⟩,fun j q hq=>?_,rfl,rfl⟩
 .by_cases hj:j=i
  .subst hj;rw[aj] at hq;cases hq;simp[Pl.bF]
  .rw[aA _ _ hj] at hq;exact hf j q hq
 .by_cases hj:j=i
  .subst hj;exact .inr (aj _ _ _)
  .exact .inl (by rw[aA _ _ hj];exact hq)
theorem aJ.dead(h:aJ P F m β w)(i:Nat):aJ P F (up m i none) (up β i (some .dead)) w:=by
 have hs:=AL β w i
 have C:∀ j q b,up β i (some .dead) j=some q->q.bF=some b->j≠i/\β j=some q:=fun j q b hq e=>by
  by_cases hj:j=i
  .subst hj;rw[aj] at hq;cases hq;simp[Pl.bF] at e
  .rw[aA _ _ hj] at hq;exact⟨hj,hq⟩
 refine⟨fun j r' hj=>?_,fun j k q U b hq X e M=>?_,fun j q b hq e=>h.lt j q b (C j q b hq e).2 e,fun j q b hq e=>h.nf j q b (C j q b hq e).2 e,h.fb⟩
 .by_cases J:j=i
  .subst J;rw[aj] at hj;cases hj
  .rw[aA _ _ J] at hj;obtain⟨q,hq,ap⟩:=h.row j r' hj;exact⟨q,by rw[aA _ _ J];exact hq,ap.step hs fun b _=>rfl⟩
 .exact h.inj j k q U b (C j q b hq e).2 (C k U b X M).2 e M
theorem C'(h:aJ P F m β w){i:Nat}{p:Pl}{b:Nat}(hp:β i=some p)(hb:p.bF=some b)(J:w.heap.size<=w'.heap.size)
 (C:∀ k,k≠b->w'.heap[k]? =w.heap[k]?) (M:Out w w':=by first|exact⟨rfl,rfl⟩|assumption):Step β w β w':=
 ⟨J,fun k _ hf=>⟨C k fun e=>hf i p hp (e▸hb),hf⟩,fun _ _ hq=>.inl hq,M⟩
theorem aJ.write(h:aJ P F m β w){i:Nat}{p:Pl}{b:Nat}(hp:β i=some p)(hb:p.bF=some b)(M:w'.heap.size=w.heap.size)
 (J:∀ k,k≠b->w'.heap[k]? =w.heap[k]?) (r:Row) (hr:cC P F β w' r p) (X:Out w w':=by first|exact⟨rfl,rfl⟩|assumption):aJ P F (up m i (some r)) β w':=by
 have hs:=C' h hp hb oG J;refine⟨fun j r' hj=>?_,h.inj,fun j q c hq e=>by rw[M];exact h.lt j q c hq e,h.nf,h.fb.next (fun c hc=>by rw[M];exact h.fb.lt c hc) (fun _ h=>h) fun t _ U=>J _ fun e=>h.nf _ _ _ hp hb (e▸U)⟩;by_cases C:j=i
 .subst C;rw[aj] at hj;cases hj;exact⟨p,hp,hr⟩
 .rw[aA _ _ C] at hj;obtain⟨q,hq,ap⟩:=h.row j r' hj;exact⟨q,hq,ap.step hs fun c hc=>J c fun e=>h.rD hp hb hq C (e▸hc)⟩
theorem aJ.move(h:aJ P F m β w){i nx:Nat}{p p':Pl}{b:Nat}(hp:β i=some p)(hb:p.bF=some b)(U:p'.bF=some b)(hn:β nx=none)(hw:w'.heap.size=w.heap.size)
 (ho:∀ k,k≠b->w'.heap[k]? =w.heap[k]?) (r:Row) (hr:Step β w (up (up β i (some .dead)) nx (some p')) w'->cC P F (up (up β i (some .dead)) nx (some p')) w' r p') (zr:Out w w':=by first|exact⟨rfl,rfl⟩|assumption):
 aJ P F (up (up m i none) nx (some r)) (up (up β i (some .dead)) nx (some p')) w'/\Step β w (up (up β i (some .dead)) nx (some p')) w':=by
 have dx:i≠nx:=fun e=>by rw[e,hn] at hp;cases hp
 have X:∀ j q,up (up β i (some .dead)) nx (some p') j=some q->(j=nx/\q=p')\/(j=i/\q=.dead)\/(j≠nx/\j≠i/\β j=some q):=fun j q hq=>by
  by_cases hj:j=nx
  .subst hj;rw[aj] at hq;cases hq;exact .inl ⟨rfl,rfl⟩
  .rw[aA _ _ hj] at hq;by_cases C:j=i
   .subst C;rw[aj] at hq;cases hq;exact .inr (.inl ⟨rfl,rfl⟩)
   .rw[aA _ _ C] at hq;exact .inr (.inr ⟨hj,C,hq⟩)
 have hs:Step β w (up (up β i (some .dead)) nx (some p')) w':=by
  refine⟨oG,fun c hc hf=>⟨ho c fun e=>hf i p hp (e▸hb),fun j q hq e=>?_⟩,fun j q hq=>?_,zr⟩
  .rcases X j q hq with⟨rfl,rfl⟩|⟨rfl,rfl⟩|⟨_,_,ie⟩
   .rw[U] at e;cases e;exact hf i p hp hb
   .simp[Pl.bF] at e
   .exact hf j q ie e
  .by_cases C:j=i
   .subst C;exact .inr (by rw[aA _ _ dx,aj])
   .have hj:j≠nx:=fun e=>by rw[e,hn] at hq;cases hq
    exact .inl (by rw[aA _ _ hj,aA _ _ C];exact hq)
 refine⟨⟨fun j r' hj=>?_,fun j k q q' c hq ie e J=>?_,fun j q c hq e=>?_,fun j q c hq e=>?_,h.fb.next (fun c hc=>by rw[hw];exact h.fb.lt c hc) (fun _ h=>h) fun t _ hF=>ho _ fun e=>h.nf _ _ _ hp hb (e▸hF)⟩,hs⟩
 .by_cases jt:j=nx
  .subst jt;rw[aj] at hj;cases hj;exact⟨p',aj _ _ _,hr hs⟩
  .rw[aA _ _ jt] at hj;by_cases C:j=i
   .subst C;rw[aj] at hj;cases hj
   .rw[aA _ _ C] at hj;obtain⟨q,hq,ap⟩:=h.row j r' hj;exact⟨q,by rw[aA _ _ jt,aA _ _ C];exact hq,ap.step hs fun c hc=>ho c fun e=>h.rD hp hb hq C (e▸hc)⟩
 .rcases X j q hq with⟨rfl,rfl⟩|⟨rfl,rfl⟩|⟨h1,h2,M⟩<;>rcases X k q' ie with⟨rfl,rfl⟩|⟨rfl,rfl⟩|⟨k1,k2,k3⟩
  .rfl
  .simp[Pl.bF] at J
  .rw[U] at e;cases e;exact absurd J (h.rD hp hb k3 k2)
  .simp[Pl.bF] at e
  .rfl
  .simp[Pl.bF] at e
  .rw[U] at J;cases J;exact absurd e (h.rD hp hb M h2)
  .simp[Pl.bF] at J
  .exact h.inj j k q q' c M k3 e J
 .rw[hw];rcases X j q hq with⟨rfl,rfl⟩|⟨rfl,rfl⟩|⟨_,_,M⟩
  .rw[U] at e;cases e;exact h.lt i p b hp hb
  .simp[Pl.bF] at e
  .exact h.lt j q c M e
 .rcases X j q hq with⟨rfl,rfl⟩|⟨rfl,rfl⟩|⟨_,_,M⟩
  .rw[U] at e;cases e;exact h.nf i p b hp hb
  .simp[Pl.bF] at e
  .exact h.nf j q c M e
end
def oi:Value->D
 | .bool b=>.s (.bool b)
 | .int k n=>.s (.int k n)
 | .string b=>.s (.string b)
 | .pointer none=>.s (.pointer none)
 | .nilFunc=>.s .nilFunc
 | .nilIface=>.s .nilIface
 | .map none=>.s (.map none)
 | .slice none 0 0=>.z
 |_=>.u
def NU:Value->D
 | .agg cs=>.agg (cs.toList.map oi)
 | .bool b=>.s (.bool b)
 | .int k n=>.s (.int k n)
 | .string b=>.s (.string b)
 | .pointer none=>.s (.pointer none)
 | .nilFunc=>.s .nilFunc
 | .nilIface=>.s .nilIface
 | .map none=>.s (.map none)
 | .slice none 0 0=>.z
 |_=>.u
abbrev Env:=Nat->D
structure St where
 env:Env
 mem:Mem
 nx:Nat
def St.put(st:St)(d:Option Nat)(v:D):St:=
 match d with
 |some t=>{ st with env:=up st.env t v }
 |none=>st
def opd(env:Env):Operand->D
 | .tmp t=>env t
 | .const v=>NU v
 | .global _=>.u
 | .func f=>.fn (.func f) [] []
def D.core:D->D
 | .cB _ d=>d
 |d=>d
def D.ask:D->Prop
 | .cB c _=>c=true
 |_=>True
section types
variable(P:Program)
def bq(t:TypeId):Bool:=match P.underlying t with
 |some (.struct _)=>true
 |some (.array _ _)=>true
 |_=>false
def aF(t:TypeId):TypeId:=match P.underlying t with
 |some (.slice e)=>e
 |some (.pointer e)=>e
 |some (.array _ e)=>e
 |_=>0
def cr(t:TypeId)(k:Nat):Option (Nat×TypeId):=match P.underlying t with
 |some (.struct fs)=>(fs[k]?).map fun f=>(f.offset,f.type)
 |_=>none
def a8(t:TypeId):List D:=((P.info? t).bind (·.zero)).elim [] fun v=>v.cells.toList.map oi
def pi(t:TypeId):Nat:=match P.underlying t with
 |some (.array n _)=>n
 |_=>0
end types
def D.one:D->Bool
 | .u | .cB _ _ | .agg _ | .aM _=>false
 |_=>true
def aI(P:Program)(t:TypeId):Bool:=
 (P.underlying t).isSome&&(bq P t||P.cellsOf t==1)&&match (P.info? t).bind (·.zero) with
  |some v=>v.cells.toList.all (fun c=>(oi c).one)&&v.cells.size==P.cellsOf t
  |none=>false
def bi(P:Program)(t:TypeId):Bool:=match P.underlying t with
 |some (.slice e)=>aI P e
 |_=>false
def oI(P:Program)(t:TypeId):Bool:=match P.underlying t with
 |some (.array _ e)=>aI P e
 |_=>false
def fW(P:Program)(t:TypeId):Bool:=match P.underlying t with
 |some .string=>true
 |_=>false
def D.cells:D->List D
 | .agg cs=>cs
 |d=>[d]
def hD(P:Program)(t:TypeId)(cs:List D):D:=if bq P t then .agg (cs.take (P.cellsOf t)) else cs.headD .u
def gW(cs:List D)(off:Nat):List D->List D
 |[x]=>cs.set off x
 |xs=>cs.take off++xs++cs.drop (off+xs.length)
structure dy where
 pre:Prop
 val:D
 aU:List (Nat×Option Row):=[]
 rd:List Nat:=[]
 new:Nat:=0
def cK(m:Mem):List (Nat×Option Row)->Mem
 |[]=>m
 |(i,r)::us=>cK (up m i r) us
def mj(op:BinOp)(k:IntKind)(x y:Int):Int:=
 let a:=BitVec.ofInt k.bits x
 let b:=BitVec.ofInt k.bits y
 k.wrap (match op with
  | .and=>a&&& b
  | .or=>a||| b
  | .xor=>a ^^^ b
  |_=>a&&& ~~~b).toNat
def sf(op:BinOp)(x y:Value):Option (Prop×Value):=
 match op,x,y with
 | .shl,.int k a,.int _ b=>some (0<=b,.int k (k.wrap (a*2 ^ (min b.toNat k.bits))))
 | .shr,.int k a,.int _ b=>some (0<=b,.int k (a.fdiv (2 ^ (min b.toNat k.bits))))
 | .add,.int k a,.int k' b=>some (k=k',.int k (k.wrap (a+b)))
 | .sub,.int k a,.int k' b=>some (k=k',.int k (k.wrap (a - b)))
 | .mul,.int k a,.int k' b=>some (k=k',.int k (k.wrap (a*b)))
 | .quo,.int k a,.int k' b=>some (k=k'/\b≠0,.int k (k.wrap (a.tdiv b)))
 | .rem,.int k a,.int k' b=>some (k=k'/\b≠0,.int k (a.tmod b))
 | .and,.int k a,.int k' b=>some (k=k',.int k (mj .and k a b))
 | .or,.int k a,.int k' b=>some (k=k',.int k (mj .or k a b))
 | .xor,.int k a,.int k' b=>some (k=k',.int k (mj .xor k a b))
 | .andNot,.int k a,.int k' b=>some (k=k',.int k (mj .andNot k a b))
 | .eql,.int k a,.int k' b=>some (k=k',.bool (a==b))
 | .neq,.int k a,.int k' b=>some (k=k',.bool (a !=b))
 | .lss,.int k a,.int k' b=>some (k=k',.bool (decide (a<b)))
 | .leq,.int k a,.int k' b=>some (k=k',.bool (decide (a<=b)))
 | .gtr,.int k a,.int k' b=>some (k=k',.bool (decide (b<a)))
 | .geq,.int k a,.int k' b=>some (k=k',.bool (decide (b<=a)))
 | .eql,.string a,.string b=>some (True,.bool (a.toList==b.toList))
 | .neq,.string a,.string b=>some (True,.bool !(a.toList==b.toList))
 | .lss,.string a,.string b=>some (True,.bool (Op.bytesLess a.toList b.toList))
 | .geq,.string a,.string b=>some (True,.bool !(Op.bytesLess a.toList b.toList))
 |_,_,_=>none
def jZ:Value->Nat
 | .int _ _=>0
 | .bool _=>1
 | .string _=>2
 |_=>3
def wR(P:Program)(t:TypeId):Nat:=match P.underlying t with
 |some (.int _)=>0
 |some .bool=>1
 |some .string=>2
 |_=>9
def tH(P:Program)(t:TypeId):Bool:=wR P t !=9&&P.cellsOf t==1&&aI P t&& !bq P t
def vd(P:Program)(t:TypeId):Option (List Nat):=match P.underlying t with
 |some (.array n e)=>if tH P e&&P.cellsOf t==n then some (List.replicate n (wR P e)) else none
 |some (.struct fs)=>if(fs.toList.all fun f=>f.name !="_"&&tH P f.type)&&P.runs 0 fs.toList==some fs.toList.length&& !P.stoodInHeld t then some (fs.toList.map fun f=>wR P f.type) else none
 |_=>none
def y5:Value->Value->Bool
 | .int k _,.int k' _=>k==k'
 | .bool _,.bool _=>true
 | .string _,.string _=>true
 |_,_=>false
def oq:List D->List D->Option (List Value×List Value)
 |[],[]=>some ([],[])
 | .s x::xs,.s y::ys=>if y5 x y then(oq xs ys).map fun q=>(x::q.1,y::q.2) else none
 |_,_=>none
def pY:Value->Value->Bool
 | .int k a,.int k' b=>k==k'&&a==b
 | .bool a,.bool b=>a==b
 | .string a,.string b=>a.data.toList==b.data.toList
 |_,_=>false
def gn:List Value->List Value->Bool
 |[],[]=>true
 |a::aS,b::bs=>pY a b&&gn aS bs
 |_,_=>false
def yH(P:Program)(op:BinOp)(t:TypeId)(xs ys:List D):Option (Prop×D):=
 match op,vd P t,oq xs ys with
 | .eql,some ks,some q=>some (q.1.map jZ=ks/\P.eqGuardType P.depth t=false,.s (.bool (gn q.1 q.2)))
 | .neq,some ks,some q=>some (q.1.map jZ=ks/\P.eqGuardType P.depth t=false,.s (.bool !(gn q.1 q.2)))
 |_,_,_=>none
def tV(P:Program)(t:TypeId):Bool:=match P.underlying t with
 |some .bool=>true
 |_=>false
def xF(P:Program)(t:TypeId):Bool:=match P.underlying t with
 |some (.pointer _)=>true
 |_=>false
def vw(P:Program)(op:BinOp)(t:TypeId)(x y:D):Option (Prop×D):=
 match x,y with
 | .s (.bool a),.s (.bool b)=>match op with
  | .eql=>some (tV P t=true,.s (.bool (a==b)))
  | .neq=>some (tV P t=true,.s (.bool !(a==b)))
  |_=>none
 | .s a,.s b=>(sf op a b).map fun r=>(r.1,.s r.2)
 | .agg xs,.agg ys=>yH P op t xs ys
 |_,_=>none
def ns(P:Program)(m:Mem)(op:BinOp)(t:TypeId)(x:D)(y:Operand):Option dy:=
 match y,op,x with
 | .const (.slice none 0 0),.eql,.sl _ n=>some { pre:=bi P t=true,val:=if n=0 then .ub else .s (.bool false) }
 | .const (.pointer none),.eql,.rp i _=>match m i with
  |some _=>some { pre:=xF P t=true,val:=.s (.bool false),rd:=[i] }
  |none=>none
 | .const (.pointer none),.neq,.rp i _=>match m i with
  |some _=>some { pre:=xF P t=true,val:=.s (.bool true),rd:=[i] }
  |none=>none
 |_,_,_=>none
def zP(op:UnOp)(x:Value):Option Value:=
 match op,x with
 | .neg,.int k n=>some (.int k (k.wrap (0 - n)))
 | .xor,.int k n=>some (.int k (mj .xor k (if k.signed then -1 else k.max) n))
 | .not,.bool b=>some (.bool !b)
 |_,_=>none
def D.fi :D->Option Bool
 | .s (.bool b)=>some b
 |_=>none
def D.int? :D->Option Int
 | .s (.int _ n)=>some n
 |_=>none
def hP(place:Nat->Option (Nat×Nat))(cells:List D):List (Nat×D)->Option (List D)
 |[]=>some cells
 |(i,d)::rest=>
  match place i with
  |none=>none
  |some (off,size)=>if d.cells.length=size/\off+size<=cells.length/\d.cells.all D.one=true then hP place (gW cells off d.cells) rest else none
def dB(n:Nat)(z:List D):List D:=(List.replicate n z).flatten
def ot(P:Program)(m:Mem)(t:TypeId):D->Option dy
 | .sl _ n=>some { pre:=bi P t=true,val:=.s (.int .i64 n) }
 | .rs i _ n=>match m i with
  |some _=>some { pre:=bi P t=true,val:=.s (.int .i64 n),rd:=[i] }
  |none=>none
 | .z=>some { pre:=bi P t=true,val:=.s (.int .i64 0) }
 | .s (.string b)=>some { pre:=fW P t=true,val:=.s (.int .i64 b.size) }
 | .agg _=>some { pre:=oI P t=true,val:=.s (.int .i64 (pi P t)) }
 |_=>none
def jP(m:Mem)(sz:Nat):D->Option (Prop×List Nat×Nat×List D)
 | .sl es n=>some (n*sz<=es.length,[],n,es.take (n*sz))
 | .z=>some (True,[],0,[])
 | .rs i off n=>match m i with
  |some (.cells cs _)=>some (off+n*sz<=cs.length,[i],n,(cs.drop off).take (n*sz))
  |_=>none
 |_=>none
def rN(P:Program)(m:Mem)(nx:Nat)(t:TypeId)(s x:D):Option dy:=
 let e:=aF P t
 let sz:=P.cellsOf e
 match jP m sz x with
 |none=>none
 |some (p,rd,k,news)=>
  match s with
  | .z=>some { pre:=bi P t=true/\p/\0<sz/\k<=maxLen/\k*P.bytesOf e<=140737488355328,val:=.rs nx 0 k,aU:=[(nx,some (.cells news e))],rd:=rd,new:=1 }
  | .rs i off n=>match m i with
   |some (.cells cs e')=>some { pre:=bi P t=true/\e'=e/\p/\0<sz/\off+n*sz=cs.length/\n+k<=maxLen/\(n+k)*P.bytesOf e<=140737488355328/\i∉rd,val:=.rs nx 0 (n+k),aU:=[(i,none),(nx,some (.cells (cs.drop off++news) e))],rd:=i::rd,new:=1 }
   |_=>none
  |_=>none
def lx:Value->Value->Bool
 | .agg a,.agg b=>gn a.toList b.toList
 |a,b=>pY a b
def By:List D->Option (List Value)
 |[]=>some []
 | .s v::ds=>(By ds).map (v::·)
 |_=>none
def qO:D->Option Value
 | .s v=>some v
 | .agg cs=>(By cs).map fun vs=>.agg vs.toArray
 |_=>none
def cT(k:Value):List (Value×D)->Option (Nat×D)
 |[]=>none
 |(k',d)::es=>if lx k' k then some (0,d) else(cT k es).map fun x=>(x.1+1,x.2)
def gp(k:Value)(d:D)(es:List (Value×D)):List (Value×D):=match cT k es with
 |some (i,_)=>es.set i (k,d)
 |none=>es++[(k,d)]
def tI(k:Value)(es:List (Value×D)):List (Value×D):=match cT k es with
 |some (i,_)=>es.eraseIdx i
 |none=>es
def eL(P:Program)(t:TypeId):TypeId:=match P.underlying t with
 |some (.map k _)=>k
 |_=>0
def lW(P:Program)(t:TypeId):TypeId:=match P.underlying t with
 |some (.map _ e)=>e
 |_=>0
def cL(P:Program)(kt:TypeId)(v:Value):Bool:=match P.underlying kt with
 |some (.int k)=>(match v with | .int k' _=>k'==k|_=>false)
 |some .bool=>(match v with | .bool _=>true|_=>false)
 |some .string=>(match v with | .string _=>true|_=>false)
 |some (.array _ _)=>(keyOf P kt v).isSome
 |some (.struct _)=>(keyOf P kt v).isSome
 |_=>false
def Cp(P:Program)(t:TypeId):Bool:=match (P.info? t).bind (·.zero) with
 |some (.agg _)=>bq P t
 |some _=> !bq P t
 |none=>false
def fT(P:Program)(t:TypeId):Bool:=match P.underlying t with
 |some (.map kt et)=>(aI P et&&Cp P et)&&match P.underlying kt with
  |some (.int _)=>true
  |some .bool=>true
  |some .string=>true
  |some (.array _ _)=>P.keyTypeAt 9 kt&&P.tiled 9 kt
  |some (.struct _)=>P.keyTypeAt 9 kt&&P.tiled 9 kt
  |_=>false
 |_=>false
def mB(P:Program)(t:TypeId):D:=if bq P t then .agg (a8 P t) else(a8 P t).headD .u
def fH(P:Program)(t:TypeId)(ok:Bool):Option (Nat×D)->D
 |some (_,d)=>if ok then .aM [d,.s (.bool true)] else d
 |none=>if ok then .aM [mB P (lW P t),.s (.bool false)] else mB P (lW P t)
def oZ(P:Program)(m:Mem)(t:TypeId)(x k:D)(ok:Bool):Option dy:=match qO k,x with
 |some key,.mp i=>match m i with
  |some (.map es)=>some { pre:=fT P t=true/\cL P (eL P t) key=true/\es.all (fun e=>cL P (eL P t) e.1)=true,val:=fH P t ok (cT key es),rd:=[i] }
  |_=>none
 |some key,.im es=>some { pre:=fT P t=true/\cL P (eL P t) key=true/\es.all (fun e=>cL P (eL P t) e.1)=true,val:=fH P t ok (cT key es) }
 |some key,.s (.map none)=>some { pre:=fT P t=true/\cL P (eL P t) key=true,val:=fH P t ok none }
 |_,_=>none
def nS(P:Program)(m:Mem)(t:TypeId)(x k v:D):Option dy:=match qO k,x with
 |some key,.mp i=>match m i with
  |some (.map es)=>some { pre:=fT P t=true/\cL P (eL P t) key=true/\es.all (fun e=>cL P (eL P t) e.1)=true,val:=.aM [],aU:=[(i,some (.map (gp key v es)))],rd:=[i] }
  |_=>none
 |_,_=>none
def s4(P:Program)(m:Mem)(t:TypeId)(x k:D):Option dy:=match qO k,x with
 |some key,.mp i=>match m i with
  |some (.map es)=>some { pre:=fT P t=true/\cL P (eL P t) key=true/\es.all (fun e=>cL P (eL P t) e.1)=true,val:=.aM [],aU:=[(i,some (.map (tI key es)))],rd:=[i] }
  |_=>none
 |_,_=>none
def fL(P:Program)(m:Mem)(nx:Nat)(b:Builtin)(ts:Array TypeId)(args:List D):Option dy:=
 match b,args with
 | .len,[x]=>ot P m (ts.getD 0 0) x
 | .append,[s,x]=>if ts.getD 0 0=ts.getD 1 0 then rN P m nx (ts.getD 0 0) s x else none
 | .min,[.s (.int k a),.s (.int k' b)]=>some { pre:=k=k',val:=.s (.int k (if b<a then b else a)) }
 | .clear,[.rs i off n]=>match m i with
  |some (.cells cs e)=>some { pre:=bi P (ts.getD 0 0)=true/\off+n*P.cellsOf e<=cs.length/\e=aF P (ts.getD 0 0),val:=.aM [],aU:=[(i,some (.cells (gW cs off (dB n (a8 P e))) e))],rd:=[i] }
  |_=>none
 | .delete,[x,k]=>s4 P m (ts.getD 0 0) x k
 |_,_=>none
def ed(d:Option D)(C:Int):Option Int:=match d with
 |none=>some C
 |some d=>d.int?
def nd(P:Program)(m:Mem)(t:TypeId)(x:D)(lo hi C:Option D):Option dy:=
 match x with
 | .sl es n=>match ed lo 0,ed hi n,C with
  |some l,some h,none=>some { pre:=bi P t=true/\0<=l/\l<=h/\h<=n,val:=.sl ((es.drop (l.toNat*P.cellsOf (aF P t))).take ((h - l).toNat*P.cellsOf (aF P t))) (h - l).toNat }
  |some l,some h,some d=>match d.int? with
   |some k=>some { pre:=bi P t=true/\hi.isSome=true/\0<=l/\l<=h/\h<=k/\k<=n,val:=.sl ((es.drop (l.toNat*P.cellsOf (aF P t))).take ((h - l).toNat*P.cellsOf (aF P t))) (h - l).toNat }
   |none=>none
  |_,_,_=>none
 | .rs i off n=>match m i with
  |some (.cells _ e)=>match ed lo 0,ed hi n,C with
   |some l,some h,none=>some { pre:=(bi P t=true/\P.cellsOf e=P.cellsOf (aF P t))/\0<=l/\l<=h/\h<=n,val:=.rs i (off+l.toNat*P.cellsOf (aF P t)) (h - l).toNat,rd:=[i] }
   |_,_,_=>none
  |_=>none
 | .s (.string b)=>match ed lo 0,ed hi b.size,C with
  |some l,some h,none=>some { pre:=fW P t=true/\0<=l/\l<=h/\h<=b.size,val:=.s (.string (b.extract l.toNat h.toNat)) }
  |_,_,_=>none
 |_=>none
def bd(P:Program)(o:Op)(ρ:Operand->D)(m:Mem)(nx:Nat):Option dy:=
 match o with
 | .move x=>some { pre:=True,val:=ρ x }
 | .assign x=>some { pre:=True,val:=ρ x }
 | .pick c a b=>match (ρ c).core.fi with
  |some t=>some { pre:=(t=true->(ρ a).ask/\(ρ a).core.fi.isSome=true)/\(t=false->(ρ b).ask/\(ρ b).core.fi.isSome=true),val:=.s (.bool (if t then(ρ a).core.fi.getD false else(ρ b).core.fi.getD false)) }
  |none=>none
 | .alloc t=>some { pre:=aI P t=true,val:=.rp nx 0,aU:=[(nx,some (.cells (a8 P t) t))],new:=1 }
 | .box t x=>some { pre:=(ρ x).cells.all D.one=true,val:=.rp nx 0,aU:=[(nx,some (.cells (ρ x).cells t))],new:=1 }
 | .build t ps=>match P.underlying t with
  |some (.struct fs)=>(hP (fun i=>(fs[i]?).map fun f=>(f.offset,P.cellsOf f.type)) (a8 P t) (ps.toList.map fun q=>(q.1,ρ q.2))).map fun cs=>{ pre:=aI P t=true/\fs.toList.all (fun f=>(P.info? f.type).isSome)=true,val:=.agg cs }
  |some (.array _ e)=>(hP (fun i=>some (i*P.cellsOf e,P.cellsOf e)) (a8 P t) (ps.toList.map fun q=>(q.1,ρ q.2))).map fun cs=>{ pre:=aI P t=true/\aI P e=true,val:=.agg cs }
  |_=>none
 | .buildSlice t n ps=>(hP (fun i=>some (i*P.cellsOf (aF P t),P.cellsOf (aF P t))) (dB n (a8 P (aF P t))) (ps.toList.map fun q=>(q.1,ρ q.2))).map fun cs=>
   { pre:=cs.all D.one=true/\n*P.cellsOf (aF P t)<=2 ^ 24/\bi P t=true/\n<=maxLen,val:=.rs nx 0 n,aU:=[(nx,some (.cells cs (aF P t)))],new:=1 }
 | .load t a=>match ρ a with
  | .pt cs=>some { pre:=aI P t=true/\P.cellsOf t<=cs.length,val:=hD P t cs }
  | .rp i off=>match m i with
   |some (.cells cs _)=>some { pre:=aI P t=true/\off+P.cellsOf t<=cs.length,val:=hD P t (cs.drop off),rd:=[i] }
   |_=>none
  |_=>none
 | .store t a x=>match ρ a with
  | .rp i off=>match m i with
   |some (.cells cs e)=>some { pre:=aI P t=true/\(ρ x).cells.length=P.cellsOf t/\off+P.cellsOf t<=cs.length/\(ρ x).cells.all D.one=true,val:=.aM [],aU:=[(i,some (.cells (gW cs off (ρ x).cells) e))],rd:=[i] }
   |_=>none
  |_=>none
 | .nilCheck x=>match ρ x with
  | .pt cs=>some { pre:=True,val:=.pt cs }
  | .rp i off=>match m i with
   |some _=>some { pre:=True,val:=.rp i off,rd:=[i] }
   |none=>none
  |_=>none
 | .binOp op t x y _=>match ns P m op t (ρ x) y with
  |some e=>some e
  |none=>(vw P op t (ρ x) (ρ y)).map fun r=>{ pre:=r.1,val:=r.2 }
 | .unOp op _ x=>match ρ x with
  | .s v=>(zP op v).map fun r=>{ pre:=True,val:=.s r }
  |_=>none
 | .convert src dst x=>match P.underlying dst,ρ x with
  |some (.int k),.s (.int _ n)=>some { pre:=aI P src=true,val:=.s (.int k (k.wrap n)) }
  |some (.slice e),.s (.string b)=>match P.underlying e with
   |some (.int .u8)=>some { pre:=fW P src=true/\b.size<=maxLen,val:=.sl (b.data.toList.map fun c=>.s (.int .u8 c.toNat)) b.size }
   |_=>none
  |_,_=>none
 | .makeFunc f fs cs=>some { pre:=True,val:=.fn f (fs.toList.map ρ) (cs.toList.map ρ) }
 | .makeMap _ r=>match r with
  |none=>some { pre:=True,val:=.mp nx,aU:=[(nx,some (.map []))],new:=1 }
  |some _=>none
 | .makeSlice t l c=>match ρ l,ρ c with
  | .s (.int .i64 n),.s (.int .i64 k)=>some { pre:=0<=n/\n=k/\n<=9223372036854775807/\P.bytesOf (aF P t)*n<=281474976710656/\bi P t=true,val:=.rs nx 0 n.toNat,aU:=[(nx,some (.cells (dB n.toNat (a8 P (aF P t))) (aF P t)))],new:=1 }
  |_,_=>none
 | .lookup t x k ok=>oZ P m t (ρ x) (ρ k) ok
 | .mapUpdate t x k v=>nS P m t (ρ x) (ρ k) (ρ v)
 | .insert t x k v=>nS P m t (ρ x) (ρ k) (ρ v)
 | .slice t x lo hi C=>nd P m t (ρ x) (lo.map ρ) (hi.map ρ) (C.map ρ)
 | .fieldAddr t x k=>match cr P t k,ρ x with
  |some (off,ft),.pt cs=>some { pre:=0<P.cellsOf ft,val:=.pt (cs.drop off) }
  |some (off,ft),.rp i o=>match m i with
   |some _=>some { pre:=0<P.cellsOf ft,val:=.rp i (o+off),rd:=[i] }
   |none=>none
  |_,_=>none
 | .field t x k=>match cr P t k,ρ x with
  |some (off,ft),.agg cs=>some { pre:=aI P ft=true/\off+P.cellsOf ft<=cs.length,val:=hD P ft (cs.drop off) }
  |_,_=>none
 | .indexAddr t x i=>match ρ x,ρ i with
  | .sl es n,.s (.int _ k)=>some { pre:=bi P t=true/\0<=k/\k<n/\(k.toNat+1)*P.cellsOf (aF P t)<=es.length,val:=.pt (es.drop (k.toNat*P.cellsOf (aF P t))) }
  | .rs j off n,.s (.int _ k)=>match m j with
   |some _=>some { pre:=bi P t=true/\0<=k/\k<n,val:=.rp j (off+k.toNat*P.cellsOf (aF P t)),rd:=[j] }
   |none=>none
  | .rp j off,.s (.int _ k)=>match m j with
   |some _=>some { pre:=oI P t=true/\0<=k/\k<pi P t,val:=.rp j (off+k.toNat*P.cellsOf (aF P t)),rd:=[j] }
   |none=>none
  |_,_=>none
 | .index t x i=>match ρ x,ρ i with
  | .s (.string b),.s (.int _ k)=>some { pre:=fW P t=true/\0<=k/\k<b.size,val:=.s (.int .u8 (b.data.toList.getD k.toNat 0).toNat) }
  | .agg cs,.s (.int _ k)=>some { pre:=oI P t=true/\0<=k/\k<pi P t/\(k.toNat+1)*P.cellsOf (aF P t)<=cs.length,val:=hD P (aF P t) (cs.drop (k.toNat*P.cellsOf (aF P t))) }
  |_,_=>none
 | .extract x k=>match ρ x with
  | .aM cs=>some { pre:=k<cs.length,val:=cs.getD k .u }
  |_=>none
 | .call c=>match c.callee with
  | .builtin b=>if c.argTypes.size=c.args.size then fL P m nx b c.argTypes (c.args.toList.map ρ) else none
  |_=>none
 |_=>none
def Ip(t:TypeId):Bool:=([183,213]:List Nat).contains t
def mkStr(l:List Int):ByteArray:=⟨(l.map fun n=>UInt8.ofNat n.toNat).toArray⟩
def mw(l:List Int):List D:=l.map fun n=>.s (.int .u8 n)
def fB(b:ByteArray):List D:=b.data.toList.map fun c=>.s (.int .u8 c.toNat)
def ra(P:Program)(t:TypeId):Prop:=bi P t=true/\P.underlying (aF P t)=some (.int .u8)/\P.cellsOf (aF P t)=1
inductive dd(P:Program)(ρ:Operand->D)(m:Mem)(nx:Nat):Op->dy->Prop
 |add (t p:TypeId) (x y:Operand) (a b:ByteArray) (hx:ρ x=.s (.string a)) (hy:ρ y=.s (.string b)) (h:a.size+b.size<=maxLen):dd P ρ m nx (.binOp .add t x y p) { pre:=True,val:=.s (.string (a++b)) }
 |Ee (src dst:TypeId) (x:Operand) (l:List Int) (hx:ρ x=.sl (mw l) l.length) (hs:ra P src) (hd:fW P dst=true):dd P ρ m nx (.convert src dst x) { pre:=True,val:=.s (.string (mkStr l)) }
 |Eg (src dst:TypeId) (x:Operand) (l:List Int) (i off:Nat) (cs:List D) (e:TypeId) (hx:ρ x=.rs i off l.length) (hi:m i=some (.cells cs e)) (hl:(cs.drop off).take l.length=mw l) (hs:ra P src) (hd:fW P dst=true):
  dd P ρ m nx (.convert src dst x) { pre:=True,val:=.s (.string (mkStr l)),rd:=[i] }
 |rune (src dst:TypeId) (x:Operand) (k k':IntKind) (n:Int) (hx:ρ x=.s (.int k n)) (hs:P.underlying src=some (.int k')) (hd:fW P dst=true) (h0:0<=n) (h1:n<128):dd P ρ m nx (.convert src dst x) { pre:=True,val:=.s (.string (mkStr [n])) }
 |cut (t:TypeId) (x h c:Operand) (es:List D) (n:Nat) (k:IntKind) (k':IntKind) (hx:ρ x=.sl es n) (hh:ρ h=.s (.int k n)) (hc:ρ c=.s (.int k' n)) (ht:bi P t=true) (hn:n*P.cellsOf (aF P t)=es.length):
  dd P ρ m nx (.slice t x none (some h) (some c)) { pre:=True,val:=.sc es n }
 |y6 (c:Call) (s x:Operand) (t:TypeId) (es news:List D) (n k:Nat) (p:Prop) (rd:List Nat) (hc:c={ callee:=.builtin .append,args:= #[s,x],argTypes:= #[t,t] }) (hs:ρ s=.sc es n) (hx:jP m (P.cellsOf (aF P t)) (ρ x)=some (p,rd,k,news)) (hp:p)
  (ht:bi P t=true) (hn:n*P.cellsOf (aF P t)=es.length) (hk:0<k) (hz:0<P.cellsOf (aF P t)) (hm:n+k<=maxLen) (hb:(n+k)*P.bytesOf (aF P t)<=140737488355328):
  dd P ρ m nx (.call c) { pre:=True,val:=.rs nx 0 (n+k),aU:=[(nx,some (.cells (es++news) (aF P t)))],rd:=rd,new:=1 }
 |yw (c:Call) (s x:Operand) (t u:TypeId) (b:ByteArray) (hc:c={ callee:=.builtin .append,args:= #[s,x],argTypes:= #[t,u] }) (hs:ρ s=.z) (hx:ρ x=.s (.string b)) (ht:ra P t) (hu:fW P u=true) (hm:b.size<=maxLen) (hb:b.size*P.bytesOf (aF P t)<=140737488355328):
  dd P ρ m nx (.call c) { pre:=True,val:=.rs nx 0 b.size,aU:=[(nx,some (.cells (fB b) (aF P t)))],new:=1 }
 |yI (c:Call) (s x:Operand) (t u:TypeId) (b:ByteArray) (i off n:Nat) (cs:List D) (hc:c={ callee:=.builtin .append,args:= #[s,x],argTypes:= #[t,u] }) (hs:ρ s=.rs i off n) (hx:ρ x=.s (.string b)) (hi:m i=some (.cells cs (aF P t))) (ht:ra P t) (hu:fW P u=true)
  (hf:off+n=cs.length) (hm:n+b.size<=maxLen) (hb:(n+b.size)*P.bytesOf (aF P t)<=140737488355328):
  dd P ρ m nx (.call c) { pre:=True,val:=.rs nx 0 (n+b.size),aU:=[(i,none),(nx,some (.cells (cs.drop off++fB b) (aF P t)))],rd:=[i],new:=1 }
 |mL (c:Call) (x:Operand) (t:TypeId) (i:Nat) (es:List (Value×D)) (hc:c={ callee:=.builtin .len,args:= #[x],argTypes:= #[t] }) (hx:ρ x=.mp i) (hi:m i=some (.map es)) (ht:fT P t=true):dd P ρ m nx (.call c) { pre:=True,val:=.s (.int .i64 es.length),rd:=[i] }
 |y7 (c:Call) (s:Operand) (t:TypeId) (i off n:Nat) (r:Row) (hc:c={ callee:=.builtin .unsafeSliceData,args:= #[s],argTypes:= #[t] }) (hs:ρ s=.rs i off n) (hi:m i=some r) (hn:0<n):dd P ρ m nx (.call c) { pre:=True,val:=.rp i off,rd:=[i] }
 |zs (c:Call) (p n:Operand) (t u e:TypeId) (l:List Int) (i off:Nat) (cs:List D) (k:IntKind) (hc:c={ callee:=.builtin .unsafeString,args:= #[p,n],argTypes:= #[t,u] }) (hp:ρ p=.rp i off) (hn:ρ n=.s (.int k l.length)) (hi:m i=some (.cells cs e)) (hl:(cs.drop off).take l.length=mw l) (h0:l≠[])
  (ht:P.underlying t=some (.pointer e)) (he:P.cellsOf e=1) (hm:l.length<=maxLen) (hr:∀ x∈l,0<=x/\x<256):dd P ρ m nx (.call c) { pre:=True,val:=.s (.string (mkStr l)),aU:=[(i,none)],rd:=[i] }
 |Bi (t:TypeId) (hb:Ip t=true) (ht:aI P t=true) (hz:a8 P t=[.s (.pointer none),.z]):dd P ρ m nx (.alloc t) { pre:=True,val:=.rp nx 0,aU:=[(nx,some (.bs false .z t))],new:=1 }
 |BV (t:TypeId) (x:Operand) (d:D) (hb:Ip t=true) (hx:(ρ x).cells=[.s (.pointer none),d]) (hd:d.one=true) (hs:P.cellsOf t=2):dd P ρ m nx (.box t x) { pre:=True,val:=.rp nx 0,aU:=[(nx,some (.bs false d t))],new:=1 }
 |Bz (t:TypeId) (a:Operand) (i:Nat) (u:Bool) (x:D) (T:TypeId) (ha:ρ a=.rp i 1) (hi:m i=some (.bs u x T)) (ht:aI P t=true) (hg:bq P t=false):dd P ρ m nx (.load t a) { pre:=True,val:=x,rd:=[i] }
 |yJ (t:TypeId) (a y:Operand) (i:Nat) (u:Bool) (x:D) (T:TypeId) (ha:ρ a=.rp i 1) (hi:m i=some (.bs u x T)) (ht:aI P t=true) (hg:bq P t=false) (hy:(ρ y).one=true):dd P ρ m nx (.store t a y) { pre:=True,val:=.aM [],aU:=[(i,some (.bs u (ρ y) T))],rd:=[i] }
def dJ(ρ:Operand->D):Op->Option (FuncId×List D)
 | .call c=>match c.callee with
  | .value f=>match ρ f with
   | .fn (.func k) fs cs=>some (k,fs++c.args.toList.map ρ++cs)
   |_=>none
  |_=>none
 |_=>none
def Rs(F:Nat->Prop)(β:aE)(w:World)(ds:List D)(vs:Array Value):Prop:=
 vs.size=ds.length/\∀ (k:Nat) (d:D) (v:Value),ds[k]? =some d->vs[k]? =some v->R F β w d v
def gU:aE:=fun _=>none
def owned(F:Nat->Prop)(β:aE):Nat->Prop:=fun b=>F b\/¬ β.free b
def Tr(d:D):Prop:=∀ F β w v,R F β w d v->R (owned F β) gU w d v
def D.gK:D->Bool
 | .s _=>true
 | .ub=>true
 | .aM [.s _,.s _]=>true
 | .aM [.s _]=>true
 | .aM []=>true
 |_=>false
def Kept(w w':World):Prop:=w.heap.size<=w'.heap.size/\(∀ b,b<w.heap.size->w'.heap[b]? =w.heap[b]?)/\Out w w'
def oY(P:Program)(f:FuncId):Bool:=match P.funcs[f]? with
 |some fn=> !(fn.name=="runtime.NumGoroutine")&&fn.body.isSome
 |none=>false
def aB(P:Program)(f:FuncId)(args:List D)(r:D):Prop:=
 oY P f=true/\(∀ a∈args,Tr a)/\∀ F w vs,FB F w->Rs F gU w args vs->
  Calls P f vs w fun e w'=>∃ v,e=.returned v/\R F gU w' r v/\Kept w w'
def kW(P:Program)(f:FuncId)(args:List D)(es:List D)(n:Nat)(t:TypeId):Prop:=
 oY P f=true/\(∀ a∈args,Tr a)/\∀ F w vs,FB F w->Rs F gU w args vs->
  Calls P f vs w fun e w'=>∃ v p,e=.returned v/\p≠ .dead/\(∀ b,p.bF=some b->w.heap.size<=b/\b<w'.heap.size)/\
   cC P (fun x=>F x\/p.bF=some x) gU w' (.cells es t) p/\R F (up gU 0 (some p)) w' (.rs 0 0 n) v/\Kept w w'
def fP(P:Program)(f:FuncId)(args:List D)(m:Mem)(nx:Nat)(eg:D->Mem->Nat->Prop):Prop:=
 oY P f=true/\∀ F β w vs,aJ P F m β w->(∀ i,nx<=i->β i=none)->Rs F β w args vs->
  Calls P f vs w fun e w'=>∃ v d m' C β',e=.returned v/\eg d m' C/\aJ P F m' β' w'/\(∀ i,C<=i->β' i=none)/\R F β' w' d v/\Step β w β' w'/\nx<=C/\∀ i,i<nx->β i=none->β' i=none
def nX(P:Program)(F:Nat->Prop)(M:aE)(J:World)(l:Nat)(args:List D)(m:Mem)(nx:Nat)(eg:D->Mem->Nat->Prop):Prop:=
 ∀ β w us,Step M J β w->aJ P F m β w->(∀ i,nx<=i->β i=none)->Rs F β w args us->
  ∃ f tmps assign body,(Instr.yield l us).run P w=.ok (.round l f tmps assign body) w/\∀ n,RoundIn Fence.wide n P l f tmps assign body w fun e w'=>
   ∃ v d m' C β',e=.returned v/\eg d m' C/\aJ P F m' β' w'/\(∀ i,C<=i->β' i=none)/\R F β' w' d v/\Step β w β' w'/\nx<=C/\∀ i,i<nx->β i=none->β' i=none
def tm(I:Mem->Nat->Prop):Prop:=∀ m nx m' C,I m nx->nx<=C->(∀ i,i<nx->m' i=m i)->I m' C
def SJ(I:Nat->Mem->Nat->Prop)(Stop:Mem->Nat->Prop)(k:Nat)(d:D)(m:Mem)(nx:Nat):Prop:=
 (d=.s (.bool true)/\I (k+1) m nx)\/(d=.s (.bool false)/\Stop m nx)
def xe(P:Program)(f:FuncId)(fs cs:List D)(xs:List (List D)):Prop:=
 oY P f=true/\∀ (F:Nat->Prop) (l:Nat) (I:Nat->Mem->Nat->Prop) (Stop:Mem->Nat->Prop) (m:Mem) (nx:Nat) (β:aE) (w:World) (vs:Array Value),(∀ k,tm (I k))->tm Stop->
  aJ P F m β w->(∀ i,nx<=i->β i=none)->Rs F β w (fs++[.fn (.yield l) [] []]++cs) vs->
  (∀ k x m nx,xs[k]? =some x->I k m nx->nX P F β w l x m nx (SJ I Stop k))->I 0 m nx->
  Calls P f vs w fun e w'=>∃ v d m' C β',e=.returned v/\(I xs.length m' C\/Stop m' C)/\aJ P F m' β' w'/\(∀ i,C<=i->β' i=none)/\R F β' w' d v/\Step β w β' w'/\nx<=C/\∀ i,i<nx->β i=none->β' i=none
abbrev ej:=Nat->List D->Mem->Nat->(D->Mem->Nat->Prop)->Prop
def c8:ej:=fun _ _ _ _ _=>False
def lM(ρ:Operand->D):Op->Option (Nat×List D)
 | .call c=>match c.callee with
  | .value f=>match ρ f with
   | .fn (.yield l) [] []=>some (l,c.args.toList.map ρ)
   |_=>none
  |_=>none
 |_=>none
def Sn(P:Program)(rds:List Nat)(m:Mem)(a a':D):Prop:=
 ∀ F β w v,(∀ i∈rds,∀ r,m i=some r->∃ p,β i=some p/\cC P F β w r p/\∀ b,p.bF=some b->¬ F b)->R F β w a v->R F gU w a' v
def jK(P:Program)(rds:List Nat)(m:Mem):List D->List D->Prop
 |[],[]=>True
 |a::aS,b::bs=>Sn P rds m a b/\jK P rds m aS bs
 |_,_=>False
def Gx(r:Row):Prop:=∃ cs e,r=.cells cs e/\∀ d∈cs,d.gK=true
def SK(m:Mem)(rds:List Nat)(aU:List (Nat×Option Row))(args:List D):Prop:=
 (∀ i∈rds,∃ r,m i=some r/\Gx r)/\(∀ x∈aU,x.1∈rds/\∀ r,x.2=some r->Gx r)/\∀ a∈args,Tr a\/∃ i off n,i∈rds/\a=.rs i off n
def only(rds:List Nat)(m:Mem):Mem:=fun i=>if i∈rds then m i else none
def tq(P:Program)(dr:Bool)(st:St)(f:FuncId)(args:List D)(K:D->Mem->Nat->List Nat->List Nat->Prop):Prop:=
 (∃ r,aB P f args r/\K r st.mem st.nx [] [])\/
 (∃ M rds r,jK P rds st.mem args M/\aB P f M r/\r.gK=true/\K r st.mem st.nx rds [])\/
 (∃ es n t,kW P f args es n t/\K (.rs st.nx 0 n) (up st.mem st.nx (some (.cells es t))) (st.nx+1) [] [st.nx])\/
 (dr=false/\fP P f args st.mem st.nx fun r m nx=>K r m nx [] [])\/
 (∃ r aU rds,(∀ J C,(∀ i∈rds,st.mem i≠none->J i=st.mem i)->fP P f args J C fun r' m' U=>r'=r/\m'=cK J aU/\U=C)/\(∀ i∈aU.map (·.1),i∈rds/\st.mem i≠none)/\K r (cK st.mem aU) st.nx rds (aU.map (·.1)))\/
 (∃ es n t aU rds,SK st.mem rds aU args/\(∀ d∈es,d.gK=true)/\(∀ C,fP P f args (only rds st.mem) C fun r' m' _=>∃ q,C<=q/\r'=.rs q 0 n/\m' q=some (.cells es t)/\∀ i∈rds,m' i=cK st.mem aU i)/\
  K (.rs st.nx 0 n) (up (cK st.mem aU) st.nx (some (.cells es t))) (st.nx+1) rds (aU.map (·.1)++[st.nx]))
def asks(env:Env)(o:Op):Prop:=match o with
 | .pick c _ _=>(opd env c).ask
 |o=>∀ x∈o.operands.toList,(opd env x).ask
def a6(env:Env)(o:Op):Operand->D:=match o with
 | .pick _ _ _=>opd env
 |_=>fun x=>(opd env x).core
def kz:D->Bool->Option Bool
 | .s (.bool g),b=>some (g==b)
 | .cB c d,b=>match d with
  | .s (.bool g)=>some (c&&(g==b))
  |_=>bif c then none else some false
 |_,_=>none
abbrev kf:=List (List Nat×List Nat)
def qo(tr:kf)(i j:Nat):Prop:=
 let a:=tr.getD i ([],[])
 let b:=tr.getD j ([],[])
 (∀ x∈a.2,x∉b.1/\x∉b.2)/\∀ x∈b.2,x∉a.1
def ve:D:=.cB false .u
def ju(P:Program)(Y:ej)(ops:Array Oper)(dr:Bool)(o:Oper)(st:St)(K:St->List Nat->List Nat->Prop):Prop:=
 match o.guard with
  |none=>asks st.env o.op/\match dJ (a6 st.env o.op) o.op with
   |some (f,args)=>tq P dr st f args fun r m nx rd wr=>K (St.put ⟨st.env,m,nx⟩ o.dst r) rd wr
   |none=>match lM (a6 st.env o.op) o.op with
    |some (l,args)=>dr=false/\Y l args st.mem st.nx fun r m nx=>K (St.put ⟨st.env,m,nx⟩ o.dst r) [] []
    |none=>match bd P o.op (a6 st.env o.op) st.mem st.nx with
     |some e=>e.pre/\K (St.put ⟨st.env,cK st.mem e.aU,st.nx+e.new⟩ o.dst e.val) e.rd (e.aU.map (·.1))
     |none=>False
  |some (j,b)=>match ((ops[j]?).bind (·.dst)).bind fun t=>kz (st.env t) b with
   |none=>False
   |some c=>match dJ (a6 st.env o.op) o.op with
    |some (f,args)=>
     (∃ r,(c=true->asks st.env o.op/\aB P f args r)/\K (st.put o.dst (.cB c r)) [] [])\/
     ((c=true->asks st.env o.op/\tq P dr st f args fun r m nx rd wr=>K (St.put ⟨st.env,m,nx⟩ o.dst r) rd wr)/\
      (c=false->K (st.put o.dst ve) [] []))
    |none=>match lM (a6 st.env o.op) o.op with
     |some (l,args)=>(c=true->asks st.env o.op/\dr=false/\Y l args st.mem st.nx fun r m nx=>K (St.put ⟨st.env,m,nx⟩ o.dst r) [] [])/\(c=false->K (st.put o.dst ve) [] [])
     |none=>match bd P o.op (a6 st.env o.op) st.mem st.nx with
      |some e=>if e.aU.isEmpty&&e.new==0 then(c=true->asks st.env o.op/\e.pre)/\K (st.put o.dst (.cB c e.val)) e.rd []
       else(c=true->asks st.env o.op/\e.pre/\K (St.put ⟨st.env,cK st.mem e.aU,st.nx+e.new⟩ o.dst e.val) e.rd (e.aU.map (·.1)))/\
        (c=false->K (st.put o.dst ve) [] [])
      |none=>c=false/\K (st.put o.dst ve) [] []
def Vs(P:Program)(o:Oper)(st:St)(K:St->List Nat->List Nat->Prop):Prop:=
 o.guard=none/\asks st.env o.op/\∃ e,dd P (a6 st.env o.op) st.mem st.nx o.op e/\K (St.put ⟨st.env,cK st.mem e.aU,st.nx+e.new⟩ o.dst e.val) e.rd (e.aU.map (·.1))
def aq(P:Program)(Y:ej)(ops:Array Oper)(dr:Bool)(cf:List (Nat×Nat))(Q:Exit->St->Prop):List Oper->St->kf->Prop
 |[],st,tr=>(∀ q∈cf,qo tr q.1 q.2)/\Q .normal st
 |o::rest,st,tr=>ju P Y ops dr o st (fun st' rd wr=>aq P Y ops dr cf Q rest st' (tr++[(rd,wr)]))\/Vs P o st fun st' rd wr=>aq P Y ops dr cf Q rest st' (tr++[(rd,wr)])
def c7:Op->Nat
 | .call { callee:=.builtin .len,.. }=>1
 | .call { callee:=.builtin .min,.. }=>0
 | .store .. | .mapUpdate .. | .insert .. | .call _=>2
 | .load .. | .lookup .. | .fieldAddr .. | .indexAddr .. | .slice .. | .nilCheck _ | .convert .. =>1
 | .alloc _ | .box .. | .buildSlice .. | .makeSlice .. | .makeMap .. =>3
 | .binOp .eql .. | .binOp .neq .. =>1
 | .move _ | .assign _ | .pick .. | .build .. | .binOp .. | .unOp .. | .makeFunc .. | .field .. | .index .. | .extract .. =>0
 |_=>2
def BA(acc:List Nat)(o:Oper):Nat:=o.after.toList.foldl (fun s e=>if Region.binds .any e then s||| 2 ^ e.on||| acc.getD e.on 0 else s) 0
def ja:List Oper->List Nat->List Nat
 |[],acc=>acc
 |o::r,acc=>ja r (acc++[BA acc o])
def unordered(bs:List Nat)(n:Nat):List (Nat×Nat):=
 (List.range n).flatMap fun j=>((List.range j).filter fun i=> !(bs.getD j 0).testBit i).map fun i=>(i,j)
def J6(ops:Array Oper)(i j:Nat):Bool:=match ops[i]?,ops[j]? with
 |some x,some y=>x.apart ops y
 |_,_=>true
def Gy(ops:Array Oper)(i j:Nat):Bool:=match ops[i]?,ops[j]? with
 |some x,some y=>(c7 y.op==1||c7 y.op==2)&&c7 x.op !=0&& !(c7 x.op==1&&c7 y.op==1)
 |_,_=>false
def bT(ops:Array Oper):Option (List (Nat×Nat)):=
 let u:=unordered (ja ops.toList []) ops.size
 if(ops.toList.zipIdx.all fun(o,i)=>o.after.toList.all fun e=> !Region.binds .any e||Nat.blt e.on i)&&u.all fun q=>J6 ops q.1 q.2 then
  some (u.filter fun q=>Gy ops q.1 q.2)
 else none
def Eh(ops:Array Oper):Bool:=Nat.blt 0 ops.size&&(List.range (ops.size - 1)).all fun i=>((ja ops.toList []).getD (ops.size - 1) 0).testBit i
def fU(K:St->Prop)(Q:Exit->St->Prop):Exit->St->Prop
 | .normal,st=>K st
 |e,st=>Q e st
def fE(id:Nat)(Q:Exit->St->Prop):Exit->St->Prop
 | .exit i,st=>if i=id then Q .normal st else Q (.exit i) st
 |e,st=>Q e st
def DV(Q:Exit->St->Prop):Exit->St->Prop
 | .goto _,_=>False
 |e,st=>Q e st
def cM(i:Nat)(cs:List D)(sz:Nat):D->D
 | .rs j off n=>if j=i then .sl ((cs.drop off).take (n*sz)) n else .rs j off n
 | .rp j off=>if j=i then .pt (cs.drop off) else .rp j off
 |d=>d
def zG(i:Nat)(es:List (Value×D)):D->D
 | .mp j=>if j=i then .im es else .mp j
 |d=>d
def pW(σ:D->D):D->D
 | .agg ds=>.agg (ds.map σ)
 | .cB c d=>.cB c (σ d)
 |d=>σ d
def sub(σ:D->D):D->D
 | .aM ds=>.aM (ds.map (pW σ))
 | .fn f fs ds=>.fn f (fs.map (pW σ)) (ds.map (pW σ))
 |d=>pW σ d
def Row.sub(σ:D->D):Row->Row
 | .cells ds e=>.cells (ds.map (Abs.sub σ)) e
 | .map es=>.map (es.map fun x=>(x.1,Abs.sub σ x.2))
 | .bs u x T=>.bs u (Abs.sub σ x) T
 |r=>r
def Wk(d d':D):Prop:=∀ F β w v,R F β w d v->R F β w d' v
inductive aH(P:Program):St->St->Prop
 |refl (st:St):aH P st st
 |trans {a b c:St} (h:aH P a b) (k:aH P b c):aH P a c
 |forget (env env':Env) (m:Mem) (nx:Nat) (h:∀ t,env' t=env t\/env' t=.u):aH P ⟨env,m,nx⟩ ⟨env',m,nx⟩
 |drop (env:Env) (m m':Mem) (nx:Nat) (h:∀ i,m' i=m i\/m' i=none):aH P ⟨env,m,nx⟩ ⟨env,m',nx⟩
 |freeze (env:Env) (m:Mem) (nx i:Nat) (cs:List D) (e:TypeId) (h:m i=some (.cells cs e)):
  aH P ⟨env,m,nx⟩ ⟨fun t=>sub (cM i cs (P.cellsOf e)) (env t),fun j=>if j=i then none else(m j).map (Row.sub (cM i cs (P.cellsOf e))),nx⟩
 |DC (env:Env) (m:Mem) (nx i:Nat) (es:List (Value×D)) (h:m i=some (.map es)):
  aH P ⟨env,m,nx⟩ ⟨fun t=>sub (zG i es) (env t),fun j=>if j=i then none else(m j).map (Row.sub (zG i es)),nx⟩
 |rW (env:Env) (m:Mem) (nx t:Nat) (e:TypeId) (h:env t=.z):aH P ⟨env,m,nx⟩ ⟨up env t (.rs nx 0 0),up m nx (some (.cells [] e)),nx+1⟩
 |og (env env':Env) (m m':Mem) (nx:Nat) (h:∀ t,Wk (env t) (env' t)) (hm:∀ i,m' i=m i\/∃ cs cs' e,m i=some (.cells cs e)/\m' i=some (.cells cs' e)/\cs'.length=cs.length/\∀ (k:Nat) (d d':D),cs[k]? =some d->cs'[k]? =some d'->Wk d d'):
  aH P ⟨env,m,nx⟩ ⟨env',m',nx⟩
def nT(env:Env):List Tmp->List D->Env
 |t::ts,d::ds=>nT (up env t d) ts ds
 |_,_=>env
def DE(K:St->Prop):Exit->St->Prop
 | .normal,st=>K st
 |_,_=>False
def yK(env:Env)(I':Mem->Nat->Prop)(Q:Exit->St->Prop):Exit->St->Prop
 | .normal,st=>I' st.mem st.nx
 | .ret,st=>Q .ret ⟨env,st.mem,st.nx⟩
 | .exit id,st=>Q (.exit id) ⟨env,st.mem,st.nx⟩
 |_,_=>False
def afO(P:Program)(ops:Array Oper)(Q:Exit->St->Prop):Exit->St->Prop:=fun e st=>e=.normal/\aq P c8 ops false [] Q (ops.toList.drop (ops.size - 1)) st []
def DW(P:Program)(Y:ej)(ops:Array Oper)(cf:List (Nat×Nat))(Q:Exit->St->Prop)(st:St):Prop:=
 aq P Y ops true cf Q ops.toList st []\/(Eh ops=true/\aq P c8 ops true cf (afO P ops Q) (ops.toList.take (ops.size - 1)) st [])
def AW(P:Program)(Y:ej)(rf:Bool):Code->(Exit->St->Prop)->St->Prop
 | .skip,Q,st=>Q .normal st
 | .region _ ops false,Q,st=>aq P Y ops false [] Q ops.toList st []
 | .region _ ops true,Q,st=>match bT ops with
  |some cf=>DW P Y ops cf Q st
  |none=>False
 | .seq a b,Q,st=>AW P Y rf a (fU (fun st'=>∃ C,aH P st' C/\AW P Y rf b Q C) Q) st
 | .cond c a b,Q,st=>(opd st.env c).ask/\match (opd st.env c).core with
  | .s (.bool t)=>(t=true->AW P Y rf a Q st)/\(t=false->AW P Y rf b Q st)
  | .ub=>AW P Y rf a Q st/\AW P Y rf b Q st
  |_=>False
 | .block id b,Q,st=>AW P Y rf b (fE id Q) st
 | .scope b,Q,st=>AW P Y rf b (DV Q) st
 | .loop b,Q,st=>∃ (I:St->Prop) (μ:St->Nat),I st/\∀ st',I st'->AW P Y rf b (fU (fun C=>∃ J,aH P C J/\I J/\μ J<μ st') Q) st'
 | .rangeFunc g ps assign body,Q,st=>rf=true/\(opd st.env g).ask/\∃ f fs cs xs,∃ I:Nat->Mem->Nat->Prop,(opd st.env g).core=.fn (.func f) fs cs/\xe P f fs cs xs/\(∀ x∈xs,x.length=ps.size/\∀ d∈x,Tr d)/\I 0 st.mem st.nx/\
   (∀ k m nx x,xs[k]? =some x->I k m nx->AW P c8 false assign (DE fun s=>AW P c8 false body (yK st.env (I (k+1)) Q) s) ⟨nT st.env ps.toList x,m,nx⟩)/\
   ∀ m nx,I xs.length m nx->Q .normal ⟨st.env,m,nx⟩
 | .exit id,Q,st=>Q (.exit id) st
 | .label _,Q,st=>Q .normal st
 | .ret,Q,st=>Q .ret st
 |_,_,_=>False
def ou(P:Program)(st:St):ResultVar->Option (Prop×D)
 | .tmp t=>some (True,st.env t)
 | .cell a t=>match st.env a with
  | .rp i off=>match st.mem i with
   |some (.cells cs _)=>some (aI P t=true/\off+P.cellsOf t<=cs.length,hD P t (cs.drop off))
   |_=>none
  | .pt cs=>some (aI P t=true/\P.cellsOf t<=cs.length,hD P t cs)
  |_=>none
def ov(P:Program)(st:St):List ResultVar->List D->(List D->Prop)->Prop
 |[],acc,K=>K acc
 |r::rs,acc,K=>match ou P st r with
  |some (p,d)=>p/\ov P st rs (acc++[d]) K
  |none=>False
def qP:List D->D
 |[d]=>d
 |ds=>.aM ds
def iD(P:Program)(rs:List ResultVar)(K:D->St->Prop):Exit->St->Prop
 | .normal,st=>ov P st rs [] fun ds=>K (qP ds) st
 | .ret,st=>ov P st rs [] fun ds=>K (qP ds) st
 |_,_=>False
def iX(args:List D):Env:=fun t=>args.getD t .u
section inv
variable{F:Nat->Prop}{β:aE}{w:World}{v:Value}
theorem R.c6{x:Value}(h:R F β w (.s x) v):v=x/\plain x=true:=by cases h;exact⟨rfl,‹_›⟩
theorem R.Hq(h:R F β w .ub v):∃ b,v=.bool b:=by cases h;exact⟨_,rfl⟩
theorem R.u6(h:R F β w .z v):∃ a,v=.slice a 0 0:=by cases h;exact⟨_,rfl⟩
theorem R.s3{cs:List D}(h:R F β w (.agg cs) v):∃ vs:List Value,v=.agg vs.toArray/\vs.length=cs.length/\∀ (k:Nat) (d:D) (u:Value),cs[k]? =some d->vs[k]? =some u->R F β w d u:=by
 cases h with|agg _ vs hl h=>exact⟨vs,rfl,hl,h⟩
theorem R.DB{cs:List D}(h:R F β w (.aM cs) v):∃ vs:List Value,v=.tuple vs.toArray/\vs.length=cs.length/\∀ (k:Nat) (d:D) (u:Value),cs[k]? =some d->vs[k]? =some u->R F β w d u:=by
 cases h with|aM _ vs hl h=>exact⟨vs,rfl,hl,h⟩
theorem R.uF(d:D)(h:R F β w d v)(ha:d.ask):R F β w d.core v:=by
 cases h with
 |cB c d v h h'=>exact h ha
 |u v=>exact .u _
 |s v h=>exact .s _ h
 |ub b=>exact .ub _
 |agg cs vs h h'=>exact .agg _ _ h h'
 |aM cs vs h h'=>exact .aM _ _ h h'
 |z a=>exact .z _
 |gy a c=>exact .gy _ _
 |sc es n a h=>exact .sc _ _ _ h
 |sl es n b o cap us h1 h2 C J M U X=>exact .sl _ _ _ _ _ _ h1 h2 C J M U X
 |pt cs b o us h1 h2 C J M=>exact .pt _ _ _ _ h1 h2 C J M
 |lp i off n v h hv=>exact .lp _ _ _ _ h hv
 |jr i a h=>exact .jr _ _ h
 |j9 i off a b o len room sz h=>exact .j9 _ _ _ _ _ _ _ _ h
 |rs i off n cap b o len room sz h h1 h2 C J=>exact .rs _ _ _ _ _ _ _ _ _ h h1 h2 C J
 |qY i off v h hv=>exact .qY _ _ _ h hv
 |rp i off b o len room sz h=>exact .rp _ _ _ _ _ _ _ h
 |zO i v h hv=>exact .zO _ _ h hv
 |mp i r h=>exact .mp _ _ h
 |im es r ms c h1 h2 C J M U X=>exact .im _ _ _ _ h1 h2 C J M U X
 |fn f fs cs us vs h1 h2 C J=>exact .fn _ _ _ _ _ h1 h2 C J
theorem aaC{x:Value}(h:plain x=true):x.oneCell'=true:=by cases x<;>simp_all[plain,Value.oneCell']
theorem R.one{d:D}(h:R F β w d v)(hd:d.one=true):v.oneCell'=true:=by
 cases h<;>first|rfl|assumption|(simp[D.one] at hd;done)|(exact aaC ‹_›)
theorem R.cells{d:D}(h:R F β w d v)(hd:d.cells.all D.one=true):v.cells.size=d.cells.length/\(∀ (k:Nat) (e:D) (u:Value),d.cells[k]? =some e->v.cells[k]? =some u->R F β w e u/\u.oneCell'=true)/\(∀ u∈v.cells.toList,u.oneCell'=true):=by
 have single:d.cells=[d]->v.cells.size=d.cells.length/\(∀ (k:Nat) (e:D) (u:Value),d.cells[k]? =some e->v.cells[k]? =some u->R F β w e u/\u.oneCell'=true)/\(∀ u∈v.cells.toList,u.oneCell'=true):=fun hs=>by
  have h1:d.one=true:=by simpa[hs] using hd
  have h2:=h.one h1;have J:v.cells= #[v]:=by cases v<;>first|rfl|(simp[Value.oneCell'] at h2;done)
  rw[J,hs];refine⟨rfl,fun k e u hk hu=>?_,fun u hu=>?_⟩
  .cases k with
   |zero=>simp at hk hu;subst hk;subst hu;exact⟨h,h2⟩
   |succ k=>simp at hk
  .simp at hu;subst hu;exact h2
 cases d with
 |agg cs=>
  obtain⟨vs,rfl,hl,hr⟩:=h.s3
  have C:∀ (k:Nat) (u:Value),vs[k]? =some u->u.oneCell'=true:=fun k u hu=>by
   have hk:k<cs.length:=by
    have:=(bI.1 hu).1;omega
   have h1:=hr k cs[k] u (by simp[hk]) hu;exact h1.one (bS.1 hd _ (gA hk))
  refine⟨by simpa[Value.cells,D.cells] using hl,fun k e u hk hu=>?_,fun u hu=>?_⟩
  .simp[Value.cells] at hu;exact⟨hr k e u hk hu,C k u hu⟩
  .simp[Value.cells] at hu;obtain⟨k,hk⟩:=dN hu;exact C k u hk
 |_=>exact single rfl
end inv
section opd
variable{F:Nat->Prop}{β:aE}{w:World}
theorem LM(v:Value):R F β w (oi v) v:=by
 unfold oi;split<;>first|exact .u _|exact .s _ rfl|exact .z _
theorem af1(v:Value):R F β w (NU v) v:=by
 unfold NU;split
 .rename_i cs
  have:=R.agg (F:=F) (β:=β) (w:=w) (cs.toList.map oi) cs.toList oS (fun k d u hk hu=>by
   simp only[List.getElem?_map,hu,Option.map_some,aG] at hk;subst hk
   exact LM u)
  simpa using this
 all_goals first|exact .u _|exact .s _ rfl|exact .z _
def ia(F:Nat->Prop)(β:aE)(w:World)(env:Env)(a:Act):Prop:=∀ t,R F β w (env t) (a.tmps.getD t undef)
theorem ia.opd{env:Env}{a:Act}(h:ia F β w env a)(x:Operand):R F β w (opd env x) (a.eval x):=by
 cases x with
 |tmp t=>exact h t
 |const v=>exact af1 v
 |global g=>exact .u _
 |func f=>exact .fn (.func f) [] [] [] [] rfl rfl oS oS
theorem ia.step{β':aE}{w':World}{env:Env}{a:Act}(h:ia F β w env a)(hs:Step β w β' w'):ia F β' w' env a:=fun t=>(h t).step hs
theorem ia.put{env:Env}{a:Act}(h:ia F β w env a)(dst:Option Nat)(d:D)(v:Value)(hr:R F β w d v)(hd:∀ t,dst=some t->t<a.tmps.size):
 ia F β w (match dst with|some t=>up env t d|none=>env) (a.put dst v):=by
 cases dst with
 |none=>exact h
 |some t=>
  intro j;have ht:=hd t rfl;by_cases hj:j=t
  .subst hj;simp only[aj,Act.put];simpa[Array.getD_eq_getD_getElem?,ht] using hr
  .simp only[aA _ _ hj,Act.put];have:=h j;simpa[Array.getD_eq_getD_getElem?,Array.getElem?_setIfInBounds_ne (Ne.symm hj)] using this
end opd
section types
variable{P:Program}(w:World)
theorem rF{t:TypeId}(h:aI P t=true):∃ i d z,P.info? t=some i/\P.underlying t=some d/\i.zero=some z/\(bq P t=false->P.cellsOf t=1)/\z.cells.size=P.cellsOf t/\
 a8 P t=z.cells.toList.map oi/\i.size=P.cellsOf t/\i.bytes=P.bytesOf t/\(∀ u∈z.cells.toList,(oi u).one=true):=by
 unfold aI at h;simp only[aW,Bool.or_eq_true,beq_iff_eq] at h;obtain⟨⟨h1,h2⟩,C⟩:=h;obtain⟨d,hd⟩:=Option.isSome_iff_exists.1 h1;cases hi:P.info? t with
 |none=>simp[hi] at C
 |some i=>
  cases hz:i.zero with
  |none=>simp[hi,hz] at C
  |some z=>
   simp only[hi,hz,Option.bind_some,aW,beq_iff_eq,bS] at C;refine⟨i,d,z,rfl,hd,hz,fun ha=>?_,C.2,?_,?_,?_,C.1⟩
   .rcases h2 with h2|h2
    .rw[h2] at ha;cases ha
    .exact h2
   .simp[a8,hi,hz]
   .simp[Program.cellsOf,hi]
   .simp[Program.bytesOf,hi]
theorem Da{t:TypeId}(h:(P.underlying t).isSome=true):(isAgg t).run P w=.ok (bq P t) w:=by
 obtain⟨d,hd⟩:=Option.isSome_iff_exists.1 h;simp only[isAgg,Sem.run_bind,run_underlying hd,Result.andThen_ok,bq,hd];cases d<;>rfl
theorem je{t:TypeId}(h:(P.info? t).isSome=true):(sizeOf t).run P w=.ok (P.cellsOf t) w:=by
 obtain⟨i,hi⟩:=Option.isSome_iff_exists.1 h;simp[sizeOf,typeInfo,Program.cellsOf,hi]
theorem jQ{t:TypeId}(h:aI P t=true):(P.info? t).isSome=true:=by
 obtain⟨i,_,_,hi,_⟩:=rF h;simp[hi]
theorem AU{t:TypeId}(h:aI P t=true):(P.underlying t).isSome=true:=by
 obtain⟨_,d,_,_,hd,_⟩:=rF h;simp[hd]
theorem AD{t:TypeId}(h:aI P t=true):∃ z,(zeroValue t).run P w=.ok z w/\z.cells.size=P.cellsOf t/\a8 P t=z.cells.toList.map oi/\(∀ u∈z.cells.toList,(oi u).one=true):=by
 obtain⟨i,d,z,hi,_,hz,_,h1,h2,_,_,C⟩:=rF h;exact⟨z,by simp[zeroValue,typeInfo,hi,hz],h1,h2,C⟩
theorem kv{t:TypeId}(h:bi P t=true):P.underlying t=some (.slice (aF P t))/\aI P (aF P t)=true:=by
 unfold bi at h;unfold aF;split at h
 .rename_i e he;rw[he];exact⟨rfl,h⟩
 .cases h
theorem KH{t:TypeId}(h:oI P t=true):P.underlying t=some (.array (pi P t) (aF P t))/\aI P (aF P t)=true:=by
 unfold oI at h;unfold aF pi;split at h
 .rename_i e he;rw[he];exact⟨rfl,h⟩
 .cases h
theorem wy{t:TypeId}(h:fW P t=true):P.underlying t=some .string:=by
 unfold fW at h;split at h
 .assumption
 .cases h
end types
def aX(P:Program)(F:Nat->Prop)(m:Mem)(nx:Nat)(β:aE)(w:World)(e:dy)(s:Sem Next):Prop:=
 ∃ n v w' β',s.run P w=.ok n w'/\(n=.value v\/(n=.skip/\v=undef))/\R F β' w' e.val v/\aJ P F (cK m e.aU) β' w'/\Step β w β' w'/\∀ i,β i=none->(i<nx\/nx+e.new<=i)->β' i=none
section
variable{P:Program}{F:Nat->Prop}{m:Mem}{nx:Nat}{β:aE}{w:World}
theorem aX.pure(hm:aJ P F m β w){pre:Prop}{d:D}{rd:List Nat}{s:Sem Value}{v:Value}(hr:s.run P w=.ok v w)(h:R F β w d v):
 aX P F m nx β w { pre:=pre,val:=d,rd:=rd } (do Pure.pure (Next.value (<- s))):=
 ⟨.value v,v,w,β,by simp[hr],.inl rfl,h,hm,Step.refl β w,fun _ h _=>h⟩
def Rd(F:Nat->Prop)(β:aE)(w:World)(b o:Nat)(cs:List D):Prop:=
 ∃ us:Nat->Value,(∀ k:Nat,k<cs.length->w.cell? ⟨b,o+k,none⟩=some (us k)/\(us k).oneCell'=true)/\∀ (k:Nat) (d:D),cs[k]? =some d->R F β w d (us k)
theorem Rd.drop{b o:Nat}{cs:List D}(h:Rd F β w b o cs)(k:Nat):Rd F β w b (o+k) (cs.drop k):=by
 obtain⟨us,h1,h2⟩:=h;refine⟨fun j=>us (k+j),fun j hj=>?_,fun j d hj=>?_⟩
 .have:=h1 (k+j) (by simp at hj;omega);rw[<- Nat.add_assoc] at this;exact this
 .exact h2 (k+j) d (by simpa[List.getElem?_drop] using hj)
theorem Rd.take{b o:Nat}{cs:List D}(h:Rd F β w b o cs)(k:Nat):Rd F β w b o (cs.take k):=by
 obtain⟨us,h1,h2⟩:=h;refine⟨us,fun j hj=>h1 j (by simp at hj;omega),fun j d hj=>h2 j d ?_⟩;rw[List.getElem?_take] at hj;split at hj
 .exact hj
 .cases hj
theorem cC.rd{cs:List D}{e:TypeId}{b o len room sz:Nat}(h:cC P F β w (.cells cs e) (.cells b o len room sz)):Rd F β w b o cs/\len=cs.length/\sz=P.cellsOf e/\len<=room:=by
 cases h with
 |cells _ _ _ _ _ _ c hc hr hlen bD hh=>
  refine⟨⟨fun k=>(c[o+k]?).getD undef,fun k hk=>?_,fun k d hk=>?_⟩,rfl,bD,hlen⟩
  .have:o+k<c.size:=by omega
   obtain⟨v,h1,_,C⟩:=hh k cs[k] (by simp[hk]);exact⟨by simp[World.cell?,hc,h1],by simpa[h1] using C⟩
  .obtain⟨v,h1,h2,_⟩:=hh k d hk;simpa[h1] using h2
theorem R.Hy{cs:List D}{v:Value}(h:R F β w (.pt cs) v):∃ b o,v=.pointer (some ⟨b,o,none⟩)/\¬ F b/\β.free b/\b<w.heap.size/\Rd F β w b o cs:=by
 cases h with|pt _ b o us h1 h2 h3 h4 h5=>exact⟨b,o,rfl,h1,h2,h3,us,h4,h5⟩
theorem R.UC{cs:List D}{b o:Nat}(h1:¬ F b)(h2:β.free b)(C:b<w.heap.size)(h:Rd F β w b o cs):R F β w (.pt cs) (.pointer (some ⟨b,o,none⟩)):=by
 obtain⟨us,J,M⟩:=h;exact .pt cs b o us h1 h2 C J M
theorem R.Hx(hm:aJ P F m β w){i off:Nat}{cs:List D}{e:TypeId}{v:Value}(h:R F β w (.rp i off) v)(hi:m i=some (.cells cs e)):
 ∃ b o room sz,β i=some (.cells b o cs.length room sz)/\v=.pointer (some ⟨b,o+off,none⟩)/\cC P F β w (.cells cs e) (.cells b o cs.length room sz):=by
 obtain⟨p,hp,ap⟩:=hm.row i _ hi;cases h with
 |qY _ _ _ h _=>
  rw[h] at hp;cases hp;cases ap
 |rp _ _ b o len room sz h=>
  rw[h] at hp;cases hp;obtain⟨_,h2,_,_⟩:=ap.rd;subst h2;exact⟨b,o,room,sz,h,rfl,ap⟩
theorem FU{t:TypeId}(ht:aI P t=true){b o:Nat}{cs:List D}(h:Rd F β w b o cs)(hl:P.cellsOf t<=cs.length):
 ∃ v,(loadVar t ⟨b,o,none⟩).run P w=.ok v w/\R F β w (hD P t cs) v:=by
 obtain⟨us,h1,h2⟩:=h;obtain⟨i,d,z,hi,hd,hz,C,_⟩:=rF ht;unfold loadVar hD;simp only[Sem.run_bind,Da w (AU ht),Result.andThen_ok];cases ha:bq P t with
 |true=>
  have hc:=run_loadCells (P:=P) w ⟨b,o,none⟩ (P.cellsOf t) us (fun j hj=>by rw[Addr.add_lit];exact(h1 j oG).1);refine⟨_,by simp[je w (jQ ht),hc];rfl,?_⟩;refine .agg _ _ oP fun k d v hk hv=>?_;simp only[List.getElem?_map] at hv;rw[List.getElem?_take] at hk;split at hk
  .rename_i af;have:(List.range (P.cellsOf t))[k]? =some k:=by simp[af]
   rw[this] at hv;simp at hv;subst hv;exact h2 k d hk
  .cases hk
 |false=>
  have J:=C ha;have h0:=(h1 0 oG).1;rw[Nat.add_zero] at h0;refine⟨us 0,by simp[h0],?_⟩;cases cs with
  |nil=>simp at hl;omega
  |cons d ds=>exact h2 0 d rfl
theorem Y2(hm:aJ P F m β w){t:TypeId}{cs:List D}{v:Value}{pre:Prop}(h:R F β w (.pt cs) v)(ht:aI P t=true)(hl:P.cellsOf t<=cs.length):
 aX P F m nx β w { pre:=pre,val:=hD P t cs } (do Pure.pure (Next.value (<- Instr.loadAt t v))):=by
 obtain⟨b,o,rfl,_,_,_,C⟩:=h.Hy;obtain⟨u,hu,hr⟩:=FU ht C hl;exact aX.pure hm (by simp[Instr.loadAt,Instr.sureAddr,hu]) hr
theorem Y3(hm:aJ P F m β w){t:TypeId}{i off:Nat}{cs:List D}{e:TypeId}{v:Value}{pre:Prop}{rd:List Nat}(h:R F β w (.rp i off) v)(hi:m i=some (.cells cs e))
 (ht:aI P t=true) (hl:off+P.cellsOf t<=cs.length):
 aX P F m nx β w { pre:=pre,val:=hD P t (cs.drop off),rd:=rd } (do Pure.pure (Next.value (<- Instr.loadAt t v))):=by
 obtain⟨b,o,room,sz,C,rfl,ap⟩:=h.Hx hm hi;obtain⟨u,hu,hr⟩:=FU ht (ap.rd.1.drop off) oP;exact aX.pure hm (by simp[Instr.loadAt,Instr.sureAddr,hu]) hr
theorem Ka{cs:List D}{off:Nat}{xs:List D}(h:off+xs.length<=cs.length):gW cs off xs=cs.take off++xs++cs.drop (off+xs.length):=by
 unfold gW;split
 .rename_i x;simp at h;rw[List.set_eq_take_append_cons_drop,if_pos oG];simp
 .rfl
theorem JD{cs:List D}{off:Nat}{xs:List D}(h:off+xs.length<=cs.length):(gW cs off xs).length=cs.length:=by
 rw[Ka h];simp;omega
theorem Qf{cs:List D}{off:Nat}{xs:List D}(h:off+xs.length<=cs.length)(k:Nat):(gW cs off xs)[k]? =if k<off then cs[k]? else if k<off+xs.length then xs[k - off]? else cs[k]? :=by
 rw[Ka h];by_cases h1:k<off
 .rw[if_pos h1,List.append_assoc,List.getElem?_append_left oP,List.getElem?_take,if_pos h1]
 .rw[if_neg h1];by_cases h2:k<off+xs.length
  .rw[if_pos h2,List.append_assoc,List.getElem?_append_right oP,List.length_take,Nat.min_eq_left oG,List.getElem?_append_left oG]
  .rw[if_neg h2,List.getElem?_append_right oP,List.length_append,List.length_take,Nat.min_eq_left oG,List.getElem?_drop];congr 1;omega
theorem FW(c:List Value)(off:Nat)(xs:List Value)(h:off+xs.length<=c.length)(k:Nat):(c.take off++xs++c.drop (off+xs.length))[k]? =if k<off then c[k]? else if k<off+xs.length then xs[k - off]? else c[k]? :=by
 by_cases h1:k<off
 .rw[if_pos h1,List.append_assoc,List.getElem?_append_left oP,List.getElem?_take,if_pos h1]
 .rw[if_neg h1];by_cases h2:k<off+xs.length
  .rw[if_pos h2,List.append_assoc,List.getElem?_append_right oP,List.length_take,Nat.min_eq_left oG,List.getElem?_append_left oG]
  .rw[if_neg h2,List.getElem?_append_right oP,List.length_append,List.length_take,Nat.min_eq_left oG,List.getElem?_drop];congr 1;omega
theorem PN(hm:aJ P F m β w){i off:Nat}{cs:List D}{e:TypeId}{b o room sz:Nat}(hβ:β i=some (.cells b o cs.length room sz))(ap:cC P F β w (.cells cs e) (.cells b o cs.length room sz))
 {ds:List D} {vs:List Value} (hlen:vs.length=ds.length) (ow:off+ds.length<=cs.length) (h1:∀ u∈vs,u.oneCell'=true) (hr:∀ (k:Nat) (d:D) (u:Value),ds[k]? =some d->vs[k]? =some u->R F β w d u):
 ∃ w',(storeCells ⟨b,o+off,none⟩ vs).run P w=.ok () w'/\aJ P F (up m i (some (.cells (gW cs off ds) e))) β w'/\Step β w β w':=by
 cases ap with
 |cells _ _ _ _ _ _ c hc vf hle bD hh=>
 have U:=run_storeCells_at P b (o+off) e vs 0 c w hc oG h1;simp only[Nat.add_zero] at U;have r5:=setRow_heap w b c (c.toList.take (o+off)++vs++c.toList.drop (o+off+vs.length)).toArray e (0,0) hc
 have hs:Step β w β (w.setRow b (c.toList.take (o+off)++vs++c.toList.drop (o+off+vs.length)).toArray):=
  C' hm hβ rfl oS fun k hk=>setRow_other w b k _ hk
 refine⟨_,U,hm.write hβ rfl oS (fun k hk=>setRow_other w b k _ hk) _ ?_,hs⟩;have hl:=JD (cs:=cs) (off:=off) (xs:=ds) oG
 have H8:(c.toList.take (o+off)++vs++c.toList.drop (o+off+vs.length)).toArray.size=c.size:=by
  simp only[List.size_toArray,List.length_append,List.length_take,List.length_drop,Array.length_toList];omega
 have key:=cC.cells (P:=P) (F:=F) (β:=β) (w:=w.setRow b (c.toList.take (o+off)++vs++c.toList.drop (o+off+vs.length)).toArray) (gW cs off ds) e b o room sz _ r5 (by rw[H8];exact vf) oG bD (fun k d hk=>by
  rw[Qf oG] at hk;have hv:=FW c.toList (o+off) vs oP (o+k);simp only[List.getElem?_toArray];by_cases h2:k<off
  .rw[if_pos h2] at hk;rw[if_pos oG] at hv;obtain⟨u,C,J,M⟩:=hh k d hk;exact⟨u,by rw[hv];simpa using C,J.step hs,M⟩
  .rw[if_neg h2] at hk;rw[if_neg oG] at hv;by_cases X:k<off+ds.length
   .rw[if_pos X] at hk;rw[if_pos oG] at hv;have af:k - off<vs.length:=by omega
    refine⟨vs[k - off],by rw[hv,show o+k - (o+off)=k - off from by omega];simp[af],?_,h1 _ (gA af)⟩;exact(hr (k - off) d vs[k - off] hk (by simp[af])).step hs
   .rw[if_neg X] at hk;rw[if_neg oG] at hv;obtain⟨u,C,J,M⟩:=hh k d hk
    exact⟨u,by rw[hv];simpa using C,J.step hs,M⟩)
 rw[hl] at key;exact key
theorem aaD(hm:aJ P F m β w){t:TypeId}{i off:Nat}{cs:List D}{e:TypeId}{a x:Value}{d:D}{pre:Prop}{rd:List Nat}(h:R F β w (.rp i off) a)(hx:R F β w d x)(hi:m i=some (.cells cs e))
 (ht:aI P t=true) (hlen:d.cells.length=P.cellsOf t) (hl:off+P.cellsOf t<=cs.length) (h1:d.cells.all D.one=true):
 aX P F m nx β w { pre:=pre,val:=.aM [],aU:=[(i,some (.cells (gW cs off d.cells) e))],rd:=rd } (do Instr.storeAt t a x;Pure.pure Next.skip):=by
 obtain⟨b,o,room,sz,M,rfl,ap⟩:=h.Hx hm hi;obtain⟨c1,c2,c3⟩:=hx.cells h1;obtain⟨w',C,J,hs⟩:=PN (P:=P) hm M ap (off:=off) (ds:=d.cells) (vs:=x.cells.toList) (by simpa using c1) oG c3 (fun k d' u hk hu=>(c2 k d' u hk (by simpa using hu)).1);refine⟨.skip,undef,w',β,?_,.inr ⟨rfl,rfl⟩,.aM [] [] rfl oS,J,hs,fun _ h _=>h⟩;have bD:x.cells.size=P.cellsOf t:=by omega
 simp[Instr.storeAt,Instr.sureAddr,storeVar,je w (jQ ht),bD,C]
theorem DI(hm:aJ P F m β w)(hn:β nx=none){cs:List D}{c:List Value}{e:TypeId}(hl:c.length=cs.length)(h1:∀ (k:Nat) (d:D) (u:Value),cs[k]? =some d->c[k]? =some u->R F β w d u/\u.oneCell'=true)(C:List Value):
 aJ P F (up m nx (some (.cells cs e))) (up β nx (some (.cells w.heap.size 0 cs.length (cs.length+C.length) (P.cellsOf e)))) (w.alloc (.cells (c++C).toArray e))/\
 Step β w (up β nx (some (.cells w.heap.size 0 cs.length (cs.length+C.length) (P.cellsOf e)))) (w.alloc (.cells (c++C).toArray e)):=by
 have hs:=AH hm (.cells (c++C).toArray e) hn (.cells w.heap.size 0 cs.length (cs.length+C.length) (P.cellsOf e)) (fun b hb=>by simp[Pl.bF] at hb;exact hb.symm);refine⟨hm.alloc hn _ _ _ (fun b hb=>by simp[Pl.bF] at hb;exact hb.symm) ?_,hs⟩;refine .cells cs e w.heap.size 0 _ _ (c++C).toArray (heap_alloc_new w _) oP oG rfl fun k d hk=>?_;have U:k<cs.length:=(bI.1 hk).1;have J:k<c.length:=by omega
 obtain⟨h2,M⟩:=h1 k d c[k] hk (by simp[J]);refine⟨c[k],?_,h2.step hs,M⟩;rw[Nat.zero_add,List.getElem?_toArray,List.getElem?_append_left J];simp[J]
theorem wz{p:Pl}:∀ i,β i=none->(i<nx\/nx+1<=i)->up β nx (some p) i=none:=fun i h hi=>by
 rw[aA _ _ oG];exact h
theorem F0(t:TypeId)(v:Value):(newVar t v).run P w=.ok ⟨w.heap.size,0,none⟩ (w.alloc (.cells v.cells t)):=by
 simp[newVar,newRow]
theorem ad7(hm:aJ P F m β w)(hn:β nx=none){t:TypeId}{d:D}{v:Value}{pre:Prop}(h:R F β w d v)(h1:d.cells.all D.one=true):
 aX P F m nx β w { pre:=pre,val:=.rp nx 0,aU:=[(nx,some (.cells d.cells t))],new:=1 } (do Pure.pure (Next.value (<- Instr.box t v))):=by
 obtain⟨c1,c2,c3⟩:=h.cells h1;obtain⟨h2,C⟩:=DI hm hn (cs:=d.cells) (c:=v.cells.toList) (e:=t) (by simpa using c1) (fun k e u hk hu=>c2 k e u hk (by simpa using hu)) [];simp only[List.append_nil,Array.toArray_toList] at h2 C;refine⟨_,_,_,_,by simp[Instr.box,F0];rfl,.inl rfl,?_,h2,C,wz⟩;exact .rp nx 0 w.heap.size 0 _ _ _ (aj _ _ _)
theorem Bl{z:Value}{t:TypeId}(hz:a8 P t=z.cells.toList.map oi)(C:∀ u∈z.cells.toList,(oi u).one=true):
 z.cells.toList.length=(a8 P t).length/\∀ (k:Nat) (d:D) (u:Value),(a8 P t)[k]? =some d->z.cells.toList[k]? =some u->R F β w d u/\u.oneCell'=true:=by
 rw[hz];refine⟨oS,fun k d u hk hu=>?_⟩;rw[List.getElem?_map,hu] at hk;simp only[Option.map_some,aG] at hk;subst hk;have:=LM (F:=F) (β:=β) (w:=w) u;exact⟨this,this.one (C u (bu hu))⟩
theorem aaE(hm:aJ P F m β w)(hn:β nx=none){t:TypeId}{pre:Prop}(ht:aI P t=true):
 aX P F m nx β w { pre:=pre,val:=.rp nx 0,aU:=[(nx,some (.cells (a8 P t) t))],new:=1 } (do Pure.pure (Next.value (<- Instr.alloc t true (.tuple #[])))):=by
 obtain⟨z,hz,_,M,U⟩:=AD (P:=P) w ht;obtain⟨c1,c2⟩:=Bl (F:=F) (β:=β) (w:=w) M U;obtain⟨C,J⟩:=DI hm hn (cs:=a8 P t) (c:=z.cells.toList) (e:=t) c1 c2 [];simp only[List.append_nil,Array.toArray_toList] at C J;refine⟨_,_,_,_,by simp[Instr.alloc,hz,F0];rfl,.inl rfl,?_,C,J,wz⟩;exact .rp nx 0 w.heap.size 0 _ _ _ (aj _ _ _)
end
section
variable{P:Program}{F:Nat->Prop}{m:Mem}{nx:Nat}{β:aE}{w:World}
def Rl(F:Nat->Prop)(β:aE)(w:World)(cs:List D)(c:List Value):Prop:=
 c.length=cs.length/\∀ (k:Nat) (d:D) (u:Value),cs[k]? =some d->c[k]? =some u->R F β w d u/\u.oneCell'=true
theorem QV(off:Nat):∀ (l:List Value) (j:Nat) (cells:Array Value) (k:Nat),off+j+l.length<=cells.size->
 ((l.zipIdx j).foldl (fun cs (c,j)=>cs.setIfInBounds (off+j) c) cells)[k]? =if k<off+j then cells[k]? else if k<off+j+l.length then l[k - (off+j)]? else cells[k]?
 |[],j,cells,k,_=>by
  simp only[List.zipIdx_nil,List.foldl_nil,List.length_nil,Nat.add_zero];split
  .rfl
  .rfl
 |v::l,j,cells,k,h=>by
  simp only[List.zipIdx_cons,List.foldl_cons];simp at h;rw[QV off l (j+1) _ k oP];simp only[List.length_cons];by_cases h1:k<off+j
  .rw[if_pos oG,if_pos h1,Array.getElem?_setIfInBounds_ne oG]
  .rw[if_neg h1];by_cases h2:k=off+j
   .subst h2;rw[if_pos oG,if_pos oG];have:off+j<cells.size:=by omega
    simp[this]
   .rw[if_neg oG];by_cases C:k<off+(j+1)+l.length
    .rw[if_pos C,if_pos oG,show k - (off+j)=(k - (off+(j+1)))+1 from by omega];simp
    .rw[if_neg C,if_neg oG,Array.getElem?_setIfInBounds_ne oG]
theorem Y4(off:Nat)(l:List Value)(cells:Array Value)(h:off+l.length<=cells.size):
 (l.zipIdx.foldl (fun cs (c,j)=>cs.setIfInBounds (off+j) c) cells).toList=cells.toList.take off++l++cells.toList.drop (off+l.length):=by
 apply List.ext_getElem?;intro k;rw[FW _ _ _ (by simpa using h) k];have:=QV off l 0 cells k (by simpa using h);simpa using this
theorem HC(place:Nat->Option (Nat×Nat)):∀ (ps:List (Nat×D)) (C:List (Nat×Value)) (cs:List D) (c:Array Value) (cs':List D),Rl F β w cs c.toList->ps.length=C.length->
 (∀ (k:Nat) (p:Nat×D) (q:Nat×Value),ps[k]? =some p->C[k]? =some q->p.1=q.1/\R F β w p.2 q.2)->hP place cs ps=some cs'->∃ c',Instr.fill place c C=some c'/\Rl F β w cs' c'.toList
 |[],[],cs,c,cs',h,_,_,hf=>by
  simp only[hP,aG] at hf;subst hf;exact⟨c,rfl,h⟩
 |[],_::_,_,_,_,_,hl,_,_=>by simp at hl
 |_::_,[],_,_,_,_,hl,_,_=>by simp at hl
 |(i,d)::ps,(i',v)::C,cs,c,cs',h,hl,hp,hf=>by
  obtain⟨h1,h2⟩:=hp 0 _ _ rfl rfl;simp only at h1 h2;subst h1;simp only[hP] at hf;cases X:place i with
  |none=>simp[X] at hf
  |some q=>
   obtain⟨off,size⟩:=q;simp only[X] at hf;split at hf
   .rename_i hc;obtain⟨vU,mU,U⟩:=hc;obtain⟨k1,k2,k3⟩:=h2.cells U;have cR:=h.1;simp at cR
    have J:¬ (v.cells.size≠size||off+v.cells.size>c.size)=true:=by
     simp;omega
    simp only[Instr.fill,X];rw[if_neg J];have M:=Y4 off v.cells.toList c oP
    have nq:v.cells.zipIdx.foldl (fun cs (c,j)=>cs.setIfInBounds (off+j) c) c=(v.cells.toList.zipIdx.foldl (fun cs (c,j)=>cs.setIfInBounds (off+j) c) c):=by
     rw[<- Array.foldl_toList];simp
    rw[nq];refine HC place ps C (gW cs off d.cells) _ cs' ?_ (by simpa using hl) (fun k p q hk hq=>hp (k+1) p q hk hq) hf;rw[M];refine⟨?_,fun k e u hk hu=>?_⟩
    .rw[JD oG];simp;omega
    .rw[Qf oG] at hk;rw[FW _ _ _ oP] at hu;simp only[Array.length_toList] at hu;by_cases g1:k<off
     .rw[if_pos g1] at hk hu;exact h.2 k e u hk hu
     .rw[if_neg g1] at hk hu;by_cases g2:k<off+d.cells.length
      .rw[if_pos g2] at hk;rw[if_pos oG] at hu;exact k2 (k - off) e u hk (by simpa using hu)
      .rw[if_neg g2] at hk;rw[if_neg oG] at hu;exact h.2 k e u hk hu
   .cases hf
theorem RP(z:List D)(hz:0<z.length):∀ (n k:Nat),k<n*z.length->(dB n z)[k]? =z[k % z.length]?
 |0,k,h=>by simp at h
 |n+1,k,h=>by
  have e:dB (n+1) z=z++dB n z:=by simp[dB,List.replicate_succ]
  rw[e];by_cases hk:k<z.length
  .rw[List.getElem?_append_left hk,Nat.mod_eq_of_lt hk]
  .rw[List.getElem?_append_right oG,RP z hz n (k - z.length) (by rw[Nat.add_mul] at h;omega)];rw[<- Nat.mod_eq_sub_mod oG]
theorem CZ(n:Nat)(z:List D):(dB n z).length=n*z.length:=by
 simp[dB,List.length_flatten]
theorem Lc{t:TypeId}{z:Value}(hs:z.cells.size=P.cellsOf t)(hz:a8 P t=z.cells.toList.map oi)(U:∀ u∈z.cells.toList,(oi u).one=true)(n N:Nat)(J:N=n*P.cellsOf t)(zero:Array Value)(hzero:0<N->zero=z.cells):
 Rl F β w (dB n (a8 P t)) ((Array.range N).map (zero[· % zero.size]!)).toList:=by
 obtain⟨c1,c2⟩:=Bl (F:=F) (β:=β) (w:=w) hz U;have hlen:(a8 P t).length=P.cellsOf t:=by rw[<- c1];simpa using hs
 refine⟨by simp[CZ,hlen,J],fun k d u hk hu=>?_⟩
 have af:k<N:=by
  have:=(bI.1 hk).1;rw[CZ,hlen] at this;omega
 have M:0<N:=by omega
 have C:=hzero M;subst C
 have h0:0<P.cellsOf t:=by
  rcases Nat.eq_zero_or_pos (P.cellsOf t) with h|h
  .rw[h] at J;omega
  .exact h
 rw[RP _ oG n k (by rw[hlen];omega),hlen] at hk;simp[af] at hu;have hm:k % P.cellsOf t<z.cells.size:=by rw[hs];exact Nat.mod_lt _ h0
 refine c2 (k % P.cellsOf t) d u hk ?_;rw[<- hu,hs];simp[hm]
theorem X8(hm:aJ P F m β w){t:TypeId}{fs:Array Field}{ps:List (Nat×D)}{C:Array (Nat×Value)}{cs':List D}{pre:Prop}(ht:aI P t=true)(hu:P.underlying t=some (.struct fs))(z6:fs.toList.all (fun f=>(P.info? f.type).isSome)=true)
 (hl:ps.length=C.size) (hp:∀ (k:Nat) (p:Nat×D) (q:Nat×Value),ps[k]? =some p->C[k]? =some q->p.1=q.1/\R F β w p.2 q.2)
 (hf:hP (fun i=>(fs[i]?).map fun f=>(f.offset,P.cellsOf f.type)) (a8 P t) ps=some cs'):
 aX P F m nx β w { pre:=pre,val:=.agg cs' } (do Pure.pure (Next.value (<- Instr.build t C))):=by
 obtain⟨z,hz,jM,X,h4⟩:=AD (P:=P) w ht;obtain⟨c1,c2⟩:=Bl (F:=F) (β:=β) (w:=w) X h4
 have J:(fs.mapM fun f=>(do pure (f.offset, <- sizeOf f.type):Sem (Nat×Nat))).run P w=.ok (fs.map fun f=>(f.offset,P.cellsOf f.type)) w:=by
  rw[Array.mapM_eq_mapM_toList]
  have key:∀ l:List Field,l.all (fun f=>(P.info? f.type).isSome)=true->(l.mapM fun f=>(Prod.mk f.offset<$>sizeOf f.type:Sem (Nat×Nat))).run P w=.ok (l.map fun f=>(f.offset,P.cellsOf f.type)) w:=by
   intro l
   induction l with
   |nil=>intro _;simp
   |cons f l ih=>
    intro hl;simp only[List.all_cons,aW] at hl;simp[List.mapM_cons,je w hl.1,ih hl.2]
  simp[key fs.toList z6, <- Array.toList_map]
 obtain⟨M,wV,U⟩:=HC (F:=F) (β:=β) (w:=w) (fun i=>(fs.map fun f=>(f.offset,P.cellsOf f.type))[i]?) ps C.toList (a8 P t) z.cells cs' ⟨c1,c2⟩ (by simpa using hl) (fun k p q hk hq=>hp k p q hk (by simpa using hq)) (by
  rw[<- hf];congr 1;funext i
  simp[Array.getElem?_map])
 refine aX.pure hm (v:=.agg M) ?_ ?_
 .simp only[Instr.build,Sem.run_bind,hz,Result.andThen_ok,run_underlying hu,J,wV,Sem.run_pure]
 .have:=R.agg (F:=F) (β:=β) (w:=w) cs' M.toList U.1 (fun k d v hk hv=>(U.2 k d v hk hv).1);simpa using this
theorem Yf(hm:aJ P F m β w){t e:TypeId}{n:Nat}{ps:List (Nat×D)}{C:Array (Nat×Value)}{cs':List D}{pre:Prop}(ht:aI P t=true)(hu:P.underlying t=some (.array n e))(he:aI P e=true)
 (hl:ps.length=C.size) (hp:∀ (k:Nat) (p:Nat×D) (q:Nat×Value),ps[k]? =some p->C[k]? =some q->p.1=q.1/\R F β w p.2 q.2)
 (hf:hP (fun i=>some (i*P.cellsOf e,P.cellsOf e)) (a8 P t) ps=some cs'):
 aX P F m nx β w { pre:=pre,val:=.agg cs' } (do Pure.pure (Next.value (<- Instr.build t C))):=by
 obtain⟨z,hz,jM,U,X⟩:=AD (P:=P) w ht;obtain⟨c1,c2⟩:=Bl (F:=F) (β:=β) (w:=w) U X;obtain⟨J,wV,M⟩:=HC (F:=F) (β:=β) (w:=w) _ ps C.toList (a8 P t) z.cells cs' ⟨c1,c2⟩ (by simpa using hl) (fun k p q hk hq=>hp k p q hk (by simpa using hq)) hf;refine aX.pure hm (v:=.agg J) ?_ ?_
 .simp only[Instr.build,Sem.run_bind,hz,Result.andThen_ok,run_underlying hu,je w (jQ he),wV,Sem.run_pure]
 .have:=R.agg (F:=F) (β:=β) (w:=w) cs' J.toList M.1 (fun k d v hk hv=>(M.2 k d v hk hv).1);simpa using this
theorem Yl(hm:aJ P F m β w)(hn:β nx=none){t:TypeId}{n:Nat}{ps:List (Nat×D)}{C:Array (Nat×Value)}{cs':List D}{pre:Prop}(ht:bi P t=true)(h24:n*P.cellsOf (aF P t)<=2 ^ 24)(dk:n<=maxLen)
 (hl:ps.length=C.size) (hp:∀ (k:Nat) (p:Nat×D) (q:Nat×Value),ps[k]? =some p->C[k]? =some q->p.1=q.1/\R F β w p.2 q.2)
 (hf:hP (fun i=>some (i*P.cellsOf (aF P t),P.cellsOf (aF P t))) (dB n (a8 P (aF P t))) ps=some cs'):
 aX P F m nx β w { pre:=pre,val:=.rs nx 0 n,aU:=[(nx,some (.cells cs' (aF P t)))],new:=1 } (do Pure.pure (Next.value (<- Instr.buildSlice t n C))):=by
 obtain⟨hu,he⟩:=kv ht;obtain⟨z,hz,jM,U,h4⟩:=AD (P:=P) w he;have Fh:=Lc (F:=F) (β:=β) (w:=w) (P:=P) jM U h4 n (n*P.cellsOf (aF P t)) rfl (if n*P.cellsOf (aF P t)=0 then #[] else z.cells) (fun h=>by rw[if_neg oG]);obtain⟨M,J,hR⟩:=HC (F:=F) (β:=β) (w:=w) _ ps C.toList _ _ cs' Fh (by simpa using hl) (fun k p q hk hq=>hp k p q hk (by simpa using hq)) hf;obtain⟨X,h6⟩:=DI hm hn (cs:=cs') (c:=M.toList) (e:=aF P t) hR.1 hR.2 [];simp only[List.append_nil,Array.toArray_toList,List.length_nil,Nat.add_zero] at X h6
 have rk:(if n*P.cellsOf (aF P t)=0 then Result.ok #[] w else Result.ok z.cells w)=.ok (if n*P.cellsOf (aF P t)=0 then #[] else z.cells) w:=by
  split<;>rfl
 have dn:(Instr.buildSlice t n C).run P w=.ok (.slice (some ⟨w.heap.size,0,none⟩) n n) (w.alloc (.cells M (aF P t))):=by
  unfold Instr.buildSlice;simp only[Sem.run_bind,run_underlying hu,Result.andThen_ok,je w (jQ he),Sem.run_ite,if_neg (show ¬ n*P.cellsOf (aF P t)>2 ^ 24 by omega)];by_cases uc:n*P.cellsOf (aF P t)=0
  .simp only[uc,↓reduceIte] at J ⊢;simp only[Sem.run_bind,Sem.run_pure,Result.andThen_ok,J];simp[newRow]
  .simp only[uc,↓reduceIte] at J ⊢;simp[J,newRow,hz]
 have cR:cs'.length=n*P.cellsOf (aF P t):=by
  have me:∀ (place:Nat->Option (Nat×Nat)) (ps:List (Nat×D)) (cs cs':List D),hP place cs ps=some cs'->cs'.length=cs.length:=by
   intro place ps
   induction ps with
   |nil=>intro cs cs' h;simp only[hP,aG] at h;rw[h]
   |cons p ps ih=>
    intro cs cs' h;obtain⟨i,d⟩:=p;simp only[hP] at h;split at h
    .cases h
    .split at h
     .rename_i hc;rw[ih _ _ h,JD oG]
     .cases h
  rw[me _ _ _ _ hf,CZ,U];simp[jM]
 refine⟨_,_,_,_,by simp only[Sem.run_bind,dn,Result.andThen_ok,Sem.run_pure];rfl,.inl rfl,?_,X,h6,wz⟩;exact .rs nx 0 n n w.heap.size 0 _ _ _ (aj _ _ _) (aZ _) dk oG oG
theorem Yt(hm:aJ P F m β w)(hn:β nx=none){t:TypeId}{n:Int}{pre:Prop}(h0:0<=n)(h1:n<=9223372036854775807)(h2:P.bytesOf (aF P t)*n<=281474976710656)(ht:bi P t=true):
 aX P F m nx β w { pre:=pre,val:=.rs nx 0 n.toNat,aU:=[(nx,some (.cells (dB n.toNat (a8 P (aF P t))) (aF P t)))],new:=1 } (do Pure.pure (Next.value (<- Instr.makeSlice t (.int .i64 n) (.int .i64 n)))):=by
 obtain⟨hu,he⟩:=kv ht;obtain⟨i,d,z,hi,hd,hz,_,jM,U,bD,kJ,h4⟩:=rF he;have sI:(zeroValue (aF P t)).run P w=.ok z w:=by simp[zeroValue,typeInfo,hi,hz]
 have C:=Lc (F:=F) (β:=β) (w:=w) (P:=P) jM U h4 n.toNat (n.toNat*P.cellsOf (aF P t)) rfl (if n.toNat*P.cellsOf (aF P t)=0 then #[] else z.cells) (fun h=>by rw[if_neg oG]);generalize hc:((Array.range (n.toNat*P.cellsOf (aF P t))).map ((if n.toNat*P.cellsOf (aF P t)=0 then #[] else z.cells)[· % (if n.toNat*P.cellsOf (aF P t)=0 then #[] else z.cells).size]!))=c at C;obtain⟨X,h6⟩:=DI hm hn (cs:=dB n.toNat (a8 P (aF P t))) (c:=c.toList) (e:=aF P t) C.1 C.2 [];simp only[List.append_nil,Array.toArray_toList,List.length_nil,Nat.add_zero] at X h6
 have rk:(if n.toNat*P.cellsOf (aF P t)=0 then Result.ok #[] w else Result.ok z.cells w)=.ok (if n.toNat*P.cellsOf (aF P t)=0 then #[] else z.cells) w:=by
  split<;>rfl
 have J:IntKind.i64.wrap n=n:=Go.IntWalk.i64_in n ⟨oG,h1⟩;have M4:¬ n<0:=by omega
 have M:¬ (P.bytesOf (aF P t):Int)*n>2 ^ 48:=by omega
 have dn:(Instr.makeSlice t (.int .i64 n) (.int .i64 n)).run P w=.ok (.slice (some ⟨w.heap.size,0,none⟩) n.toNat n.toNat) (w.alloc (.cells c (aF P t))):=by
  unfold Instr.makeSlice
  simp only[Sem.run_bind,run_underlying hu,Result.andThen_ok,asInt,asIntOf,Sem.run_pure,typeInfo,run_program,hi,J,kJ,M4,M,decide_false,Bool.or_false,Bool.false_or,Bool.false_eq_true,if_false,Sem.run_ite,run_askRoom,je w (jQ he),
   show ¬ n>n from by omega]
  by_cases uc:n.toNat*P.cellsOf (aF P t)=0
  .simp only[uc,↓reduceIte] at hc ⊢;simp only[Sem.run_bind,Sem.run_pure,Result.andThen_ok,hc];simp[newRow]
  .simp only[uc,↓reduceIte] at hc ⊢;simp only[Sem.run_bind,Sem.run_pure,sI,Result.andThen_ok,hc];simp[newRow]
 have hlen:(dB n.toNat (a8 P (aF P t))).length=n.toNat*P.cellsOf (aF P t):=by rw[CZ,U];simp[jM]
 refine⟨_,_,_,_,by simp only[Sem.run_bind,dn,Result.andThen_ok,Sem.run_pure];rfl,.inl rfl,?_,X,h6,wz⟩;exact .rs nx 0 n.toNat n.toNat w.heap.size 0 _ _ _ (aj _ _ _) (aZ _) (by simp only[maxLen];omega) oG oG
end
section
variable{P:Program}{F:Nat->Prop}{m:Mem}{nx:Nat}{β:aE}{w:World}
theorem aX.val(hm:aJ P F m β w){pre:Prop}{d:D}{rd:List Nat}{s:Sem Next}{v:Value}(hr:s.run P w=.ok (.value v) w)(h:R F β w d v):aX P F m nx β w { pre:=pre,val:=d,rd:=rd } s:=
 ⟨.value v,v,w,β,hr,.inl rfl,h,hm,Step.refl β w,fun _ h _=>h⟩
theorem wu(op:BinOp)(t:TypeId)(x y:Operand)(a b:Value)(h1:∀ u,a≠ .agg u)(h2:a≠ .nilIface):(eqGuard op t x y a b).run P w=.ok () w:=by
 unfold eqGuard;generalize (!(op matches .eql | .neq))=c;cases c
 .cases a<;>first|rfl|exact absurd rfl h2|exact absurd rfl (h1 _)
 .rfl
theorem Kb{t:TypeId}{x y:Value}{b:Bool}(h:∀ d,(Op.equalIn (d+1) t x y).run P w=.ok b w):(Op.equal t x y).run P w=.ok b w:=h 9999
theorem KI{t:TypeId}{x y:Value}{b:Bool}(h:(Op.equal t x y).run P w=.ok b w):
 (do pure (Value.bool (<- Op.equal t x y)):Sem Value).run P w=.ok (.bool b) w/\(do pure (Value.bool (!(<- Op.equal t x y))):Sem Value).run P w=.ok (.bool !b) w:=by
 constructor<;>simp only[Sem.run_bind,h,Result.andThen_ok,Sem.run_pure]
theorem acf(op:BinOp)(t:TypeId)(x y v:Value)(p:Prop)(h:sf op x y=some (p,v))(hp:p):(binOp op t x y).run P w=.ok v w:=by
 cases x<;>cases y<;>cases op<;>simp only[sf,aG,bR,reduceCtorEq] at h<;>
  (obtain⟨rfl,rfl⟩:=h)<;>
  first
  |(subst hp;simp[binOp,Op.intArith,Op.intCmp,Op.intBits,mj];done)
  |(obtain⟨rfl,hb⟩:=hp;simp[binOp,Op.intDiv,hb];done)
  |(simp[binOp,Op.shift,show ¬ _<(0:Int) from Int.not_lt.2 hp];done)
  |(simp[binOp,Op.stringOp];done)
theorem ZE{op:BinOp}{x y v:Value}{p:Prop}(h:sf op x y=some (p,v)):plain v=true/\(∀ u,x≠ .agg u)/\x≠ .nilIface:=by
 cases x<;>cases y<;>cases op<;>simp only[sf,aG,bR,reduceCtorEq] at h<;>(obtain⟨rfl,rfl⟩:=h)<;>simp[plain]
theorem acg(hm:aJ P F m β w)(op:BinOp)(t:TypeId)(C J:Operand){a b x y v:Value}{p pre:Prop}(hx:R F β w (.s a) x)(hy:R F β w (.s b) y)(h:sf op a b=some (p,v))(hp:p):
 aX P F m nx β w { pre:=pre,val:=.s v } ((do eqGuard op t C J x y;binOp op t x y)>>=fun r=>Pure.pure (Next.value r)):=by
 obtain⟨rfl,_⟩:=hx.c6;obtain⟨rfl,_⟩:=hy.c6;obtain⟨h1,h2,M⟩:=ZE h;refine aX.val hm (v:=v) ?_ (.s v h1);simp only[Sem.run_bind,wu op t C J x y h2 M,Result.andThen_ok,acf op t x y v p h hp,Sem.run_pure]
theorem ach{t:TypeId}(h:tV P t=true):P.underlying t=some .bool:=by
 unfold tV at h;split at h
 .assumption
 .cases h
theorem aci{t:TypeId}(h:xF P t=true):∃ e,P.underlying t=some (.pointer e):=by
 unfold xF at h;split at h
 .exact⟨_,‹_›⟩
 .cases h
theorem PO{t:TypeId}(h:tV P t=true)(a b:Bool):(binOp .eql t (.bool a) (.bool b)).run P w=.ok (.bool (a==b)) w/\(binOp .neq t (.bool a) (.bool b)).run P w=.ok (.bool !(a==b)) w:=by
 have hu:=ach h;exact KI (Kb fun d=>by simp[Op.equalIn,run_underlying hu])
theorem Qg{t:TypeId}(h:xF P t=true)(a:Addr):(binOp .eql t (.pointer (some a)) (.pointer none)).run P w=.ok (.bool false) w/\(binOp .neq t (.pointer (some a)) (.pointer none)).run P w=.ok (.bool true) w:=by
 obtain⟨e,hu⟩:=aci h;exact KI (Kb fun d=>by simp[Op.equalIn,run_underlying hu])
theorem ZF{t:TypeId}(h:bi P t=true)(a:Option Addr)(l c:Nat):(binOp .eql t (.slice a l c) (.slice none 0 0)).run P w=.ok (.bool a.isNone) w:=by
 obtain⟨hu,_⟩:=kv h;exact(KI (Kb fun d=>by cases a<;>simp[Op.equalIn,run_underlying hu])).1
theorem PQ(hm:aJ P F m β w)(op:BinOp)(t:TypeId)(C J:Operand){a b:Bool}{x y:Value}{d:D}{pre:Prop}(hx:R F β w (.s (.bool a)) x)(hy:R F β w (.s (.bool b)) y)(ht:tV P t=true)
 (h:(op=.eql/\d=.s (.bool (a==b)))\/(op=.neq/\d=.s (.bool !(a==b)))):
 aX P F m nx β w { pre:=pre,val:=d } ((do eqGuard op t C J x y;binOp op t x y)>>=fun r=>Pure.pure (Next.value r)):=by
 obtain⟨rfl,_⟩:=hx.c6;obtain⟨rfl,_⟩:=hy.c6;rcases h with⟨rfl,rfl⟩|⟨rfl,rfl⟩
 .refine aX.val hm (v:=.bool (a==b)) ?_ (.s _ rfl);simp only[Sem.run_bind,wu _ t C J (.bool a) _ oS oS,Result.andThen_ok,(PO ht a b).1,Sem.run_pure]
 .refine aX.val hm (v:=.bool !(a==b)) ?_ (.s _ rfl);simp only[Sem.run_bind,wu _ t C J (.bool a) _ oS oS,Result.andThen_ok,(PO ht a b).2,Sem.run_pure]
theorem R.afd{i off:Nat}{v:Value}(h:R F β w (.rp i off) v)(hl:β i≠some .dead):∃ a,v=.pointer (some a):=by
 cases h with
 |qY _ _ _ h _=>exact absurd h hl
 |rp=>exact⟨_,rfl⟩
theorem Qh(hm:aJ P F m β w)(op:BinOp)(t:TypeId)(C J:Operand){i off:Nat}{x y:Value}{d:D}{pre:Prop}{rd:List Nat}{r:Row}(hx:R F β w (.rp i off) x)(hi:m i=some r)(hy:R F β w (.s (.pointer none)) y)(ht:xF P t=true)
 (h:(op=.eql/\d=.s (.bool false))\/(op=.neq/\d=.s (.bool true))):
 aX P F m nx β w { pre:=pre,val:=d,rd:=rd } ((do eqGuard op t C J x y;binOp op t x y)>>=fun r=>Pure.pure (Next.value r)):=by
 obtain⟨p,hp,ap⟩:=hm.row i _ hi;obtain⟨a,rfl⟩:=hx.afd (fun e=>by rw[e] at hp;cases hp;exact ap.live rfl);obtain⟨rfl,_⟩:=hy.c6;rcases h with⟨rfl,rfl⟩|⟨rfl,rfl⟩
 .refine aX.val hm (v:=.bool false) ?_ (.s _ rfl);simp only[Sem.run_bind,wu _ t C J (.pointer (some a)) _ oS oS,Result.andThen_ok,(Qg ht a).1,Sem.run_pure]
 .refine aX.val hm (v:=.bool true) ?_ (.s _ rfl);simp only[Sem.run_bind,wu _ t C J (.pointer (some a)) _ oS oS,Result.andThen_ok,(Qg ht a).2,Sem.run_pure]
theorem ZG(hm:aJ P F m β w)(t:TypeId)(C J:Operand){es:List D}{n:Nat}{x:Value}{pre:Prop}(hx:R F β w (.sl es n) x)(ht:bi P t=true):
 aX P F m nx β w { pre:=pre,val:=if n=0 then .ub else .s (.bool false) } ((do eqGuard .eql t C J x (.slice none 0 0);binOp .eql t x (.slice none 0 0))>>=fun r=>Pure.pure (Next.value r)):=by
 have M:=fun a l c=>ZF (P:=P) (w:=w) ht a l c;cases hx with
 |gy a cap=>
  refine aX.val hm (v:=.bool a.isNone) ?_ (by simpa using R.ub _);simp only[Sem.run_bind,wu _ t C J (.slice a 0 cap) _ oS oS,Result.andThen_ok,M,Sem.run_pure]
 |sl _ _ b o cap us h1 h2 U X h5 h6 h7=>
  refine aX.val hm (v:=.bool false) ?_ ?_
  .simp only[Sem.run_bind,wu _ t C J (.slice (some ⟨b,o,none⟩) n cap) _ oS oS,Result.andThen_ok,M,Sem.run_pure];rfl
  .split
   .exact .ub _
   .exact .s _ rfl
theorem ad9(hm:aJ P F m β w)(op:UnOp){a x v:Value}{pre:Prop}(hx:R F β w (.s a) x)(h:zP op a=some v):
 aX P F m nx β w { pre:=pre,val:=.s v } (do Pure.pure (Next.value (<- Op.unary op x))):=by
 obtain⟨rfl,_⟩:=hx.c6
 have:(Op.unary op x).run P w=.ok v w/\plain v=true:=by
  cases x<;>cases op<;>simp only[zP,aG,reduceCtorEq] at h<;>subst h<;>simp[Op.unary,Op.intArith,Op.intBits,mj,plain]
 exact aX.val hm (by simp[this.1]) (.s _ this.2)
theorem YE(hm:aJ P F m β w)(src dst:TypeId){k k':IntKind}{n:Int}{x:Value}{pre:Prop}(hx:R F β w (.s (.int k' n)) x)(hd:P.underlying dst=some (.int k))(hs:(P.underlying src).isSome=true):
 aX P F m nx β w { pre:=pre,val:=.s (.int k (k.wrap n)) } (do Pure.pure (Next.value (<- convert src dst x))):=by
 obtain⟨rfl,_⟩:=hx.c6;obtain⟨d,hs⟩:=Option.isSome_iff_exists.1 hs;refine aX.val hm (v:=.int k (k.wrap n)) ?_ (.s _ rfl);cases d<;>simp[convert,run_underlying hd,run_underlying hs,Conv.intToInt]
theorem Qi{t:TypeId}(h:0<P.cellsOf t):(P.info? t).isSome=true:=by
 cases hi:P.info? t with
 |none=>simp[Program.cellsOf,hi] at h
 |some i=>rfl
theorem X9(hm:aJ P F m β w){t:TypeId}{cs:List D}{x:Value}{k off:Nat}{C:TypeId}{pre:Prop}(hx:R F β w (.pt cs) x)(hf:cr P t k=some (off,C))(h0:0<P.cellsOf C):
 aX P F m nx β w { pre:=pre,val:=.pt (cs.drop off) } (do Pure.pure (Next.value (<- Instr.fieldAt t x k))):=by
 obtain⟨b,o,rfl,h1,h2,M,J⟩:=hx.Hy;unfold cr at hf;split at hf
 .rename_i fs hu;cases hk:fs[k]? with
  |none=>simp[hk] at hf
  |some f=>
   simp[hk] at hf;obtain⟨rfl,rfl⟩:=hf;refine aX.val hm (v:=.pointer (some ⟨b,o+f.offset,none⟩)) ?_ (R.UC h1 h2 M (J.drop _));simp[Instr.fieldAt,run_underlying hu,hk,Instr.sureAddr,fieldPlace,je w (Qi h0),Nat.ne_of_gt h0,Addr.add_lit]
 .cases hf
end
section
variable{P:Program}{F:Nat->Prop}{m:Mem}{nx:Nat}{β:aE}{w:World}
theorem R.LO{i off:Nat}{v:Value}(h:R F β w (.rp i off) v){r:Row}{p:Pl}(hp:β i=some p)(ap:cC P F β w r p):
 ∃ b o len room sz,β i=some (.cells b o len room sz)/\v=.pointer (some ⟨b,o+off,none⟩):=by
 cases h with
 |qY _ _ _ h _=>rw[h] at hp;cases hp;exact absurd rfl ap.live
 |rp _ _ b o len room sz h=>exact⟨b,o,len,room,sz,h,rfl⟩
theorem X'(hm:aJ P F m β w){t:TypeId}{i o:Nat}{x:Value}{k off:Nat}{C:TypeId}{pre:Prop}{rd:List Nat}{r:Row}(hx:R F β w (.rp i o) x)(hi:m i=some r)(hf:cr P t k=some (off,C))(h0:0<P.cellsOf C):
 aX P F m nx β w { pre:=pre,val:=.rp i (o+off),rd:=rd } (do Pure.pure (Next.value (<- Instr.fieldAt t x k))):=by
 obtain⟨p,hp,ap⟩:=hm.row i _ hi;obtain⟨b,bo,len,room,sz,J,rfl⟩:=hx.LO hp ap;unfold cr at hf;split at hf
 .rename_i fs hu;cases hk:fs[k]? with
  |none=>simp[hk] at hf
  |some f=>
   simp[hk] at hf;obtain⟨rfl,rfl⟩:=hf;refine aX.val hm (v:=.pointer (some ⟨b,bo+(o+f.offset),none⟩)) ?_ (.rp i (o+f.offset) b bo len room sz J);simp[Instr.fieldAt,run_underlying hu,hk,Instr.sureAddr,fieldPlace,je w (Qi h0),Nat.ne_of_gt h0,Addr.add_lit,Nat.add_assoc]
 .cases hf
theorem RQ{t:TypeId}(ht:aI P t=true){cs:List D}{vs:List Value}{off:Nat}(hl:vs.length=cs.length)(h:∀ (k:Nat) (d:D) (u:Value),cs[k]? =some d->vs[k]? =some u->R F β w d u)(M:off+P.cellsOf t<=cs.length):
 ∃ v,(part t vs.toArray off).run P w=.ok v w/\R F β w (hD P t (cs.drop off)) v:=by
 obtain⟨i,d,z,hi,hd,hz,J,_⟩:=rF ht;unfold part hD;simp only[Sem.run_bind,Da w (AU ht),Result.andThen_ok];cases ha:bq P t with
 |true=>
  refine⟨.agg ((vs.drop off).take (P.cellsOf t)).toArray,?_,?_⟩
  .simp[je w (jQ ht)]
  .refine .agg _ _ oP fun k d v hk hv=>?_;rw[List.getElem?_take] at hk hv;split at hk
   .rename_i af;rw[if_pos af] at hv;rw[List.getElem?_drop] at hk hv;exact h _ d v hk hv
   .cases hk
 |false=>
  have:=J ha;have af:off<vs.length:=by omega
  refine⟨vs[off],by simp[af],?_⟩;have C:off<cs.length:=by omega
  have e:(cs.drop off).headD .u=cs[off]:=by simp[List.headD_eq_head?_getD,List.head?_drop,C]
  simp only[Bool.false_eq_true,if_false,e];exact h off _ _ (by simp[C]) (by simp[af])
theorem aaF(hm:aJ P F m β w){t:TypeId}{cs:List D}{x:Value}{k off:Nat}{C:TypeId}{pre:Prop}(hx:R F β w (.agg cs) x)(hf:cr P t k=some (off,C))(ht:aI P C=true)(M:off+P.cellsOf C<=cs.length):
 aX P F m nx β w { pre:=pre,val:=hD P C (cs.drop off) } (do Pure.pure (Next.value (<- Instr.field t x k))):=by
 obtain⟨vs,rfl,hl,h⟩:=hx.s3;obtain⟨v,hr,J⟩:=RQ (P:=P) ht hl h M;unfold cr at hf;split at hf
 .rename_i fs hu;cases hk:fs[k]? with
  |none=>simp[hk] at hf
  |some f=>
   simp[hk] at hf;obtain⟨rfl,rfl⟩:=hf;exact aX.val hm (v:=v) (by simp[Instr.field,run_underlying hu,hk,asAgg,hr]) J
 .cases hf
theorem Y5(hm:aJ P F m β w){cs:List D}{x:Value}{k:Nat}{pre:Prop}(hx:R F β w (.aM cs) x)(hk:k<cs.length):
 aX P F m nx β w { pre:=pre,val:=cs.getD k .u } (do Pure.pure (Next.value (<- Instr.extract x k))):=by
 obtain⟨vs,rfl,hl,h⟩:=hx.DB;have C:k<vs.length:=by omega
 refine aX.val hm (v:=vs[k]) (by simp[Instr.extract,C]) ?_;have e:cs.getD k .u=cs[k]:=by simp[dF,hk]
 rw[e];exact h k _ _ (by simp[hk]) (by simp[C])
theorem R.uT{es:List D}{n:Nat}{v:Value}(h:R F β w (.sl es n) v):(es=[]/\n=0/\∃ a cap,v=.slice a 0 cap)\/
 ∃ b o cap,v=.slice (some ⟨b,o,none⟩) n cap/\n<=cap/\cap<=maxLen/\¬ F b/\β.free b/\b<w.heap.size/\Rd F β w b o es:=by
 cases h with
 |gy a cap=>exact .inl ⟨rfl,rfl,a,cap,rfl⟩
 |sl _ _ b o cap us h1 h2 C J M U X=>exact .inr ⟨b,o,cap,rfl,J,M,h1,h2,C,us,U,X⟩
theorem Ya(hm:aJ P F m β w){t:TypeId}{es:List D}{n:Nat}{x y:Value}{X:IntKind}{k:Int}{pre:Prop}(hx:R F β w (.sl es n) x)(hy:R F β w (.s (.int X k)) y)(ht:bi P t=true)(h0:0<=k)(h1:k<n):
 aX P F m nx β w { pre:=pre,val:=.pt (es.drop (k.toNat*P.cellsOf (aF P t))) } (do Pure.pure (Next.value (<- Instr.indexAt t x y))):=by
 obtain⟨hu,he⟩:=kv ht;obtain⟨rfl,_⟩:=hy.c6;rcases hx.uT with⟨_,rfl,_⟩|⟨b,o,cap,rfl,h2,h3,J,M,U,C⟩
 .omega
 .refine aX.val hm (v:=.pointer (some ⟨b,o+k.toNat*P.cellsOf (aF P t),none⟩)) ?_ (R.UC J M U (C.drop _));simp[Instr.indexAt,asIntOf,run_underlying hu,h0,h1,je w (jQ he),Addr.add_lit]
theorem R.D1{i off n:Nat}{v:Value}(h:R F β w (.rs i off n) v){cs:List D}{e:TypeId}(hm:aJ P F m β w)(hi:m i=some (.cells cs e)):
 (cs=[]/\off=0/\n=0/\β i=some .nil/\∃ a,v=.slice a 0 0)\/
 ∃ b o room,β i=some (.cells b o cs.length room (P.cellsOf e))/\cC P F β w (.cells cs e) (.cells b o cs.length room (P.cellsOf e))/\
  ((n=0/\∃ a,v=.slice a 0 0)\/∃ cap,v=.slice (some ⟨b,o+off,none⟩) n cap/\n<=cap/\cap<=maxLen/\cs.length<=off+cap*P.cellsOf e/\off+cap*P.cellsOf e<=room):=by
 obtain⟨p,hp,ap⟩:=hm.row i _ hi;cases h with
 |lp _ _ _ _ h _=>rw[h] at hp;cases hp;cases ap
 |jr _ a h=>
  rw[h] at hp;cases hp;cases ap;exact .inl ⟨rfl,rfl,rfl,h,a,rfl⟩
 |j9 _ _ a b o len room sz h=>
  rw[h] at hp;cases hp;obtain⟨_,h2,C,_⟩:=ap.rd;subst h2;subst C;exact .inr ⟨b,o,room,h,ap,.inl ⟨rfl,a,rfl⟩⟩
 |rs _ _ _ cap b o len room sz h hn dk h1 h2=>
  rw[h] at hp;cases hp;obtain⟨_,C,J,_⟩:=ap.rd;subst C;subst J;exact .inr ⟨b,o,room,h,ap,.inr ⟨cap,rfl,hn,dk,h1,h2⟩⟩
theorem R.acj{i off n:Nat}{v:Value}(h:R F β w (.rs i off n) v)(hl:∃ p,β i=some p/\p≠ .dead):∃ a cap,v=.slice a n cap:=by
 cases h with
 |lp _ _ _ _ h _=>obtain⟨p,h1,h2⟩:=hl;rw[h] at h1;cases h1;exact absurd rfl h2
 |jr _ a h=>exact⟨a,0,rfl⟩
 |j9 _ _ a=>exact⟨a,0,rfl⟩
 |rs=>exact⟨_,_,rfl⟩
theorem RS{r:Row}{p:Pl}(h:cC P F β w r p):p≠ .dead:=h.live
theorem Yb(hm:aJ P F m β w){t:TypeId}{i off n:Nat}{x y:Value}{C:IntKind}{k:Int}{pre:Prop}{rd:List Nat}{r:Row}(hx:R F β w (.rs i off n) x)(hi:m i=some r)(hy:R F β w (.s (.int C k)) y)(ht:bi P t=true)(h0:0<=k)(h1:k<n):
 aX P F m nx β w { pre:=pre,val:=.rp i (off+k.toNat*P.cellsOf (aF P t)),rd:=rd } (do Pure.pure (Next.value (<- Instr.indexAt t x y))):=by
 obtain⟨hu,he⟩:=kv ht;obtain⟨rfl,_⟩:=hy.c6;obtain⟨p,hp,ap⟩:=hm.row i _ hi;cases hx with
 |lp _ _ _ _ h _=>rw[h] at hp;cases hp;exact absurd rfl (RS ap)
 |jr _ a h=>omega
 |j9 _ _ a b o len room sz h=>omega
 |rs _ _ _ cap b o len room sz h hn dk J M=>
  refine aX.val hm (v:=.pointer (some ⟨b,o+(off+k.toNat*P.cellsOf (aF P t)),none⟩)) ?_ (.rp i _ b o len room sz h);simp[Instr.indexAt,asIntOf,run_underlying hu,h0,h1,je w (jQ he),Addr.add_lit,Nat.add_assoc]
theorem X7(hm:aJ P F m β w){t:TypeId}{i off:Nat}{x y:Value}{J:IntKind}{k:Int}{pre:Prop}{rd:List Nat}{r:Row}(hx:R F β w (.rp i off) x)(hi:m i=some r)(hy:R F β w (.s (.int J k)) y)(ht:oI P t=true)(h0:0<=k)(h1:k<pi P t):
 aX P F m nx β w { pre:=pre,val:=.rp i (off+k.toNat*P.cellsOf (aF P t)),rd:=rd } (do Pure.pure (Next.value (<- Instr.indexAt t x y))):=by
 obtain⟨hu,he⟩:=KH ht;obtain⟨rfl,_⟩:=hy.c6;obtain⟨p,hp,ap⟩:=hm.row i _ hi;obtain⟨b,bo,len,room,sz,C,rfl⟩:=hx.LO hp ap;refine aX.val hm (v:=.pointer (some ⟨b,bo+(off+k.toNat*P.cellsOf (aF P t)),none⟩)) ?_ (.rp i _ b bo len room sz C);simp[Instr.indexAt,asIntOf,run_underlying hu,h0,h1,je w (jQ he),Addr.add_lit,Nat.add_assoc,Instr.sureAddr]
theorem Yu(hm:aJ P F m β w){t:TypeId}{b:ByteArray}{x y:Value}{J:IntKind}{k:Int}{pre:Prop}(hx:R F β w (.s (.string b)) x)(hy:R F β w (.s (.int J k)) y)(ht:fW P t=true)(h0:0<=k)(h1:k<b.size):
 aX P F m nx β w { pre:=pre,val:=.s (.int .u8 (b.data.toList.getD k.toNat 0).toNat) } (do Pure.pure (Next.value (<- Instr.index t x y))):=by
 have hu:=wy ht;obtain⟨rfl,_⟩:=hy.c6;obtain⟨rfl,_⟩:=hx.c6;have hk:k.toNat<b.size:=by omega
 have C:k.toNat<b.data.size:=hk;refine aX.val hm (v:=.int .u8 (b.data.toList.getD k.toNat 0).toNat) ?_ (.s _ rfl)
 have e:b[k.toNat]? =some (b.data.toList.getD k.toNat 0):=by
  have e1:b[k.toNat]? =some b[k.toNat]:=getElem?_pos b k.toNat hk;rw[e1];congr 1;show b.data[k.toNat]=_;rw[dF,Array.getElem?_toList,Array.getElem?_eq_getElem C];rfl
 simp only[Instr.index,Sem.run_bind,asIntOf,Sem.run_pure,Result.andThen_ok,run_underlying hu,h0,if_true,e]
theorem Yv(hm:aJ P F m β w){t:TypeId}{cs:List D}{x y:Value}{J:IntKind}{k:Int}{pre:Prop}(hx:R F β w (.agg cs) x)(hy:R F β w (.s (.int J k)) y)(ht:oI P t=true)(h0:0<=k)(h1:k<pi P t)
 (mP:(k.toNat+1)*P.cellsOf (aF P t)<=cs.length):
 aX P F m nx β w { pre:=pre,val:=hD P (aF P t) (cs.drop (k.toNat*P.cellsOf (aF P t))) } (do Pure.pure (Next.value (<- Instr.index t x y))):=by
 obtain⟨hu,he⟩:=KH ht;obtain⟨rfl,_⟩:=hy.c6;obtain⟨vs,rfl,hl,h⟩:=hx.s3;obtain⟨v,hr,C⟩:=RQ (P:=P) he hl h (off:=k.toNat*P.cellsOf (aF P t)) (by rw[Nat.add_mul] at mP;omega);exact aX.val hm (v:=v) (by simp[Instr.index,asIntOf,run_underlying hu,h0,h1,je w (jQ he),hr]) C
theorem YF(hm:aJ P F m β w)(f:Fn){fs cs:List D}{us vs:List Value}{pre:Prop}(hl:us.length=fs.length)(mP:vs.length=cs.length)(h:∀ (k:Nat) (d:D) (v:Value),fs[k]? =some d->us[k]? =some v->R F β w d v)
 (h':∀ (k:Nat) (d:D) (v:Value),cs[k]? =some d->vs[k]? =some v->R F β w d v):
 aX P F m nx β w { pre:=pre,val:=.fn f fs cs } (do Pure.pure (Next.value (<- Instr.makeFunc f us.toArray vs.toArray))):=
 aX.val hm (v:=.func f us.toArray vs.toArray) (by simp[Instr.makeFunc]) (.fn f fs cs us vs hl mP h h')
theorem yh(b:Int)(C:IntKind)(y:Nat)(code:BoundsCode)(h0:0<=b)(h1:b<=y):(Instr.sliceBound (.int C b) y code).run P w=.ok b.toNat w:=by
 simp[Instr.sliceBound,asIntOf,h0,h1]
theorem AI(isSlice:Bool)(len cap:Nat){lo hi:Option Value}{l h:Int}(M:(lo=none/\l=0)\/∃ C,lo=some (.int C l))(J:(hi=none/\h=len)\/∃ C,hi=some (.int C h))(h0:0<=l)(h1:l<=h)(h2:h<=cap):
 (Instr.sliceBounds isSlice len cap lo hi none).run P w=.ok (l.toNat,h.toNat,cap) w:=by
 unfold Instr.sliceBounds;simp only[Sem.run_bind,Sem.run_pure,Result.andThen_ok];rcases J with⟨rfl,rfl⟩|⟨C,rfl⟩<;>rcases M with⟨rfl,rfl⟩|⟨kl,rfl⟩
 .simp
 .simp[yh (P:=P) (w:=w) l kl len _ h0 oG]
 .simp[yh (P:=P) (w:=w) h C cap _ oG oG]
 .have:=yh (P:=P) (w:=w) h C cap (if isSlice then .sliceAcap else .sliceAlen) oG oG;simp[this,yh (P:=P) (w:=w) l kl h.toNat _ h0 oG]
theorem FZ(len cap:Nat){lo:Option Value}{kh km:IntKind}{l h k:Int}(U:(lo=none/\l=0)\/∃ J,lo=some (.int J l))(h0:0<=l)(h1:l<=h)(h2:h<=k)(C:k<=cap):
 (Instr.sliceBounds true len cap lo (some (.int kh h)) (some (.int km k))).run P w=.ok (l.toNat,h.toNat,k.toNat) w:=by
 unfold Instr.sliceBounds;have e1:=yh (P:=P) (w:=w) k km cap .slice3Acap oG C;have e2:=yh (P:=P) (w:=w) h kh k.toNat .slice3B oG oG;simp only[Sem.run_bind,e1,e2,Result.andThen_ok,if_true];rcases U with⟨rfl,rfl⟩|⟨M,rfl⟩
 .simp
 .simp[yh (P:=P) (w:=w) l M h.toNat _ h0 oG]
theorem D.S4{d:D}{b:Int}(h:d.int? =some b):∃ C,d=.s (.int C b):=by
 unfold D.int? at h;split at h
 .cases h;exact⟨_,rfl⟩
 .cases h
def Ro(F:Nat->Prop)(β:aE)(w:World)(d:Option D)(v:Option Value):Prop:=
 (d=none/\v=none)\/∃ q u,d=some q/\v=some u/\R F β w q u
theorem Ro.ud{d:Option D}{v:Option Value}{C b:Int}(h:Ro F β w d v)(hb:ed d C=some b):(v=none/\b=C/\d=none)\/∃ J,v=some (.int J b)/\d.isSome=true:=by
 rcases h with⟨rfl,rfl⟩|⟨q,u,rfl,rfl,M⟩
 .simp[ed] at hb;exact .inl ⟨rfl,hb.symm,rfl⟩
 .simp only[ed] at hb;obtain⟨J,rfl⟩:=D.S4 hb;obtain⟨rfl,_⟩:=M.c6;exact .inr ⟨_,rfl,rfl⟩
theorem uq{t e:TypeId}(hu:P.underlying t=some (.slice e))(v:Value)(lo hi C:Option Value):(Instr.sliceAt t v lo hi C).run P w=(Instr.slice t v lo hi C).run P w:=by
 simp[Instr.sliceAt,run_underlying hu]
theorem RT{es:List D}{n l h sz:Nat}{a:Option Addr}{b o cap m':Nat}(h1:¬ F b)(h2:β.free b)(U:b<w.heap.size)(C:Rd F β w b o es)(X:l<=h)(hn:h<=n)(hm:h<=m')(pg:m'<=cap)(dk:cap<=maxLen)
 (ha:a=(if m'=l then some ⟨b,o,none⟩ else some ⟨b,o+l*sz,none⟩)):R F β w (.sl ((es.drop (l*sz)).take ((h - l)*sz)) (h - l)) (.slice a (h - l) (m' - l)):=by
 subst ha;by_cases iP:m'=l
 .have:h=l:=by omega
  subst this;simp only[Nat.sub_self,Nat.zero_mul,List.take_zero];exact .gy _ _
 .rw[if_neg iP];obtain⟨us,J,M⟩:=(C.drop (l*sz)).take ((h - l)*sz);exact .sl _ _ _ _ _ us h1 h2 U oG oG J M
theorem aaG(hm:aJ P F m β w){t:TypeId}{x:D}{v:Value}{lo hi mx:Option D}{xK vV WR:Option Value}{e:dy}(hx:R F β w x v)(nE:Ro F β w lo xK)(Cy:Ro F β w hi vV)(fD:Ro F β w mx WR)
 (hs:nd P m t x lo hi mx=some e) (hp:e.pre):e.aU=[]/\e.new=0/\aX P F m nx β w e (do Pure.pure (Next.value (<- Instr.sliceAt t v xK vV WR))):=by
 cases x with
 |sl es n=>
  simp only[nd] at hs;cases J:ed lo 0 with
  |none=>simp[J] at hs
  |some l=>
  cases M:ed hi n with
  |none=>simp[J,M] at hs
  |some h=>
  have X:(xK=none/\l=0)\/∃ C,xK=some (.int C l):=by
   rcases nE.ud J with⟨a,b,_⟩|⟨C,a,_⟩
   .exact .inl ⟨a,b⟩
   .exact .inr ⟨C,a⟩
  rcases fD with⟨rfl,rfl⟩|⟨q,u,rfl,rfl,hq⟩
  .simp only[J,M,aG] at hs;subst hs;obtain⟨ht,h0,h1,h2⟩:=hp;obtain⟨hu,he⟩:=kv ht
   have xh:(vV=none/\h=(n:Int))\/∃ C,vV=some (.int C h):=by
    rcases Cy.ud M with⟨a,b,_⟩|⟨C,a,_⟩
    .exact .inl ⟨a,b⟩
    .exact .inr ⟨C,a⟩
   refine⟨rfl,rfl,?_⟩;rcases hx.uT with⟨rfl,rfl,a,cap,rfl⟩|⟨b,o,cap,rfl,g1,g2,g3,g4,g5,dw⟩
   .have hb:=AI (P:=P) (w:=w) true 0 cap X (by simpa using xh) h0 h1 oG;have pz:l=0:=by omega
    have z7:h=0:=by omega
    subst pz;subst z7;refine aX.val hm (v:=.slice (if cap=0 then a else a.map (·.add (0*P.cellsOf (aF P t)))) 0 cap) ?_ (by simpa using R.gy _ _);simp[uq hu,Instr.slice,run_underlying hu,hb,je w (jQ he)]
   .have hb:=AI (P:=P) (w:=w) true n cap X xh h0 h1 oG;refine aX.val hm (v:=.slice (if cap=l.toNat then some ⟨b,o,none⟩ else some ⟨b,o+l.toNat*P.cellsOf (aF P t),none⟩) (h.toNat - l.toNat) (cap - l.toNat)) ?_ ?_
    .simp[uq hu,Instr.slice,run_underlying hu,hb,je w (jQ he),Addr.add_lit]
    .have:=RT (F:=F) (β:=β) (w:=w) (es:=es) (n:=n) (l:=l.toNat) (h:=h.toNat) (sz:=P.cellsOf (aF P t)) (cap:=cap) (m':=cap) g3 g4 g5 dw oG oG oG (aZ _) g2 rfl;rw[show(h - l).toNat=h.toNat - l.toNat from by omega];exact this
  .simp only[J,M] at hs;cases z8:q.int? with
   |none=>simp[z8] at hs
   |some k=>
   simp only[z8,aG] at hs;subst hs;obtain⟨ht,H9,h0,h1,h2,h3⟩:=hp;obtain⟨hu,he⟩:=kv ht;obtain⟨km,rfl⟩:=D.S4 z8;obtain⟨rfl,_⟩:=hq.c6
   obtain⟨kh,rfl⟩:∃ C,vV=some (.int C h):=by
    rcases Cy.ud M with⟨_,_,c⟩|⟨C,a,_⟩
    .rw[c] at H9;cases H9
    .exact⟨C,a⟩
   refine⟨rfl,rfl,?_⟩;rcases hx.uT with⟨rfl,rfl,a,cap,rfl⟩|⟨b,o,cap,rfl,g1,g2,g3,g4,g5,dw⟩
   .have hb:=FZ (P:=P) (w:=w) 0 cap (kh:=kh) (km:=km) X h0 h1 h2 oG;have pz:l=0:=by omega
    have z7:h=0:=by omega
    have ua:k=0:=by omega
    subst pz;subst z7;subst ua;refine aX.val hm (v:=.slice a 0 0) ?_ (by simpa using R.gy _ _);simp[uq hu,Instr.slice,run_underlying hu,hb,je w (jQ he)]
   .have hb:=FZ (P:=P) (w:=w) n cap (kh:=kh) (km:=km) X h0 h1 h2 oG;refine aX.val hm (v:=.slice (if k.toNat=l.toNat then some ⟨b,o,none⟩ else some ⟨b,o+l.toNat*P.cellsOf (aF P t),none⟩) (h.toNat - l.toNat) (k.toNat - l.toNat)) ?_ ?_
    .simp[uq hu,Instr.slice,run_underlying hu,hb,je w (jQ he),Addr.add_lit]
    .have:=RT (F:=F) (β:=β) (w:=w) (es:=es) (n:=n) (l:=l.toNat) (h:=h.toNat) (sz:=P.cellsOf (aF P t)) (cap:=cap) (m':=k.toNat) g3 g4 g5 dw oG oG oG oG g2 rfl;rw[show(h - l).toNat=h.toNat - l.toNat from by omega];exact this
 |rs i off n=>
  simp only[nd] at hs;cases U:m i with
  |none=>simp[U] at hs
  |some r=>
  cases r with
  |map es=>simp[U] at hs
  |raw es=>simp[U] at hs
  |bs u x T=>simp[U] at hs
  |iK f r=>simp[U] at hs
  |cells cs ee=>
  cases J:ed lo 0 with
  |none=>simp[U,J] at hs
  |some l=>
  cases M:ed hi n with
  |none=>simp[U,J,M] at hs
  |some h=>
  rcases fD with⟨rfl,rfl⟩|⟨q,u,rfl,rfl,hq⟩
  .simp only[U,J,M,aG] at hs;subst hs;obtain⟨⟨ht,bD⟩,h0,h1,h2⟩:=hp;obtain⟨hu,he⟩:=kv ht
   have X:(xK=none/\l=0)\/∃ C,xK=some (.int C l):=by
    rcases nE.ud J with⟨a,b,_⟩|⟨C,a,_⟩
    .exact .inl ⟨a,b⟩
    .exact .inr ⟨C,a⟩
   have xh:(vV=none/\h=(n:Int))\/∃ C,vV=some (.int C h):=by
    rcases Cy.ud M with⟨a,b,_⟩|⟨C,a,_⟩
    .exact .inl ⟨a,b⟩
    .exact .inr ⟨C,a⟩
   refine⟨rfl,rfl,?_⟩;rcases hx.D1 hm U with⟨_,rfl,rfl,iF,a,rfl⟩|⟨b,o,room,hβ,ap,qI⟩
   .have hb:=AI (P:=P) (w:=w) true 0 0 X (by simpa using xh) h0 h1 oG;have pz:l=0:=by omega
    have z7:h=0:=by omega
    subst pz;subst z7;refine aX.val hm (v:=.slice a 0 0) ?_ (by simpa using R.jr i a iF);simp[uq hu,Instr.slice,run_underlying hu,hb,je w (jQ he)]
   .rcases qI with⟨rfl,a,rfl⟩|⟨cap,rfl,g1,g2,g3,g4⟩
    .have hb:=AI (P:=P) (w:=w) true 0 0 X (by simpa using xh) h0 h1 oG;have pz:l=0:=by omega
     have z7:h=0:=by omega
     subst pz;subst z7;refine aX.val hm (v:=.slice a 0 0) ?_ (by simpa using R.j9 i off a b o _ room _ hβ);simp[uq hu,Instr.slice,run_underlying hu,hb,je w (jQ he)]
    .have hb:=AI (P:=P) (w:=w) true n cap X xh h0 h1 oG;refine aX.val hm (v:=.slice (if cap=l.toNat then some ⟨b,o+off,none⟩ else some ⟨b,o+off+l.toNat*P.cellsOf (aF P t),none⟩) (h.toNat - l.toNat) (cap - l.toNat)) ?_ ?_
     .simp[uq hu,Instr.slice,run_underlying hu,hb,je w (jQ he),Addr.add_lit]
     .rw[show(h - l).toNat=h.toNat - l.toNat from by omega];by_cases cR:cap=l.toNat
      .have:h.toNat=l.toNat:=by omega
       rw[this,cR,Nat.sub_self];exact .j9 i _ _ b o _ room _ hβ
      .rw[if_neg cR,Nat.add_assoc];have hmul:(cap - l.toNat)*P.cellsOf ee+l.toNat*P.cellsOf ee=cap*P.cellsOf ee:=by rw[<- Nat.add_mul];congr 1;omega
       exact .rs i _ _ _ b o _ room _ hβ oG oG (by rw[<- bD];omega) (by rw[<- bD];omega)
  .simp only[U,J,M,reduceCtorEq] at hs
 |s x=>
  cases x with
  |string b=>
   simp only[nd] at hs;cases J:ed lo 0 with
   |none=>simp[J] at hs
   |some l=>
   cases M:ed hi b.size with
   |none=>simp[J,M] at hs
   |some h=>
   rcases fD with⟨rfl,rfl⟩|⟨q,u,rfl,rfl,hq⟩
   .simp only[J,M,aG] at hs;subst hs;obtain⟨ht,h0,h1,h2⟩:=hp;have hu:=wy ht;obtain⟨rfl,_⟩:=hx.c6
    have X:(xK=none/\l=0)\/∃ C,xK=some (.int C l):=by
     rcases nE.ud J with⟨a,b,_⟩|⟨C,a,_⟩
     .exact .inl ⟨a,b⟩
     .exact .inr ⟨C,a⟩
    have xh:(vV=none/\h=(b.size:Int))\/∃ C,vV=some (.int C h):=by
     rcases Cy.ud M with⟨a,b,_⟩|⟨C,a,_⟩
     .exact .inl ⟨a,b⟩
     .exact .inr ⟨C,a⟩
    have hb:=AI (P:=P) (w:=w) false b.size b.size X xh h0 h1 oG;refine⟨rfl,rfl,aX.val hm (v:=.string (b.extract l.toNat h.toNat)) ?_ (.s _ rfl)⟩;simp[Instr.sliceAt,Instr.slice,run_underlying hu,hb]
   .simp only[J,M,reduceCtorEq] at hs
  |_=>simp[nd] at hs
 |_=>simp[nd] at hs
end
section
variable{P:Program}{F:Nat->Prop}{m:Mem}{nx:Nat}{β:aE}{w w':World}
theorem AR(hs:w.heap.size<=w'.heap.size)(h:∀ b,b<w.heap.size->w'.heap[b]? =w.heap[b]?)(C:Out w w':=by first|exact⟨rfl,rfl⟩|assumption):Step β w β w':=
 ⟨hs,fun b hb hf=>⟨h b hb,hf⟩,fun _ _ hp=>.inl hp,C⟩
theorem aJ.ext(hm:aJ P F m β w)(hs:w.heap.size<=w'.heap.size)(h:∀ b,b<w.heap.size->w'.heap[b]? =w.heap[b]?)(J:Out w w':=by first|exact⟨rfl,rfl⟩|assumption):aJ P F m β w':=
 ⟨fun i r hi=>by
  obtain⟨p,hp,ap⟩:=hm.row i r hi;exact⟨p,hp,ap.step (AR hs h) fun b hb=>h b (hm.lt i p b hp hb)⟩,
  hm.inj,fun i p b hp hb=>Nat.lt_of_lt_of_le (hm.lt i p b hp hb) hs,hm.nf,hm.fb.next (fun b hb=>Nat.lt_of_lt_of_le (hm.fb.lt b hb) hs) (fun _ h=>h) fun t _ C=>h _ (hm.fb.lt _ C)⟩
theorem aJ.drew(hm:aJ P F m β w):aJ P F m β w.drew:=hm.ext (aZ _) (fun _ _=>rfl)
theorem QW:Step β w β w.drew:=AR (aZ _) (fun _ _=>rfl)
theorem aaH(hm:aJ P F m β w){src dst e:TypeId}{b:ByteArray}{x:Value}{pre:Prop}(hx:R F β w (.s (.string b)) x)(hs:fW P src=true)(hd:P.underlying dst=some (.slice e))(he:P.underlying e=some (.int .u8))(dk:b.size<=maxLen):
 aX P F m nx β w { pre:=pre,val:=.sl (b.data.toList.map fun c=>.s (.int .u8 c.toNat)) b.size } (do Pure.pure (Next.value (<- convert src dst x))):=by
 obtain⟨rfl,_⟩:=hx.c6;have hu:=wy hs;generalize pg:(Question.appendCap b.size 0 e).cut (w.tape w.drawn (.appendCap b.size 0 e))=cap
 have J:b.size<=cap/\cap<=maxLen:=by
  have h1:=grownCap_ge w b.size 0 e;have h2:=grownCap_le_maxLen w b.size 0 e dk;unfold grownCap at h1 h2;rw[pg] at h1 h2;exact⟨h1,h2⟩
 generalize hc:b.data.map (fun c=>Value.int .u8 c.toNat)++Array.replicate (cap - b.size) (Value.int .u8 0)=cells
 have U:(convert src dst (.string b)).run P w=.ok (.slice (some ⟨w.heap.size,0,none⟩) b.size cap) ((w.drew.alloc (.cells cells e)).freeze ⟨w.heap.size,cells.size,none⟩ 1):=by
  simp only[convert,Sem.run_bind,run_underlying hu,run_underlying hd,run_underlying he,Result.andThen_ok];unfold Conv.stringToBytes;simp only[Sem.run_bind,run_choose,Question.forced,Bool.false_eq_true,if_false,Result.andThen_ok,pg,hc];simp only[newRow,Sem.run_bind,run_newObj,Result.andThen_ok,Sem.run_pure,markStringish];simp[World.shape?,freeze,Sem.run];rfl
 have H8:((w.drew.alloc (.cells cells e)).freeze ⟨w.heap.size,cells.size,none⟩ 1).heap.size=w.heap.size+1:=by simp[World.freeze]
 have hold:∀ k,k<w.heap.size->((w.drew.alloc (.cells cells e)).freeze ⟨w.heap.size,cells.size,none⟩ 1).heap[k]? =w.heap[k]? :=fun k hk=>by
  simp only[World.freeze,Nat.one_ne_zero,if_false,Array.getElem?_modify,if_neg (show ¬ w.heap.size=k by omega)];exact heap_alloc_old w.drew _ hk
 have M:∀ k:Nat,((w.drew.alloc (.cells cells e)).freeze ⟨w.heap.size,cells.size,none⟩ 1).cell? ⟨w.heap.size,k,none⟩=cells[k]? :=fun k=>by
  have:=heap_alloc_new w.drew (.cells cells e);simp only[World.size_drew] at this;simp only[World.cell?,World.freeze,Nat.one_ne_zero,if_false,Array.getElem?_modify,if_true,this,Option.map_some,Option.isSome_none,Bool.false_eq_true]
 refine⟨_,_,_,β,by simp only[Sem.run_bind,U,Result.andThen_ok,Sem.run_pure];rfl,.inl rfl,?_,hm.ext oG hold,AR oG hold,fun _ h _=>h⟩;have hlen:b.data.toList.length=b.size:=by simp
 refine .sl _ _ _ _ _ (fun k=>.int .u8 (b.data.toList.getD k 0).toNat) (fun X=>?_) (fun i p hp e=>?_) oG J.1 J.2 (fun k hk=>?_) (fun k d hk=>?_)
 .have:=hm.fb.lt _ X;omega
 .have:=hm.lt i p _ hp e;omega
 .rw[Nat.zero_add,M];simp at hk;refine⟨?_,rfl⟩;rw[<- hc,Array.getElem?_append_left (by simpa using hk)];simp[hk]
 .rw[List.getElem?_map] at hk;cases C:b.data.toList[k]? with
  |none=>simp[C] at hk
  |some c=>
   simp[C] at hk;subst hk;have:b.data.toList.getD k 0=c:=by simp only[dF,C,Option.getD_some]
   simp only[this];exact .s _ rfl
theorem ad'(hm:aJ P F m β w){ts:Array TypeId}{d:D}{x:Value}{e:dy}{ty:TypeId}(M:ts.size≠0)(hx:R F β w d x)(h:ot P m (ts.getD 0 0) d=some e)(hp:e.pre):
 e.aU=[]/\e.new=0/\aX P F m nx β w e (do Pure.pure (Next.value (<- Builtin.len_ ts ty #[x]))):=by
 obtain⟨t,C⟩:∃ t,ts[0]? =some t:=⟨ts[0]'oG,oS⟩
 have ht:ts.getD 0 0=t:=by simp[Array.getD_eq_getD_getElem?,C]
 rw[ht] at h
 have sl:∀ {a:Option Addr} {k c:Nat},bi P t=true->x=.slice a k c->(Builtin.len_ ts ty #[x]).run P w=.ok (.int .i64 k) w:=by
  rintro a k c hs rfl;simp[Builtin.len_,C,run_underlying (kv hs).1,goInt]
 cases d with
 |sl es n=>
  simp only[ot,aG] at h;subst h;refine⟨rfl,rfl,aX.val hm (v:=.int .i64 n) ?_ (.s _ rfl)⟩;rcases hx.uT with⟨_,rfl,a,cap,hv⟩|⟨b,o,cap,hv,_⟩<;>simp only[Sem.run_bind,sl hp hv,Result.andThen_ok,Sem.run_pure]
 |z=>
  simp only[ot,aG] at h;subst h;refine⟨rfl,rfl,aX.val hm (v:=.int .i64 0) ?_ (.s _ rfl)⟩;obtain⟨a,hv⟩:=hx.u6;simp only[Sem.run_bind,sl hp hv,Result.andThen_ok,Sem.run_pure];rfl
 |rs i off n=>
  simp only[ot] at h;cases hi:m i with
  |none=>simp[hi] at h
  |some r=>
  simp only[hi,aG] at h;subst h;obtain⟨p,J,ap⟩:=hm.row i _ hi;obtain⟨a,cap,hv⟩:=hx.acj ⟨p,J,RS ap⟩;refine⟨rfl,rfl,aX.val hm (v:=.int .i64 n) ?_ (.s _ rfl)⟩;simp only[Sem.run_bind,sl hp hv,Result.andThen_ok,Sem.run_pure]
 |agg cs=>
  simp only[ot,aG] at h;subst h;refine⟨rfl,rfl,aX.val hm (v:=.int .i64 (pi P t)) ?_ (.s _ rfl)⟩;simp[Builtin.len_,C,run_underlying (KH hp).1,goInt]
 |s v=>
  cases v with
  |string b=>
   simp only[ot,aG] at h;subst h;obtain⟨rfl,_⟩:=hx.c6;refine⟨rfl,rfl,aX.val hm (v:=.int .i64 b.size) ?_ (.s _ rfl)⟩;simp[Builtin.len_,C,run_underlying (wy hp),goInt]
  |_=>simp[ot] at h
 |_=>simp[ot] at h
theorem S5(hm:aJ P F m β w){ts:Array TypeId}{ty:TypeId}{k:IntKind}{a b:Int}{x y:Value}{pre:Prop}(hx:R F β w (.s (.int k a)) x)(hy:R F β w (.s (.int k b)) y):
 aX P F m nx β w { pre:=pre,val:=.s (.int k (if b<a then b else a)) } (do Pure.pure (Next.value (<- Builtin.min_ ts ty #[x,y]))):=by
 obtain⟨rfl,_⟩:=hx.c6;obtain⟨rfl,_⟩:=hy.c6;exact aX.val hm (v:=.int k (if b<a then b else a)) (by simp[Builtin.min_,Builtin.min2]) (.s _ rfl)
theorem aaI(hm:aJ P F m β w){ts:Array TypeId}{ty:TypeId}{i off n:Nat}{x:Value}{cs:List D}{e:TypeId}{pre:Prop}{rd:List Nat}(jv:ts.size≠0)(hx:R F β w (.rs i off n) x)(hi:m i=some (.cells cs e))(ht:bi P (ts.getD 0 0)=true)
 (hl:off+n*P.cellsOf e<=cs.length) (he:e=aF P (ts.getD 0 0)):
 aX P F m nx β w { pre:=pre,val:=.aM [],aU:=[(i,some (.cells (gW cs off (dB n (a8 P e))) e))],rd:=rd } (do Pure.pure (Next.value (<- Builtin.clear_ ts ty #[x]))):=by
 obtain⟨t,sH⟩:∃ t,ts[0]? =some t:=⟨ts[0]'oG,oS⟩
 have U:ts.getD 0 0=t:=by simp[Array.getD_eq_getD_getElem?,sH]
 rw[U] at ht he;obtain⟨hu,bB⟩:=kv ht;rw[<- he] at hu bB;obtain⟨z,hz,C,h3,h4⟩:=AD (P:=P) w bB;have X:(a8 P e).length=P.cellsOf e:=by rw[h3];simp[C]
 have self:gW cs off (dB 0 (a8 P e))=cs:=by
  rw[Ka (by simp[dB];omega)];simp[dB]
 have H0:up m i (some (.cells cs e))=m:=by
  funext j;by_cases hj:j=i
  .subst hj;rw[aj,hi]
  .rw[aA _ _ hj]
 have zero:n=0->(∃ a c,x=.slice a 0 c)->aX P F m nx β w { pre:=pre,val:=.aM [],aU:=[(i,some (.cells (gW cs off (dB n (a8 P e))) e))],rd:=rd } (do Pure.pure (Next.value (<- Builtin.clear_ ts ty #[x]))):=by
  rintro rfl ⟨a,c,rfl⟩;refine⟨.value (.tuple #[]),.tuple #[],w,β,?_,.inl rfl,.aM [] [] rfl oS,?_,Step.refl β w,fun _ h _=>h⟩
  .cases a<;>simp[Builtin.clear_,sH,run_underlying hu]
  .simp only[cK,self,H0];exact hm
 rcases hx.D1 hm hi with⟨_,rfl,rfl,iF,a,rfl⟩|⟨b,o,room,hβ,ap,qI⟩
 .exact zero rfl ⟨a,0,rfl⟩
 .rcases qI with⟨rfl,a,rfl⟩|⟨cap,rfl,g1,g2,g3,g4⟩
  .exact zero rfl ⟨a,0,rfl⟩
  .cases n with
   |zero=>exact zero rfl ⟨_,cap,rfl⟩
   |succ n=>
    have J:=Lc (F:=F) (β:=β) (w:=w) (P:=P) C h3 h4 (n+1) ((n+1)*P.cellsOf e) rfl z.cells (fun _=>rfl)
    obtain⟨w',dc,fJ,hs⟩:=PN (P:=P) hm hβ ap (off:=off) (ds:=dB (n+1) (a8 P e)) (vs:=(Builtin.zeroCells z.cells (n+1)).toList) (by
     have:=J.1
     simpa[Builtin.zeroCells,C] using this) (by rw[CZ,X];exact hl) (fun u hu=>by
     have M:(Builtin.zeroCells z.cells (n+1)).toList=((Array.range ((n+1)*P.cellsOf e)).map (z.cells[· % z.cells.size]!)).toList:=by simp[Builtin.zeroCells,C]
     rw[M] at hu;obtain⟨k,hk⟩:=dN hu;have af:=(bI.1 hk).1;have:k<(dB (n+1) (a8 P e)).length:=by rw[<- J.1];exact af
     exact(J.2 k _ u (by simp[this];rfl) hk).2) (fun k d u hk hu=>by
     have M:(Builtin.zeroCells z.cells (n+1)).toList=((Array.range ((n+1)*P.cellsOf e)).map (z.cells[· % z.cells.size]!)).toList:=by simp[Builtin.zeroCells,C]
     rw[M] at hu
     exact(J.2 k d u hk hu).1)
    refine⟨.value (.tuple #[]),.tuple #[],w',β,?_,.inl rfl,.aM [] [] rfl oS,fJ,hs,fun _ h _=>h⟩;simp[Builtin.clear_,sH,run_underlying hu,hz,dc]
theorem Yg(hm:aJ P F m β w){cs:List D}{x:Value}{pre:Prop}(hx:R F β w (.pt cs) x):∃ a,x=.pointer (some a)/\aX P F m nx β w { pre:=pre,val:=.pt cs } (Pure.pure (Next.value x)):=by
 obtain⟨b,o,rfl,_⟩:=hx.Hy;exact⟨_,rfl,aX.val hm rfl hx⟩
theorem Yh(hm:aJ P F m β w){i off:Nat}{x:Value}{pre:Prop}{rd:List Nat}{r:Row}(hx:R F β w (.rp i off) x)(hi:m i=some r):∃ a,x=.pointer (some a)/\aX P F m nx β w { pre:=pre,val:=.rp i off,rd:=rd } (Pure.pure (Next.value x)):=by
 obtain⟨p,hp,ap⟩:=hm.row i _ hi;obtain⟨b,bo,len,room,sz,C,rfl⟩:=hx.LO hp ap;exact⟨_,rfl,aX.val hm rfl hx⟩
theorem Y6(hm:aJ P F m β w)(hn:β nx=none){t:TypeId}{pre:Prop}:
 aX P F m nx β w { pre:=pre,val:=.mp nx,aU:=[(nx,some (.map []))],new:=1 } (do Pure.pure (Next.value (<- Instr.makeMap t none))):=by
 have hp:∀ b,(Pl.map w.heap.size).bF=some b->b=w.heap.size:=fun b hb=>by simp[Pl.bF] at hb;exact hb.symm
 refine⟨.value (.map (some w.heap.size)),_,w.alloc (.map #[] 0),up β nx (some (.map w.heap.size)),?_,.inl rfl,.mp nx _ (aj _ _ _),hm.alloc hn _ _ _ hp ?_,AH hm _ hn _ hp,wz⟩
 .simp[Instr.makeMap]
 .exact .map [] w.heap.size #[] 0 (heap_alloc_new w _) rfl oS oS
theorem ack(hm:aJ P F m β w){t:Bool}{X M U:Value}{C J:D}{pre:Prop}(hc:X=.bool t)(ha:R F β w C M)(hb:R F β w J U)(h1:t=true->C.ask/\C.core.fi.isSome=true)(h2:t=false->J.ask/\J.core.fi.isSome=true):
 aX P F m nx β w { pre:=pre,val:=.s (.bool (if t then C.core.fi.getD false else J.core.fi.getD false)) } (do Pure.pure (Next.value (if<- asBool X then M else U))):=by
 subst hc
 have inv:∀ {d:D} {v:Value},R F β w d v->d.ask/\d.core.fi.isSome=true->v=.bool (d.core.fi.getD false):=fun {d v} h hk=>by
  have:=h.uF d hk.1;have hb:=hk.2;unfold D.fi at hb ⊢;split at hb
  .rename_i b he;rw[he] at this;rw[this.c6.1];rfl
  .cases hb
 cases t with
 |true=>
  have:=inv ha (h1 rfl);rw[this];exact aX.val hm (v:=.bool (C.core.fi.getD false)) (by simp[asBool]) (.s _ rfl)
 |false=>
  have:=inv hb (h2 rfl);rw[this];exact aX.val hm (v:=.bool (J.core.fi.getD false)) (by simp[asBool]) (.s _ rfl)
end
section
variable{P:Program}{F:Nat->Prop}{m:Mem}{nx:Nat}{β:aE}{w w':World}
theorem Rd.B0{b o:Nat}{cs:List D}(h:Rd F β w b o cs):∃ c:List Value,Rl F β w cs c/\∀ (j:Nat) (u:Value),c[j]? =some u->w.cell? ((⟨b,o,none⟩:Addr).add j)=some u:=by
 obtain⟨us,h1,h2⟩:=h;refine⟨(List.range cs.length).map us,⟨oS,fun k d u hk hu=>?_⟩,fun j u hu=>?_⟩
 .have af:k<cs.length:=(bI.1 hk).1;simp[af] at hu;subst hu;exact⟨h2 k d hk,(h1 k af).2⟩
 .have af:j<cs.length:=by
   have:=(bI.1 hu).1;simpa using this
  simp[af] at hu;subst hu;rw[Addr.add_lit];exact(h1 j af).1
theorem ZH(hm:aJ P F m β w){sz:Nat}{x:D}{v:Value}{p:Prop}{rd:List Nat}{k:Nat}{news:List D}(hx:R F β w x v)(h:jP m sz x=some (p,rd,k,news))(hp:p)
 (J:∀ i off n cs e,x=.rs i off n->m i=some (.cells cs e)->n=0\/True):
 ∃ a cap c,v=.slice a k cap/\Rl F β w news c/\c.length=k*sz/\(∀ ad,a=some ad->∀ (j:Nat) (u:Value),c[j]? =some u->w.cell? (ad.add j)=some u)/\(a=none->c=[]/\k*sz=0):=by
 cases x with
 |sl es n=>
  simp only[jP,aG,bR] at h;obtain⟨rfl,rfl,rfl,rfl⟩:=h;rcases hx.uT with⟨rfl,rfl,a,cap,rfl⟩|⟨b,o,cap,rfl,_,_,_,_,_,M⟩
  .exact⟨a,cap,[],rfl,⟨oS,oS⟩,oS,oS,oS⟩
  .obtain⟨c,h1,h2⟩:=(M.take (n*sz)).B0;refine⟨_,cap,c,rfl,h1,?_,fun ad C=>by cases C;exact h2,oS⟩;rw[h1.1,List.length_take];exact Nat.min_eq_left hp
 |z=>
  simp only[jP,aG,bR] at h;obtain⟨rfl,rfl,rfl,rfl⟩:=h;obtain⟨a,rfl⟩:=hx.u6;exact⟨a,0,[],rfl,⟨oS,oS⟩,oS,oS,oS⟩
 |rs i off n=>
  simp only[jP] at h;cases hi:m i with
  |none=>simp[hi] at h
  |some r=>
  cases r with
  |map es=>simp[hi] at h
  |raw es=>simp[hi] at h
  |bs u x T=>simp[hi] at h
  |iK f r=>simp[hi] at h
  |cells cs e=>
  simp only[hi,aG,bR] at h;obtain⟨rfl,rfl,rfl,rfl⟩:=h;rcases hx.D1 hm hi with⟨rfl,rfl,rfl,iF,a,rfl⟩|⟨b,o,room,hβ,ap,U⟩
  .exact⟨a,0,[],rfl,⟨oS,oS⟩,oS,oS,oS⟩
  .rcases U with⟨rfl,a,rfl⟩|⟨cap,rfl,X,g2,g3,g4⟩
   .exact⟨a,0,[],rfl,⟨oS,oS⟩,oS,oS,oS⟩
   .obtain⟨c,h1,h2⟩:=((ap.rd.1.drop off).take (n*sz)).B0;refine⟨_,cap,c,rfl,h1,?_,fun ad C=>by cases C;exact h2,oS⟩;rw[h1.1];simp;omega
 |_=>simp[jP] at h
theorem Yi(t ty e:TypeId)(i:TypeInfo)(ht:P.underlying t=some (.slice e))(hi:P.info? e=some i)(a0 a:Option Addr)(n cap c:Nat)(C:n<=cap):
 (Builtin.append_ #[t,t] ty #[.slice a0 n cap,.slice a 0 c]).run P w=.ok (.slice a0 n cap) w:=by
 cases a0<;>cases a<;>simp[Builtin.append_,run_underlying ht,sizeOf,typeInfo,hi,Builtin.lenOf,C,Builtin.firstCells,loadCells,loadCellsFrom,storeCells]
theorem Ym(t ty e:TypeId)(i:TypeInfo)(ht:P.underlying t=some (.slice e))(hi:P.info? e=some i)(g o n cap:Nat)(cur:Array Value)(hg:w.heap[g]? =some (.cells cur e (0,0)))
 (a:Addr) (k c:Nat) (news:List Value) (hl:news.length=k*i.size) (U:∀ j u,news[j]? =some u->w.cell? (a.add j)=some u) (h1:∀ u∈news,u.oneCell'=true) (M:n+k<=cap) (J:o+n*i.size+news.length<=cur.size):
 (Builtin.append_ #[t,t] ty #[.slice (some ⟨g,o,none⟩) n cap,.slice (some a) k c]).run P w=
  .ok (.slice (some ⟨g,o,none⟩) (n+k) cap) (w.setRow g (cur.toList.take (o+n*i.size)++news++cur.toList.drop (o+n*i.size+news.length)).toArray):=by
 have hf:=run_firstCells_some (P:=P) w i.size k a k c news hl U;have C:=run_storeCells_at P g (o+n*i.size) e news 0 cur w hg (by simpa using J) h1;simp only[Nat.add_zero] at C;simp[Builtin.append_,run_underlying ht,sizeOf,typeInfo,hi,Builtin.lenOf,M,hf,Addr.add_lit,C]
theorem Yn(t ty e:TypeId)(i:TypeInfo)(z:Value)(ht:P.underlying t=some (.slice e))(hi:P.info? e=some i)(hz:i.zero=some z)(a0:Option Addr)(n cap:Nat)(gu:List Value)(C:gu.length=n*i.size)
 (holds:∀ ad,a0=some ad->∀ j v,gu[j]? =some v->w.cell? (ad.add j)=some v) (h0:a0=none->n=0/\cap=0) (U:n<=cap)
 (a:Addr) (k c:Nat) (news:List Value) (hl:news.length=k*i.size) (J:∀ j v,news[j]? =some v->w.cell? (a.add j)=some v) (hg:cap<n+k) (M:n+k<=maxLen) (hb:(n+k)*i.bytes<=140737488355328):
 (Builtin.append_ #[t,t] ty #[.slice a0 n cap,.slice (some a) k c]).run P w=
  .ok (.slice (some ⟨w.heap.size,0,none⟩) (n+k) (grownCap w (n+k) cap e)) (w.drew.alloc (.cells (gu.toArray++news.toArray++Builtin.zeroCells z.cells (grownCap w (n+k) cap e - (n+k))) e)):=by
 simp only[maxLen] at M;cases a0 with
 |some b=>exact run_append_grow w t ty e i z ht hi hz b n cap gu C (holds b rfl) a k c news hl J hg oG (growslice_fits oG hb)
 |none=>
  obtain⟨rfl,rfl⟩:=h0 rfl;have:gu=[]:=List.eq_nil_of_length_eq_zero (by simpa using C);subst this;have:=run_append_nil (P:=P) w t ty e i z ht hi hz a k c news hl J oG oG (by simp at hb;omega);simpa using this
theorem Yw(z:Array Value)(n:Nat):(Builtin.zeroCells z n).toList.length=n*z.size:=by simp[Builtin.zeroCells]
theorem Rl.append{c1 c2:List D}{C J:List Value}(h1:Rl F β w c1 C)(h2:Rl F β w c2 J):Rl F β w (c1++c2) (C++J):=by
 refine⟨by simp[h1.1,h2.1],fun k d u hk hu=>?_⟩;by_cases af:k<c1.length
 .rw[List.getElem?_append_left af] at hk;rw[List.getElem?_append_left (by rw[h1.1];exact af)] at hu;exact h1.2 k d u hk hu
 .rw[List.getElem?_append_right oG] at hk;rw[List.getElem?_append_right (by rw[h1.1];omega),h1.1] at hu;exact h2.2 _ d u hk hu
theorem Rl.step{cs:List D}{c:List Value}{β':aE}(h:Rl F β w cs c)(hs:Step β w β' w'):Rl F β' w' cs c:=⟨h.1,fun k d u hk hu=>⟨(h.2 k d u hk hu).1.step hs,(h.2 k d u hk hu).2⟩⟩
theorem aaJ(hm:aJ P F m β w)(hn:β nx=none){e:TypeId}{z:Value}(M:z.cells.size=P.cellsOf e){cs:List D}{c:List Value}(hc:Rl F β w cs c){n N:Nat}(hlen:cs.length=n*P.cellsOf e)(J:n<=N)(dk:N<=maxLen):
 ∃ β',aJ P F (up m nx (some (.cells cs e))) β' (w.alloc (.cells (c.toArray++Builtin.zeroCells z.cells (N - n)) e))/\Step β w β' (w.alloc (.cells (c.toArray++Builtin.zeroCells z.cells (N - n)) e))/\
  R F β' (w.alloc (.cells (c.toArray++Builtin.zeroCells z.cells (N - n)) e)) (.rs nx 0 n) (.slice (some ⟨w.heap.size,0,none⟩) n N)/\∀ i,i≠nx->β' i=β i:=by
 obtain⟨h2,C⟩:=DI hm hn (cs:=cs) (c:=c) (e:=e) hc.1 hc.2 (Builtin.zeroCells z.cells (N - n)).toList
 have e1:(c++(Builtin.zeroCells z.cells (N - n)).toList).toArray=c.toArray++Builtin.zeroCells z.cells (N - n):=by
  apply Array.ext';simp
 rw[e1] at h2 C;have e2:n*P.cellsOf e+(N - n)*P.cellsOf e=N*P.cellsOf e:=by rw[<- Nat.add_mul];congr 1;omega
 have e3:=Yw z.cells (N - n);rw[M] at e3;refine⟨_,h2,C,?_,fun i hi=>aA _ _ hi⟩;exact .rs nx 0 n N w.heap.size 0 _ _ _ (aj _ _ _) J dk oG oG
theorem S6(hm:aJ P F m β w)(hn:β nx=none)(e:TypeId):aJ P F (up m nx (some (.cells [] e))) (up β nx (some .nil)) w/\Step β w (up β nx (some .nil)) w:=by
 have hs:Step β w (up β nx (some .nil)) w:=by
  refine⟨aZ _,fun b hb hf=>⟨rfl,fun i q hq=>?_⟩,fun i q hq=>.inl ?_,rfl,rfl⟩
  .by_cases hi:i=nx
   .subst hi;rw[aj] at hq;cases hq;simp[Pl.bF]
   .rw[aA _ _ hi] at hq;exact hf i q hq
  .rw[aA _ _ (fun e=>by rw[e,hn] at hq;cases hq)];exact hq
 have sub:∀ i q b,up β nx (some .nil) i=some q->q.bF=some b->β i=some q:=fun i q b hq e=>by
  by_cases hi:i=nx
  .subst hi;rw[aj] at hq;cases hq;simp[Pl.bF] at e
  .rw[aA _ _ hi] at hq;exact hq
 refine⟨⟨fun i r hi=>?_,fun i j p q b hp hq e J=>hm.inj i j p q b (sub i p b hp e) (sub j q b hq J) e J,fun i p b hp e=>hm.lt i p b (sub i p b hp e) e,fun i p b hp e=>hm.nf i p b (sub i p b hp e) e,hm.fb⟩,hs⟩;by_cases C:i=nx
 .subst C;rw[aj] at hi;cases hi;exact⟨.nil,aj _ _ _,.nil e⟩
 .rw[aA _ _ C] at hi;obtain⟨p,hp,ap⟩:=hm.row i r hi;exact⟨p,by rw[aA _ _ C];exact hp,ap.step hs fun _ _=>rfl⟩
structure Src(P:Program)(w:World)(t u ty E:TypeId)(vx:Value)(k:Nat)(c:List Value):Prop where
 len:c.length=k*P.cellsOf E
 zero:k=0->∀ a0 n cap,n<=cap->(Builtin.append_ #[t,u] ty #[.slice a0 n cap,vx]).run P w=.ok (.slice a0 n cap) w
 new:0<k->∀ a0 n cap (gu:List Value) z,(P.info? E).bind (·.zero)=some z->gu.length=n*P.cellsOf E->(∀ ad,a0=some ad->∀ j v,gu[j]? =some v->w.cell? (ad.add j)=some v)->(a0=none->n=0/\cap=0)->n<=cap->cap<n+k->n+k<=maxLen->(n+k)*P.bytesOf E<=140737488355328->
  (Builtin.append_ #[t,u] ty #[.slice a0 n cap,vx]).run P w=.ok (.slice (some ⟨w.heap.size,0,none⟩) (n+k) (grownCap w (n+k) cap E)) (w.drew.alloc (.cells (gu.toArray++c.toArray++Builtin.zeroCells z.cells (grownCap w (n+k) cap E - (n+k))) E))
 fit:0<k->∀ g o n cap (cur:Array Value),w.heap[g]? =some (.cells cur E (0,0))->n+k<=cap->o+n*P.cellsOf E+c.length<=cur.size->(∀ v∈c,v.oneCell'=true)->
  (Builtin.append_ #[t,u] ty #[.slice (some ⟨g,o,none⟩) n cap,vx]).run P w=.ok (.slice (some ⟨g,o,none⟩) (n+k) cap) (w.setRow g (cur.toList.take (o+n*P.cellsOf E)++c++cur.toList.drop (o+n*P.cellsOf E+c.length)).toArray)
theorem J'(hm:aJ P F m β w){t ty:TypeId}{x:D}{vx:Value}{p:Prop}{rd:List Nat}{k:Nat}{news:List D}(hx:R F β w x vx)(h:jP m (P.cellsOf (aF P t)) x=some (p,rd,k,news))(hp:p)(ht:bi P t=true)(j5:0<P.cellsOf (aF P t)):
 ∃ c,Rl F β w news c/\Src P w t t ty (aF P t) vx k c:=by
 obtain⟨hu,bB⟩:=kv ht;obtain⟨i,d,z,hi,hd,hz,_,jM,_,bD,hb,_⟩:=rF bB;obtain⟨a,C,c,rfl,cR,X,gD,J⟩:=ZH hm hx h hp (fun _ _ _ _ _ _ _=>.inr trivial)
 have S7:0<k->∃ ad,a=some ad:=fun hk=>by
  cases a with
  |none=>have:=(J rfl).2;have:=Nat.mul_pos hk j5;omega
  |some ad=>exact⟨ad,rfl⟩
 refine⟨c,cR,X,fun hk a0 n cap M=>?_,fun hk a0 n cap gu z' U sx uU h0 kH hg dk kJ=>?_,fun hk g o n cap cur M1 vf EJ mM=>?_⟩
 .subst hk;exact Yi (P:=P) (w:=w) t ty _ i hu hi a0 a n cap C M
 .obtain⟨ad,rfl⟩:=S7 hk;simp only[hi,Option.bind_some] at U;rw[hz] at U;cases U;exact Yn (P:=P) (w:=w) t ty _ i z hu hi hz a0 n cap gu (by rw[bD];exact sx) uU h0 kH ad k C c (by rw[bD];exact X) (gD ad rfl) hg dk (by rw[hb];exact kJ)
 .obtain⟨ad,rfl⟩:=S7 hk;have dn:=Ym (P:=P) (w:=w) t ty _ i hu hi g o n cap cur M1 ad k C c (by rw[bD];exact X) (gD ad rfl) mM vf (by rw[bD];omega);rw[bD] at dn;exact dn
theorem CY(hm:aJ P F m β w)(hn:β nx=none){t u ty E:TypeId}{vs vx:Value}{k:Nat}{news:List D}{c:List Value}(cR:Rl F β w news c)(X:Src P w t u ty E vx k c)(bB:aI P E=true)(j5:0<P.cellsOf E){pre:Prop}{rd:List Nat}:
 (R F β w .z vs->k<=maxLen->k*P.bytesOf E<=140737488355328->aX P F m nx β w { pre:=pre,val:=.rs nx 0 k,aU:=[(nx,some (.cells news E))],rd:=rd,new:=1 } (do Pure.pure (Next.value (<- Builtin.append_ #[t,u] ty #[vs,vx]))))/\
 (∀ es n,R F β w (.sc es n) vs->0<k->n*P.cellsOf E=es.length->n+k<=maxLen->(n+k)*P.bytesOf E<=140737488355328->
  aX P F m nx β w { pre:=pre,val:=.rs nx 0 (n+k),aU:=[(nx,some (.cells (es++news) E))],rd:=rd,new:=1 } (do Pure.pure (Next.value (<- Builtin.append_ #[t,u] ty #[vs,vx]))))/\
 ∀ i off n cs,R F β w (.rs i off n) vs->m i=some (.cells cs E)->off+n*P.cellsOf E=cs.length->n+k<=maxLen->(n+k)*P.bytesOf E<=140737488355328->
  aX P F m nx β w { pre:=pre,val:=.rs nx 0 (n+k),aU:=[(i,none),(nx,some (.cells (cs.drop off++news) E))],rd:=rd,new:=1 } (do Pure.pure (Next.value (<- Builtin.append_ #[t,u] ty #[vs,vx]))):=by
 obtain⟨ii,d,z,hi,_,hz,_,jM,_,aoR,_⟩:=rF bB;have vW:=X.len;have LP:k=0->news=[]:=fun hk=>List.eq_nil_of_length_eq_zero (by rw[<- cR.1,vW,hk];simp)
 have grow:∀ (β0:aE) (m0:Mem),aJ P F m0 β0 w->Step β w β0 w->β0 nx=none->(∀ i,β i=none->β0 i=none)->∀ (a0:Option Addr) (n cap:Nat) (Iv:List D) (gu:List Value),Rl F β0 w Iv gu->gu.length=n*P.cellsOf E->
  (∀ ad,a0=some ad->∀ j v,gu[j]? =some v->w.cell? (ad.add j)=some v)->(a0=none->n=0/\cap=0)->n<=cap->n+k<=maxLen->(n+k)*P.bytesOf E<=140737488355328->0<k->cap<n+k->
  ∃ v w' β',(Builtin.append_ #[t,u] ty #[.slice a0 n cap,vx]).run P w=.ok v w'/\R F β' w' (.rs nx 0 (n+k)) v/\aJ P F (up m0 nx (some (.cells (Iv++news) E))) β' w'/\Step β w β' w'/\∀ i,β i=none->(i<nx\/nx+1<=i)->β' i=none:=by
  intro β0 m0 js vN Ac kX a0 n cap Iv gu hold sx uU h0 kH dk kJ hk hg;have M:=X.new hk a0 n cap gu z (by simp[hi,hz]) sx uU h0 kH hg dk kJ;have Cz:Rl F β0 w.drew (Iv++news) (gu++c):=(hold.append (cR.step vN)).step QW;obtain⟨β',C,J,g3,g4⟩:=aaJ (P:=P) (nx:=nx) (e:=E) (z:=z) js.drew Ac jM Cz (n:=n+k) (N:=grownCap w (n+k) cap E) (by rw[<- Cz.1,List.length_append,sx,vW,Nat.add_mul]) (grownCap_ge w _ _ _) (grownCap_le_maxLen w _ _ _ dk);have e1:(gu++c).toArray=gu.toArray++c.toArray:=by simp
  rw[e1] at C J g3;refine⟨_,_,β',M,g3,C,(vN.trans QW).trans J,fun j hj jt=>?_⟩;rw[g4 j oG];exact kX j hj
 refine⟨fun hs dk kJ=>?_,fun es n hs hk hlen dk kJ=>?_,fun i off n cs hs ct UE dk kJ=>?_⟩
 .obtain⟨a0,rfl⟩:=hs.u6;rcases Nat.eq_zero_or_pos k with hk|hk
  .obtain⟨C,J⟩:=S6 hm hn E;have:=LP hk;subst hk this;exact⟨.value (.slice a0 0 0),.slice a0 0 0,w,up β nx (some .nil),by simp[X.zero rfl a0 0 0 (aZ _)],.inl rfl,.jr nx a0 (aj _ _ _),C,J,wz⟩
  .obtain⟨v,w',β',M,C,J,g3,g4⟩:=grow β m hm (Step.refl β w) hn (fun _ h=>h) a0 0 0 [] [] ⟨rfl,oS⟩ oS oS (fun _=>⟨rfl,rfl⟩) (aZ _) oG (by simpa using kJ) hk oG;refine⟨.value v,v,w',β',by simp[M],.inl rfl,?_,?_,g3,g4⟩
   .simpa using C
   .simpa[cK] using J
 .cases hs with
  |sc _ _ a h=>
  rcases h.uT with⟨rfl,rfl,a',ai8,hv⟩|⟨b,o,ai8,hv,_,_,_,_,_,dw⟩
  .cases hv;obtain⟨v,w',β',M,C,J,g3,g4⟩:=grow β m hm (Step.refl β w) hn (fun _ h=>h) a 0 0 [] [] ⟨rfl,oS⟩ oS oS (fun _=>⟨rfl,rfl⟩) (aZ _) dk kJ hk oG;exact⟨.value v,v,w',β',by simp[M],.inl rfl,C,by simpa[cK] using J,g3,g4⟩
  .cases hv;obtain⟨gu,vX,N8⟩:=dw.B0;obtain⟨v,w',β',M,C,J,g3,g4⟩:=grow β m hm (Step.refl β w) hn (fun _ h=>h) (some ⟨b,o,none⟩) n n es gu vX (by rw[vX.1];exact hlen.symm) (fun ad Ab=>by cases Ab;exact N8) oS (aZ _) dk kJ hk oG;exact⟨.value v,v,w',β',by simp[M],.inl rfl,C,by simpa[cK] using J,g3,g4⟩
 .have dx:i≠nx:=fun e=>by
   obtain⟨p',Aa,_⟩:=hm.row i _ ct;rw[e,hn] at Aa;cases Aa
  have N9:=hm.dead i;have IZ:=AL β w i;have iL:up β i (some .dead) nx=none:=by rw[aA _ _ (Ne.symm dx)];exact hn
  have kX:∀ j,β j=none->up β i (some .dead) j=none:=fun j hj=>by
   by_cases cy:j=i
   .subst cy;obtain⟨p',Aa,_⟩:=hm.row j _ ct;rw[hj] at Aa;cases Aa
   .rw[aA _ _ cy];exact hj
  have small:∀ a0:Option Addr,n=0->cs.length=off->vs=.slice a0 0 0->aX P F m nx β w { pre:=pre,val:=.rs nx 0 (n+k),aU:=[(i,none),(nx,some (.cells (cs.drop off++news) E))],rd:=rd,new:=1 } (do Pure.pure (Next.value (<- Builtin.append_ #[t,u] ty #[vs,vx]))):=by
   rintro a0 rfl ow rfl;have UF:cs.drop off=[]:=by simp;omega
   rcases Nat.eq_zero_or_pos k with rfl|hk
   .have wW:=LP rfl;subst wW;obtain⟨C,J⟩:=S6 N9 iL E;refine⟨.value (.slice a0 0 0),.slice a0 0 0,w,_,by simp[X.zero rfl a0 0 0 (aZ _)],.inl rfl,.jr nx a0 (aj _ _ _),?_,IZ.trans J,fun j hj jt=>?_⟩
    .simp only[cK,UF,List.append_nil];exact C
    .rw[aA _ _ (by simp only at jt;omega)];exact kX j hj
   .obtain⟨v,w',β',M,C,J,g3,g4⟩:=grow _ _ N9 IZ iL kX a0 0 0 [] [] ⟨rfl,oS⟩ oS oS (fun _=>⟨rfl,rfl⟩) (aZ _) oG kJ hk oG;refine⟨.value v,v,w',β',by simp[M],.inl rfl,?_,?_,g3,g4⟩
    .simpa using C
    .simp only[cK,UF];exact J
  rcases hs.D1 hm ct with⟨rfl,rfl,rfl,iF,a0,rfl⟩|⟨b,o,room,hβ,ap,qI⟩
  .exact small a0 rfl rfl rfl
  .rcases qI with⟨rfl,a0,rfl⟩|⟨cap,rfl,C,J,g3,g4⟩
   .exact small a0 rfl oG rfl
   .obtain⟨gu,vX,N8⟩:=(ap.rd.1.drop off).B0;have sx:gu.length=n*P.cellsOf E:=by rw[vX.1];simp;omega
    rcases Nat.lt_or_ge cap (n+k) with hg|hg
    .have hk:0<k:=by omega
     obtain⟨v,w',β',M,k1,k2,k3,k4⟩:=grow _ _ N9 IZ iL kX (some ⟨b,o+off,none⟩) n cap (cs.drop off) gu (vX.step IZ) sx (fun ad Ab=>by cases Ab;exact N8) oS C dk kJ hk hg;exact⟨.value v,v,w',β',by simp[M],.inl rfl,k1,k2,k3,k4⟩
    ·
      cases ap with
      |cells _ _ _ _ _ _ U Ff vf hle bD hh=>
      have aoG:(up β i (some .dead)) nx=none:=iL;rcases Nat.eq_zero_or_pos k with rfl|hk
      .have wW:=LP rfl;subst wW
       obtain⟨q1,q2⟩:=hm.move (w':=w) (nx:=nx) (p':=.cells b (o+off) (cs.drop off).length (room - off) (P.cellsOf E)) hβ rfl rfl hn rfl (fun _ _=>rfl) (.cells (cs.drop off) E) (fun dc=>by
        refine .cells _ E b (o+off) (room - off) _ U Ff oG oP rfl fun j d hj=>?_;rw[List.getElem?_drop] at hj;obtain⟨u,p0,p6,p7⟩:=hh (off+j) d hj
        exact⟨u,by rw[Nat.add_assoc];exact p0,p6.step dc,p7⟩)
       refine⟨.value (.slice (some ⟨b,o+off,none⟩) n cap),_,w,_,by simp[X.zero rfl (some ⟨b,o+off,none⟩) n cap C],.inl rfl,?_,?_,q2,fun j hj jt=>?_⟩
       .have:=R.rs (F:=F) (β:=up (up β i (some .dead)) nx (some (.cells b (o+off) (cs.drop off).length (room - off) (P.cellsOf E)))) (w:=w) nx 0 n cap b (o+off) (cs.drop off).length (room - off) (P.cellsOf E) (aj _ _ _) C J oP oG;simpa using this
       .simp only[cK,List.append_nil];exact q1
       .rw[aA _ _ (by simp only at jt;omega)];exact kX j hj
      .have hmul:n*P.cellsOf E+k*P.cellsOf E<=cap*P.cellsOf E:=by rw[<- Nat.add_mul];exact Nat.mul_le_mul_right _ hg
       have mM:∀ u∈c,u.oneCell'=true:=fun u hu=>by
        obtain⟨j,hj⟩:=dN hu;have cZ:j<news.length:=by rw[<- cR.1];exact(bI.1 hj).1
        exact(cR.2 j news[j] u (by simp[cZ]) hj).2
       have M:=X.fit hk b (o+off) n cap U Ff hg oG mM;have fX:news.length=k*P.cellsOf E:=by rw[<- cR.1];exact vW
       have r5:=setRow_heap w b U (U.toList.take (o+off+n*P.cellsOf E)++c++U.toList.drop (o+off+n*P.cellsOf E+c.length)).toArray E (0,0) Ff
       have H8:(U.toList.take (o+off+n*P.cellsOf E)++c++U.toList.drop (o+off+n*P.cellsOf E+c.length)).toArray.size=U.size:=by
        simp only[List.size_toArray,List.length_append,List.length_take,List.length_drop,Array.length_toList];omega
       obtain⟨q1,q2⟩:=hm.move (w':=w.setRow b (U.toList.take (o+off+n*P.cellsOf E)++c++U.toList.drop (o+off+n*P.cellsOf E+c.length)).toArray) (nx:=nx) (p':=.cells b (o+off) (cs.drop off++news).length (room - off) (P.cellsOf E)) hβ rfl rfl hn oS (fun j hj=>setRow_other w b j _ hj) (.cells (cs.drop off++news) E) (fun dc=>by
        refine .cells _ E b (o+off) (room - off) _ _ r5 (by rw[H8];omega) oP rfl fun j d hj=>?_;have hv:=FW U.toList (o+off+n*P.cellsOf E) c oP (o+off+j);simp only[List.getElem?_toArray];by_cases af:j<(cs.drop off).length
        .rw[List.getElem?_append_left af,List.getElem?_drop] at hj;obtain⟨u,p0,p6,p7⟩:=hh (off+j) d hj;rw[if_pos (by simp at af;omega)] at hv;exact⟨u,by rw[hv,Nat.add_assoc];simpa using p0,p6.step dc,p7⟩
        .rw[List.getElem?_append_right oG] at hj;have cZ:=(bI.1 hj).1;simp only[List.length_drop] at hj cZ af;rw[if_neg oG,if_pos oG,show o+off+j - (o+off+n*P.cellsOf E)=j - (cs.length - off) from by omega] at hv;have Vz:j - (cs.length - off)<c.length:=by omega
         obtain⟨r1,r2⟩:=cR.2 _ d c[j - (cs.length - off)] hj (by simp[Vz])
         exact⟨_,by rw[hv];simp[Vz],r1.step dc,r2⟩)
       refine⟨.value (.slice (some ⟨b,o+off,none⟩) (n+k) cap),_,_,_,by simp[M],.inl rfl,?_,q1,q2,fun j hj jt=>?_⟩
       .refine .rs nx 0 (n+k) cap b (o+off) _ (room - off) _ (aj _ _ _) hg J ?_ oG;simp only[List.length_append,List.length_drop];omega
       .rw[aA _ _ (by simp only at jt;omega)];exact kX j hj
theorem ZI(hm:aJ P F m β w)(hn:β nx=none){t ty:TypeId}{s x:D}{vs vx:Value}{e:dy}(hs:R F β w s vs)(hx:R F β w x vx)(h:rN P m nx t s x=some e)(hp:e.pre):
 aX P F m nx β w e (do Pure.pure (Next.value (<- Builtin.append_ #[t,t] ty #[vs,vx]))):=by
 unfold rN at h;simp only at h;cases M:jP m (P.cellsOf (aF P t)) x with
 |none=>simp[M] at h
 |some q=>
 obtain⟨p,rd,k,news⟩:=q;simp only[M] at h;cases s with
 |z=>
  simp only[aG] at h;subst h;obtain⟨ht,U,J,dk,kJ⟩:=hp;obtain⟨c,cR,X⟩:=J' (ty:=ty) hm hx M U ht J;exact(CY hm hn cR X (kv ht).2 J).1 hs dk kJ
 |rs i off n=>
  simp only at h;cases C:m i with
  |none=>simp[C] at h
  |some r=>
  cases r with
  |map es=>simp[C] at h
  |raw es=>simp[C] at h
  |bs u x T=>simp[C] at h
  |iK f r=>simp[C] at h
  |cells cs e'=>
  simp only[C,aG] at h;subst h;obtain⟨ht,hee,U,J,UE,dk,kJ,dw⟩:=hp;subst hee;obtain⟨c,cR,X⟩:=J' (ty:=ty) hm hx M U ht J;exact(CY hm hn cR X (kv ht).2 J).2.2 i off n cs hs C UE dk kJ
 |_=>simp at h
end
theorem SX{a b:Value}(h:pY a b=true):a=b:=by
 unfold pY at h;split at h
 .simp at h;rw[h.1,h.2]
 .simp at h;rw[h]
 .rename_i a b;simp only[beq_iff_eq] at h;congr 1;cases a;cases b;simp only[ByteArray.mk.injEq];exact Array.ext' (by simpa using h)
 .cases h
theorem K5:∀ {a b:List Value},gn a b=true->a=b
 |[],[],_=>rfl
 |a::aS,b::bs,h=>by
  simp only[gn,aW] at h;rw[SX h.1,K5 h.2]
 |[],_::_,h=>by simp[gn] at h
 |_::_,[],h=>by simp[gn] at h
theorem TU{a b:Value}(h:lx a b=true):a=b:=by
 unfold lx at h;split at h
 .rw[Array.ext' (K5 h)]
 .exact SX h
def gK:Value->Bool
 | .int _ _ | .bool _ | .string _=>true
 |_=>false
theorem aax{a:Value}(h:gK a=true):pY a a=true:=by
 unfold gK at h;split at h<;>simp_all[pY]
theorem J8:∀ {a:List Value},a.all gK=true->gn a a=true
 |[],_=>rfl
 |a::aS,h=>by
  simp only[List.all_cons,aW] at h;simp[gn,aax h.1,J8 h.2]
section
variable{P:Program}
structure HB(P:Program)(t kt et:TypeId):Prop where
 tZ:P.underlying t=some (.map kt et)
 elem:aI P et=true
 zero:Cp P et=true
 refl:∀ v,cL P kt v=true->lx v v=true
 one:∀ v,cL P kt v=true->v.oneCell'=true\/∃ vs,v=.agg vs
 check:∀ (w:World) (em:Bool) (v:Value),cL P kt v=true->(Instr.checkKey em 10000 kt v).run P w=.ok () w
 find:∀ (w:World) (x:Value),cL P kt x=true->∀ es:List MapEntry,(∀ e∈es,cL P kt e.key=true)->
  ((Instr.findKey kt x es).run P w=.ok none w/\∀ e∈es,e.key≠x)\/∃ j e,(Instr.findKey kt x es).run P w=.ok (some (j,e.val)) w/\es[j]? =some e/\e.key=x
 stays:∀ (w:World) (v:Value),cL P kt v=true->(Instr.keyThatStays v v).run P w=.ok v w
theorem JG{t kt et:TypeId}{d:TypeDesc}(hu:P.underlying t=some (.map kt et))(he:aI P et=true)(hz:Cp P et=true)(hd:P.underlying kt=some d)(hk:∀ v,cL P kt v=true↔MapKept.IsKey d v):HB P t kt et where
 tZ:=hu
 elem:=he
 zero:=hz
 refl:=fun v h=>by
  have:=(hk v).1 h;cases d<;>cases v<;>simp_all[MapKept.IsKey,lx,pY]
 one:=fun v h=>by
  have:=(hk v).1 h;left;cases d<;>cases v<;>simp_all[MapKept.IsKey,Value.oneCell']
 check:=fun w em v h=>MapKept.run_checkKey hd ((hk v).1 h) em 9999
 find:=fun w x hx es J=>by
  rcases MapKept.findNow_spec ((hk x).1 hx) es 0 (fun e he=>(hk _).1 (J e he)) with⟨h1,h2⟩|⟨j,e,h1,h2,C⟩
  .exact .inl ⟨MapKept.run_findKey hd h1,h2⟩
  .exact .inr ⟨j,e,by have:=MapKept.run_findKey (P:=P) (w:=w) hd h1;simpa using this,h2,C⟩
 stays:=fun w v h=>MapKept.run_keyThatStays ((hk v).1 h)
theorem PM{t kt et:TypeId}(hu:P.underlying t=some (.map kt et))(he:aI P et=true)(hz:Cp P et=true)(J:(match P.underlying kt with|some (.array _ _)|some (.struct _)=>true|_=>false)=true)
 (h1:P.keyTypeAt 9 kt=true) (h2:P.tiled 9 kt=true):HB P t kt et:=by
 have C:=deep_law (P:=P) (m:=9) oG h1 h2 J
 have hk:∀ v,cL P kt v=true↔∃ l,keyOf P kt v=some l:=fun v=>by
  unfold cL;split at J
  .simp_all[Option.isSome_iff_exists]
  .simp_all[Option.isSome_iff_exists]
  .cases J
 refine⟨hu,he,hz,fun v h=>?_,fun v h=>?_,fun w em v h=>?_,fun w x hx es M=>?_,fun w v h=>?_⟩
 .obtain⟨l,hl⟩:=(hk v).1 h;obtain⟨xs,L,rfl,e1,_⟩:=keyOf_top J hl;have:=cells_of_lits 9 kt h2 _ _ _ e1;simp only[lx];rw[this];refine J8 (bS.2 fun u hu=>?_);obtain⟨l,_,rfl⟩:=List.mem_map.1 hu;cases l<;>rfl
 .obtain⟨l,hl⟩:=(hk v).1 h;obtain⟨xs,L,rfl,_⟩:=keyOf_top J hl;exact .inr ⟨xs,rfl⟩
 .obtain⟨l,hl⟩:=(hk v).1 h;exact C.check w em hl
 .obtain⟨l,hl⟩:=(hk x).1 hx;exact C.find w hl es fun e he=>(hk _).1 (M e he)
 .obtain⟨l,hl⟩:=(hk v).1 h;exact C.stays w hl
theorem AO{t:TypeId}(h:fT P t=true):HB P t (eL P t) (lW P t):=by
 unfold fT at h;split at h
 .rename_i kt et hu;have e1:eL P t=kt:=by simp[eL,hu]
  have e2:lW P t=et:=by simp[lW,hu]
  rw[e1,e2];simp only[aW] at h;obtain⟨⟨h1,hz⟩,h2⟩:=h;split at h2
  .rename_i hd;exact JG hu h1 hz hd fun v=>by unfold cL;rw[hd];cases v<;>simp[MapKept.IsKey]
  .rename_i hd;exact JG hu h1 hz hd fun v=>by unfold cL;rw[hd];cases v<;>simp[MapKept.IsKey]
  .rename_i hd;exact JG hu h1 hz hd fun v=>by unfold cL;rw[hd];cases v<;>simp[MapKept.IsKey]
  .rename_i hd;simp only[aW] at h2;exact PM hu h1 hz (by rw[hd]) h2.1 h2.2
  .rename_i hd;simp only[aW] at h2;exact PM hu h1 hz (by rw[hd]) h2.1 h2.2
  .cases h2
 .cases h
theorem Qc{k:Value}:∀ {es:List (Value×D)},cT k es=none->∀ e∈es,lx e.1 k=false
 |[],_,e,he=>by cases he
 |(k',d)::es,h,e,he=>by
  simp only[cT] at h;split at h
  .cases h
  .rename_i C;simp only[Option.map_eq_none_iff] at h;rcases List.mem_cons.1 he with rfl|he
   .simpa using C
   .exact Qc h e he
theorem JW{k:Value}:∀ {es:List (Value×D)} {j:Nat} {d:D},cT k es=some (j,d)->∃ k',es[j]? =some (k',d)/\lx k' k=true
 |[],j,d,h=>by simp[cT] at h
 |(k',d')::es,j,d,h=>by
  simp only[cT] at h;split at h
  .rename_i hv;simp only[aG,bR] at h;obtain⟨rfl,rfl⟩:=h;exact⟨k',rfl,hv⟩
  .simp only[cU] at h;obtain⟨⟨X,J⟩,h1,h2⟩:=h;simp only[bR] at h2;obtain⟨rfl,rfl⟩:=h2;obtain⟨C,M,U⟩:=JW h1;exact⟨C,by simpa using M,U⟩
theorem Dk{t kt et:TypeId}(L:HB P t kt et)(w:World){key:Value}(hk:cL P kt key=true){es:List (Value×D)}(lA:es.all (fun e=>cL P kt e.1)=true){ms:List MapEntry}(hl:ms.length=es.length)
 (X:∀ (k:Nat) (x:Value×D) (m:MapEntry),es[k]? =some x->ms[k]? =some m->m.key=x.1) (eh:(es.map (·.1)).Nodup):
 (cT key es=none/\(Instr.findKey kt key ms).run P w=.ok none w/\(∀ e∈es,e.1≠key))\/
 ∃ j d e,cT key es=some (j,d)/\(Instr.findKey kt key ms).run P w=.ok (some (j,e.val)) w/\ms[j]? =some e/\e.key=key/\es[j]? =some (key,d):=by
 have Fa:∀ e∈ms,cL P kt e.key=true:=fun e he=>by
  obtain⟨k,C⟩:=dN he;have af:k<es.length:=by rw[<- hl];exact(bI.1 C).1
  rw[X k es[k] e (by simp[af]) C];exact bS.1 lA _ (gA af)
 rcases L.find w key hk ms Fa with⟨h1,h2⟩|⟨j,e,h1,h2,U⟩
 .left
  have aC:∀ e∈es,e.1≠key:=fun e he hke=>by
   obtain⟨k,C⟩:=dN he;have af:k<ms.length:=by rw[hl];exact(bI.1 C).1
   exact h2 ms[k] (gA af) ((X k e ms[k] C (by simp[af])).trans hke)
  refine⟨?_,h1,aC⟩;cases M:cT key es with
  |none=>rfl
  |some x=>
   obtain⟨j,d⟩:=x;obtain⟨k',U,J⟩:=JW M;exact absurd (TU J) (aC _ (bu U))
 .right;have af:j<es.length:=by rw[<- hl];exact(bI.1 h2).1
  have hej:es[j]? =some es[j]:=by simp[af]
  have gz:es[j].1=key:=(X j es[j] e hej h2).symm.trans U;cases M:cT key es with
  |none=>
   have:=Qc M es[j] (gA af);rw[gz,L.refl key hk] at this;cases this
  |some x=>
   obtain⟨j',d⟩:=x;obtain⟨k',J,h5⟩:=JW M;have C:=TU h5;subst C;have pf:j'<es.length:=(bI.1 J).1
   have Fb:j'=j:=by
    refine(List.getElem_inj (h₀:=by simpa using pf) (h₁:=by simpa using af) eh).1 ?_;simp only[List.getElem_map];have:=(bI.1 J).2;rw[this,gz]
   subst Fb;exact⟨j',d,e,rfl,h1,h2,U,J⟩
variable{F:Nat->Prop}{m:Mem}{nx:Nat}{β:aE}{w:World}
theorem SY:∀ {cs:List D} {vs us:List Value},By cs=some vs->us.length=cs.length->(∀ (k:Nat) (d:D) (u:Value),cs[k]? =some d->us[k]? =some u->R F β w d u)->us=vs
 |[],vs,us,h,hl,_=>by
  simp[By] at h;subst h;simpa using hl
 |d::cs,vs,us,h,hl,hr=>by
  cases us with
  |nil=>simp at hl
  |cons u us=>
   have h0:=hr 0 d u rfl rfl;cases d with
   |s v=>
    simp only[By,cU] at h;obtain⟨C,h1,rfl⟩:=h;rw[h0.c6.1,SY (us:=us) h1 (by simpa using hl) fun k d u hd hu=>hr (k+1) d u (by simpa using hd) (by simpa using hu)]
   |_=>simp[By] at h
theorem D0{d:D}{key v:Value}(hk:qO d=some key)(h:R F β w d v):v=key:=by
 unfold qO at hk;split at hk
 .rw[h.c6.1];simpa using hk
 .obtain⟨us,rfl,hl,hr⟩:=h.s3;simp only[cU] at hk;obtain⟨vs,h1,rfl⟩:=hk;rw[SY h1 hl hr]
 .cases hk
theorem R.DR(hm:aJ P F m β w){i:Nat}{es:List (Value×D)}{v:Value}(h:R F β w (.mp i) v)(hi:m i=some (.map es)):
 ∃ r ms clock,β i=some (.map r)/\v=.map (some r)/\w.heap[r]? =some (.map ms clock)/\ms.size=es.length/\(es.map (·.1)).Nodup/\
  ∀ (k:Nat) (x:Value×D) (m:MapEntry),es[k]? =some x->ms[k]? =some m->m.key=x.1/\R F β w x.2 m.val:=by
 obtain⟨p,hp,ap⟩:=hm.row i _ hi;cases h with
 |zO _ _ h _=>rw[h] at hp;cases hp;cases ap
 |mp _ r h=>
  rw[h] at hp;cases hp;cases ap with
  |map _ _ ms clock h1 h2 C J=>exact⟨r,ms,clock,h,rfl,h1,h2,C,J⟩
theorem R.afc{es:List (Value×D)}{v:Value}(h:R F β w (.im es) v):
 ∃ r ms clock,v=.map (some r)/\w.heap[r]? =some (.map ms clock)/\ms.size=es.length/\(es.map (·.1)).Nodup/\
  ∀ (k:Nat) (x:Value×D) (m:MapEntry),es[k]? =some x->ms[k]? =some m->m.key=x.1/\R F β w x.2 m.val:=by
 cases h with
 |im _ r ms clock hf hb hc hl eh hk hh=>exact⟨r,ms,clock,rfl,hc,hl,eh,fun k x m hx hm=>⟨hk k x m hx hm,hh k x m hx hm⟩⟩
theorem Lb{t:TypeId}(ht:aI P t=true)(C:Cp P t=true):∃ v,(zeroValue t).run P w=.ok v w/\R F β w (mB P t) v:=by
 obtain⟨i,d,z,hi,_,hz,zZ,jM,U,_,_,X⟩:=rF ht;obtain⟨c1,c2⟩:=Bl (F:=F) (β:=β) (w:=w) U X;refine⟨z,by simp[zeroValue,typeInfo,hi,hz],?_⟩;unfold mB;unfold Cp at C;simp only[hi,Option.bind_some,hz] at C
 have single:(∀ cs,z≠ .agg cs)->bq P t=false->R F β w ((a8 P t).headD .u) z:=fun J ha=>by
  have hc:z.cells.toList=[z]:=by cases z<;>first|rfl|exact absurd rfl (J _)
  have:a8 P t=[oi z]:=by rw[U,hc];rfl
  rw[this];exact LM z
 split at C
 .rename_i cs M;simp only[aG] at M;subst M;rw[if_pos C];have:=R.agg (F:=F) (β:=β) (w:=w) (a8 P t) cs.toList (by simpa[Value.cells] using c1) fun k d u hd hu=>(c2 k d u hd (by simpa[Value.cells] using hu)).1;simpa using this
 .rename_i u J hu;simp only[Bool.not_eq_true'] at C;simp only[aG] at hu;rw[if_neg (by simp[C])];exact single (fun cs h=>J cs (by rw[<- hu,h])) C
 .cases C
theorem Zv(hm:aJ P F m β w){t:TypeId}{x k:D}{ok:Bool}{vx U:Value}(hx:R F β w x vx)(hk:R F β w k U){e:dy}(h:oZ P m t x k ok=some e)(hp:e.pre):
 aX P F m nx β w e (do Pure.pure (Next.value (<- Instr.lookup t vx U ok))):=by
 unfold oZ at h;split at h
 .rename_i key i J;rw[D0 J hk];split at h
  .rename_i es hi;cases h;obtain⟨h1,h2,M⟩:=hp;have L:=AO h1;obtain⟨r,ms,clock,X,rfl,hb,hl,eh,hh⟩:=hx.DR hm hi;obtain⟨z,hz,C⟩:=Lb (F:=F) (β:=β) (w:=w) L.elem L.zero;rcases Dk L w h2 M (ms:=ms.toList) (by simpa using hl) (fun k x m hx hm=>(hh k x m hx (by simpa using hm)).1) eh with⟨f1,f2,_⟩|⟨j,d,en,f1,f2,f3,f4,f5⟩
   .refine⟨.value (if ok then .tuple #[z,.bool false] else z),_,w,β,?_,.inl rfl,?_,hm,Step.refl β w,fun _ h _=>h⟩
    .simp[Instr.lookup,run_underlying L.tZ,MapKept.run_getObj_map hb,L.check w _ key h2,f2,hz]
    .simp only[f1,fH];cases ok
     .exact C
     .exact .aM _ [z,.bool false] rfl fun k d u hd hu=>by
       match k with
       |0=>simp at hd hu;subst hd;subst hu;exact C
       |1=>simp at hd hu;subst hd;subst hu;exact .s _ rfl
       |k+2=>simp at hd
   .have hv:=(hh j _ en f5 (by simpa using f3)).2;refine⟨.value (if ok then .tuple #[en.val,.bool true] else en.val),_,w,β,?_,.inl rfl,?_,hm,Step.refl β w,fun _ h _=>h⟩
    .simp[Instr.lookup,run_underlying L.tZ,MapKept.run_getObj_map hb,L.check w _ key h2,f2]
    .simp only[f1,fH];cases ok
     .exact hv
     .exact .aM _ [en.val,.bool true] rfl fun k d u hd hu=>by
       match k with
       |0=>simp at hd hu;subst hd;subst hu;exact hv
       |1=>simp at hd hu;subst hd;subst hu;exact .s _ rfl
       |k+2=>simp at hd
  .cases h
 .rename_i key es J;rw[D0 J hk]
  .cases h;obtain⟨h1,h2,M⟩:=hp;have L:=AO h1;obtain⟨r,ms,clock,rfl,hb,hl,eh,hh⟩:=hx.afc;obtain⟨z,hz,C⟩:=Lb (F:=F) (β:=β) (w:=w) L.elem L.zero;rcases Dk L w h2 M (ms:=ms.toList) (by simpa using hl) (fun k x m hx hm=>(hh k x m hx (by simpa using hm)).1) eh with⟨f1,f2,_⟩|⟨j,d,en,f1,f2,f3,f4,f5⟩
   .refine⟨.value (if ok then .tuple #[z,.bool false] else z),_,w,β,?_,.inl rfl,?_,hm,Step.refl β w,fun _ h _=>h⟩
    .simp[Instr.lookup,run_underlying L.tZ,MapKept.run_getObj_map hb,L.check w _ key h2,f2,hz]
    .simp only[f1,fH];cases ok
     .exact C
     .exact .aM _ [z,.bool false] rfl fun k d u hd hu=>by
       match k with
       |0=>simp at hd hu;subst hd;subst hu;exact C
       |1=>simp at hd hu;subst hd;subst hu;exact .s _ rfl
       |k+2=>simp at hd
   .have hv:=(hh j _ en f5 (by simpa using f3)).2;refine⟨.value (if ok then .tuple #[en.val,.bool true] else en.val),_,w,β,?_,.inl rfl,?_,hm,Step.refl β w,fun _ h _=>h⟩
    .simp[Instr.lookup,run_underlying L.tZ,MapKept.run_getObj_map hb,L.check w _ key h2,f2]
    .simp only[f1,fH];cases ok
     .exact hv
     .exact .aM _ [en.val,.bool true] rfl fun k d u hd hu=>by
       match k with
       |0=>simp at hd hu;subst hd;subst hu;exact hv
       |1=>simp at hd hu;subst hd;subst hu;exact .s _ rfl
       |k+2=>simp at hd
 .rename_i key J;rw[D0 J hk];cases h;obtain⟨h1,h2⟩:=hp;have L:=AO h1;rw[hx.c6.1];obtain⟨z,hz,C⟩:=Lb (F:=F) (β:=β) (w:=w) L.elem L.zero;rcases Dk L w h2 (es:=[]) rfl (ms:=[]) rfl oS oS with⟨f1,f2,_⟩|⟨j,d,en,f1,f2,f3,f4,f5⟩
  .refine⟨.value (if ok then .tuple #[z,.bool false] else z),_,w,β,?_,.inl rfl,?_,hm,Step.refl β w,fun _ h _=>h⟩
   .simp[Instr.lookup,run_underlying L.tZ,L.check w _ key h2,f2,hz]
   .simp only[fH];cases ok
    .exact C
    .exact .aM _ [z,.bool false] rfl fun k d u hd hu=>by
      match k with
      |0=>simp at hd hu;subst hd;subst hu;exact C
      |1=>simp at hd hu;subst hd;subst hu;exact .s _ rfl
      |k+2=>simp at hd
  .simp at f5
 .cases h
theorem Zw{w:World}{r:Nat}{o o':Obj}(hb:w.heap[r]? =some o):(w.heap.setIfInBounds r o').size=w.heap.size/\(w.heap.setIfInBounds r o')[r]? =some o'/\∀ k,k≠r->(w.heap.setIfInBounds r o')[k]? =w.heap[k]? :=
 ⟨oS,(MapKept.heap_set hb).1,fun k hk=>(MapKept.heap_set hb).2 k hk⟩
theorem F9(hm:aJ P F m β w){i r:Nat}{ms:Array MapEntry}{clock:Nat}(C:β i=some (.map r))(hb:w.heap[r]? =some (.map ms clock)){es':List (Value×D)}{ms':Array MapEntry}{clock':Nat}
 (hl:ms'.size=es'.length) (eh:(es'.map (·.1)).Nodup) (hh:∀ (k:Nat) (x:Value×D) (m:MapEntry),es'[k]? =some x->ms'[k]? =some m->m.key=x.1/\R F β w x.2 m.val):
 aJ P F (up m i (some (.map es'))) β { w with heap:=w.heap.setIfInBounds r (.map ms' clock') }/\Step β w β { w with heap:=w.heap.setIfInBounds r (.map ms' clock') }:=by
 obtain⟨J,q2,M⟩:=Zw (o':=.map ms' clock') hb;have hs:=C' (w':={ w with heap:=w.heap.setIfInBounds r (.map ms' clock') }) hm C rfl (by simp[J]) M;refine⟨hm.write C rfl J M _ (.map es' r ms' clock' q2 hl eh fun k x X hx U=>?_),hs⟩;obtain⟨h1,h2⟩:=hh k x X hx U;exact⟨h1,h2.step hs⟩
theorem Qd(hm:aJ P F m β w){t:TypeId}{x k v:D}{vx vk J:Value}(hx:R F β w x vx)(hk:R F β w k vk)(hv:R F β w v J){e:dy}(h:nS P m t x k v=some e)(hp:e.pre):
 aX P F m nx β w e (do Instr.mapUpdate t vx vk J;Pure.pure Next.skip):=by
 unfold nS at h;split at h
 .rename_i key i pj;rw[D0 pj hk];split at h
  .rename_i es hi;cases h;obtain⟨h1,h2,h3⟩:=hp;have L:=AO h1;obtain⟨r,ms,clock,hβ,rfl,hb,hl,eh,hh⟩:=hx.DR hm hi;rcases Dk L w h2 h3 (ms:=ms.toList) (by simpa using hl) (fun k x m hx hm=>(hh k x m hx (by simpa using hm)).1) eh with⟨f1,f2,f3⟩|⟨j,d,en,f1,f2,f3,f4,f5⟩
   .obtain⟨M,U⟩:=F9 (P:=P) hm hβ hb (es':=gp key v es) (ms':=ms.push { key,val:=J,born:=clock }) (clock':=clock+1) (by simp[gp,f1,hl])
     (by
      simp only[gp,f1,List.map_append,List.map_cons,List.map_nil];rw[List.nodup_append];refine⟨eh,oS,fun a ha b fu=>?_⟩;simp only[List.mem_singleton] at fu;subst fu;obtain⟨y,hy,rfl⟩:=List.mem_map.1 ha
      exact f3 y hy)
     (fun k x mm hx C=>by
      simp only[gp,f1] at hx;rcases Nat.lt_or_ge k es.length with af|bm
      .rw[List.getElem?_append_left af] at hx;rw[Array.getElem?_push_lt oG] at C;exact hh k x mm hx (by rw[<- C];simp[show k<ms.size by omega])
      .rw[List.getElem?_append_right bm] at hx
       have ua:k - es.length=0:=by
        have:=(bI.1 hx).1;simp at this;omega
       rw[ua] at hx;simp at hx;subst hx;have:k=ms.size:=by omega
       subst this;simp at C;subst C
       exact⟨rfl,hv⟩)
    exact⟨.skip,undef,_,β,by simp[Instr.mapUpdate,run_underlying L.tZ,MapKept.run_getObj_map hb,L.check w _ key h2,f2,MapKept.run_setObj_map _ hb],.inr ⟨rfl,rfl⟩,.aM [] [] rfl oS,M,U,fun _ h _=>h⟩
   .have Iu:j<es.length:=(bI.1 f5).1
    obtain⟨M,U⟩:=F9 (P:=P) hm hβ hb (es':=gp key v es) (ms':=ms.modify j fun e=>{ e with key:=key,val:=J }) (clock':=clock) (by simp[gp,f1,hl])
     (by
      have:(gp key v es).map (·.1)=es.map (·.1):=by
       simp only[gp,f1,List.map_set]
       have h5:(es.map (·.1))[j]'(by simpa using Iu)=key:=by
        have:=(bI.1 f5).2;simp[this]
       rw[<- h5];exact List.set_getElem_self _
      rw[this];exact eh)
     (fun k x mm hx C=>by
      simp only[gp,f1] at hx;rw[Array.getElem?_modify] at C;by_cases X:k=j
      .subst X;simp only[if_pos] at C;rw[List.getElem?_set_self Iu] at hx;simp only[aG] at hx;subst hx;simp only[cU] at C;obtain⟨en',_,rfl⟩:=C;exact⟨rfl,hv⟩
      .rw[if_neg (Ne.symm X)] at C;rw[List.getElem?_set_ne (Ne.symm X)] at hx
       exact hh k x mm hx C)
    have hj:ms[j]? =some en:=by simpa using f3
    exact⟨.skip,undef,_,β,by simp[Instr.mapUpdate,run_underlying L.tZ,MapKept.run_getObj_map hb,L.check w _ key h2,f2,hj,f4,L.stays w key h2,MapKept.run_setObj_map _ hb],.inr ⟨rfl,rfl⟩,.aM [] [] rfl oS,M,U,fun _ h _=>h⟩
  .cases h
 .cases h
theorem ad5{ts:Array TypeId}(h:ts.size≠0):ts[0]? =some (ts.getD 0 0):=by
 have:0<ts.size:=by omega
 simp[Array.getD_eq_getD_getElem?,this]
theorem Zx(hm:aJ P F m β w){ts:Array TypeId}{ty:TypeId}(jv:ts.size≠0){x k:D}{vx vk:Value}(hx:R F β w x vx)(hk:R F β w k vk){e:dy}(h:s4 P m (ts.getD 0 0) x k=some e)(hp:e.pre):
 aX P F m nx β w e (do Pure.pure (Next.value (<- Builtin.delete_ ts ty #[vx,vk]))):=by
 have sH:=ad5 jv;generalize ts.getD 0 0=t at*
 unfold s4 at h;split at h
 .rename_i key i pj;rw[D0 pj hk];split at h
  .rename_i es hi;cases h;obtain⟨h1,h2,h3⟩:=hp;have L:=AO h1;obtain⟨r,ms,clock,hβ,rfl,hb,hl,eh,hh⟩:=hx.DR hm hi;rcases Dk L w h2 h3 (ms:=ms.toList) (by simpa using hl) (fun k x m hx hm=>(hh k x m hx (by simpa using hm)).1) eh with⟨f1,f2,f3⟩|⟨j,d,en,f1,f2,f3,f4,f5⟩
   .obtain⟨M,U⟩:=F9 (P:=P) hm hβ hb (es':=tI key es) (ms':=ms) (clock':=clock) (by simp[tI,f1,hl]) (by simpa[tI,f1] using eh) (fun k x J hx C=>hh k x J (by simpa[tI,f1] using hx) C);exact⟨.value (.tuple #[]),.tuple #[],_,β,by simp[Builtin.delete_,sH,run_underlying L.tZ,MapKept.run_getObj_map hb,L.check w _ key h2,f2,MapKept.run_setObj_map _ hb],.inl rfl,.aM [] [] rfl oS,M,U,fun _ h _=>h⟩
   .have Iu:j<es.length:=(bI.1 f5).1;have WO:j<ms.size:=by omega
    have he:∀ k,(ms.eraseIdxIfInBounds j)[k]? =if k<j then ms[k]? else ms[k+1]? :=fun k=>by
     have h0:(ms.eraseIdxIfInBounds j).toList=ms.toList.eraseIdx j:=by simp[Array.eraseIdxIfInBounds,WO]
     rw[<- Array.getElem?_toList,h0,List.getElem?_eraseIdx];simp
    obtain⟨M,U⟩:=F9 (P:=P) hm hβ hb (es':=tI key es) (ms':=ms.eraseIdxIfInBounds j) (clock':=clock) (by simp[tI,f1,Array.eraseIdxIfInBounds,WO,hl,List.length_eraseIdx,Iu])
     (by simp only[tI,f1];exact List.Nodup.sublist ((List.eraseIdx_sublist es j).map _) eh)
     (fun k x J hx C=>by
      simp only[tI,f1,List.getElem?_eraseIdx] at hx;rw[he] at C;split at hx
      .rename_i X;rw[if_pos X] at C;exact hh k x J hx C
      .rename_i X;rw[if_neg X] at C;exact hh (k+1) x J hx C)
    exact⟨.value (.tuple #[]),.tuple #[],_,β,by simp[Builtin.delete_,sH,run_underlying L.tZ,MapKept.run_getObj_map hb,L.check w _ key h2,f2,MapKept.run_setObj_map _ hb],.inl rfl,.aM [] [] rfl oS,M,U,fun _ h _=>h⟩
  .cases h
 .cases h
end
theorem P9{a b:Value}(h:y5 a b=true):gK a=true/\gK b=true:=by
 unfold y5 at h;split at h<;>first|exact⟨rfl,rfl⟩|cases h
def BC(xs ys:List Value):Prop:=xs.length=ys.length/\∀ (k:Nat) (x y:Value),xs[k]? =some x->ys[k]? =some y->y5 x y=true
section
variable{P:Program}
theorem Zo{xs ys:List Value}(h:BC xs ys):(∀ x∈xs,gK x=true)/\∀ y∈ys,gK y=true:=by
 refine⟨fun x hx=>?_,fun y hy=>?_⟩
 .obtain⟨k,hk⟩:=dN hx;have af:k<ys.length:=by rw[<- h.1];exact(bI.1 hk).1
  exact(P9 (h.2 k x ys[k] hk (by simp[af]))).1
 .obtain⟨k,hk⟩:=dN hy;have af:k<xs.length:=by rw[h.1];exact(bI.1 hk).1
  exact(P9 (h.2 k xs[k] y (by simp[af]) hk)).2
theorem aas(w:World)(d:Nat){t:TypeId}(ht:tH P t=true){x y:Value}(hx:jZ x=wR P t)(hk:y5 x y=true):
 ∃ r:Bool,(Op.equalIn (d+1) t x y).run P w=.ok r w/\(r=true↔x=y):=by
 unfold y5 at hk;unfold wR at hx;split at hk
 .rename_i k a k' b;simp only[beq_iff_eq] at hk;subst hk;split at hx<;>simp[jZ] at hx;rename_i hu;exact⟨a==b,run_equalIn_int w d t _ _ a b hu,oS⟩
 .rename_i a b;split at hx<;>simp[jZ] at hx;rename_i hu;exact⟨a==b,run_equalIn_bool' w d t a b hu,oS⟩
 .rename_i a b;split at hx<;>simp[jZ] at hx;rename_i hu;refine⟨a==b,?_,?_⟩
  .rw[run_equalIn_string w d t a b hu,beq_toListBytes]
  .rw[MapKept.bytes_beq];simp
 .cases hk
theorem step_eq(w:World)(d:Nat){t:TypeId}(ht:tH P t=true){xs ys:Array Value}(hk:BC xs.toList ys.toList){off:Nat}(C:off<xs.size)(M:∀ x,xs.toList[off]? =some x->jZ x=wR P t):
 ∃ a b r,(part t xs off).run P w=.ok a w/\(part t ys off).run P w=.ok b w/\(Op.equalIn (d+1) t a b).run P w=.ok r w/\(r=true↔xs.toList[off]? =ys.toList[off]?):=by
 have bD:xs.size=ys.size:=by simpa using hk.1
 have h0:=ht;simp only[tH,aW,Bool.not_eq_true'] at h0;have J:off<ys.size:=by omega
 obtain⟨r,hr,U⟩:=aas (P:=P) w d ht (x:=xs[off]) (y:=ys[off]) (M _ (by simp[C])) (hk.2 off _ _ (by simp[C]) (by simp[J]));refine⟨xs[off],ys[off],r,?_,?_,hr,?_⟩
 .unfold part;simp[Da w (AU h0.1.2),h0.2,C]
 .unfold part;simp[Da w (AU h0.1.2),h0.2,J]
 .rw[U];simp[C,J]
theorem PH(w:World)(d:Nat){e:TypeId}(ht:tH P e=true){xs ys:Array Value}(hk:BC xs.toList ys.toList):∀ (C:List Nat),(∀ i∈C,i<xs.size/\∀ x,xs.toList[i]? =some x->jZ x=wR P e)->
 ∃ r:Bool,(Op.eqItems (d+1) e (P.cellsOf e) xs ys C).run P w=.ok r w/\(r=true↔∀ i∈C,xs.toList[i]? =ys.toList[i]?)
 |[],_=>⟨true,by simp[Op.eqItems],oS⟩
 |i::C,h=>by
  have hc:P.cellsOf e=1:=by simp only[tH,aW,beq_iff_eq] at ht;exact ht.1.1.2
  obtain⟨a,b,r,p1,p2,p3,J⟩:=step_eq w d ht hk (h i oS).1 (h i oS).2;obtain⟨r',M,U⟩:=PH w d ht hk C fun j hj=>h j (by simp[hj]);rw[hc] at M ⊢;simp only[Op.eqItems,Nat.mul_one,Sem.run_bind,p1,p2,p3,Result.andThen_ok];cases r
  .refine⟨false,oS,?_⟩;simp only[Bool.false_eq_true,false_iff] at J ⊢;intro X;exact J (X i oS)
  .refine⟨r',by simpa using M,?_⟩;rw[U]
   exact⟨fun h j hj=>by
    rcases List.mem_cons.1 hj with rfl|hj
    .exact J.1 rfl
    .exact h j hj,fun h j hj=>h j (by simp[hj])⟩
theorem Pz(w:World)(d:Nat){xs ys:Array Value}(hk:BC xs.toList ys.toList):∀ (fs:List Field),(∀ f∈fs,f.name≠"_"/\tH P f.type=true/\f.offset<xs.size/\∀ x,xs.toList[f.offset]? =some x->jZ x=wR P f.type)->
 ∃ r:Bool,(Op.eqFields (d+1) xs ys fs).run P w=.ok r w/\(r=true↔∀ f∈fs,xs.toList[f.offset]? =ys.toList[f.offset]?)
 |[],_=>⟨true,by simp[Op.eqFields],oS⟩
 |f::fs,h=>by
  obtain⟨hn,ht,U,zV⟩:=h f oS;obtain⟨a,b,r,p1,p2,p3,C⟩:=step_eq w d ht hk U zV;obtain⟨r',X,J⟩:=Pz w d hk fs fun g hg=>h g (by simp[hg]);simp only[Op.eqFields,hn,ne_eq,not_false_eq_true,if_true,Sem.run_bind,p1,p2,p3,Result.andThen_ok];cases r
  .refine⟨false,oS,?_⟩;simp only[Bool.false_eq_true,false_iff] at C ⊢;intro M;exact C (M f oS)
  .refine⟨r',by simpa using X,?_⟩;rw[J]
   exact⟨fun h j hj=>by
    rcases List.mem_cons.1 hj with rfl|hj
    .exact C.1 rfl
    .exact h j hj,fun h j hj=>h j (by simp[hj])⟩
theorem ab6:∀ {a b:List Value},a.all gK=true->(gn a b=true↔a=b):=fun h=>⟨K5,fun e=>by subst e;exact J8 h⟩
theorem PI(w:World){t:TypeId}{ks:List Nat}(ht:vd P t=some ks){xs ys:List Value}(hk:BC xs ys)(U:xs.map jZ=ks):
 (Op.equal t (.agg xs.toArray) (.agg ys.toArray)).run P w=.ok (gn xs ys) w:=by
 obtain⟨s1,s2⟩:=Zo hk;have bx:xs.all gK=true:=bS.2 s1
 have fin:∀ r:Bool,(r=true↔xs=ys)->r=gn xs ys:=fun r h=>by
  have:=ab6 (b:=ys) bx;cases r<;>cases hv:gn xs ys<;>simp_all
 unfold vd at ht;split at ht
 .rename_i n e hu;split at ht
  .rename_i hc;simp only[aW,beq_iff_eq] at hc;simp only[aG] at ht;subst ht;have hlen:xs.length=n:=by have:=congrArg List.length U;simpa using this
   have M:=hc.1;obtain⟨i,hi⟩:=Option.isSome_iff_exists.1 (jQ (show aI P e=true by simp only[tH,aW] at M;exact M.1.2))
   obtain⟨r,hr,ld⟩:=PH (P:=P) w 9998 M (xs:=xs.toArray) (ys:=ys.toArray) (by simpa using hk) (List.range n) fun i hi=>by
    simp only[List.mem_range] at hi;refine⟨by simp;omega,fun x hx=>?_⟩;have:(xs.map jZ)[i]? =some (jZ x):=by simp at hx;simp[hx]
    rw[U] at this;simp[List.getElem?_replicate,hi] at this;exact this.symm
   have e1:=run_equalIn_array (P:=P) (w:=w) 9999 (t:=t) (e:=e) (n:=n) xs.toArray ys.toArray hu hi;show(Op.equalIn (9999+1) t _ _).run P w=_;rw[e1,hr,fin r];rw[ld];constructor
   .intro h;apply List.ext_getElem?;intro i;rcases Nat.lt_or_ge i n with af|bm
    .simpa using h i (by simpa using af)
    .rw[List.getElem?_eq_none oG,List.getElem?_eq_none (by rw[<- hk.1];omega)]
   .rintro rfl i _;rfl
  .cases ht
 .rename_i fs hu;split at ht
  .rename_i hc;simp only[aW,beq_iff_eq,bS,bne_iff_ne,ne_eq,Bool.not_eq_true'] at hc;obtain⟨⟨hf,X⟩,dc⟩:=hc;simp only[aG] at ht;subst ht;have hlen:xs.length=fs.toList.length:=by have:=congrArg List.length U;simpa using this
   have ow:∀ (l:List Field) (o:Nat),P.runs o l=some (o+l.length)->(∀ f∈l,P.cellsOf f.type=1)->∀ (j:Nat) (f:Field),l[j]? =some f->f.offset=o+j:=by
    intro l
    induction l with
    |nil=>intro o _ _ j f hj;simp at hj
    |cons g l ih=>
     intro o C h1 j f hj;simp only[Program.runs] at C;split at C
     .rename_i oJ;have hg1:=h1 g oS;rw[hg1] at C;cases j with
      |zero=>simp at hj;subst hj;simpa using oJ
      |succ j=>
       have:=ih (o+1) (by rw[C];simp;omega) (fun f hf=>h1 f (by simp[hf])) j f (by simpa using hj);omega
     .cases C
   have M:∀ f∈fs.toList,P.cellsOf f.type=1:=fun f J=>by
    have:=(hf f J).2;simp only[tH,aW,beq_iff_eq] at this;exact this.1.1.2
   have j5:=ow fs.toList 0 (by simpa using X) M
   obtain⟨r,hr,ld⟩:=Pz (P:=P) w 9998 (xs:=xs.toArray) (ys:=ys.toArray) (by simpa using hk) fs.toList fun f J=>by
    obtain⟨j,hj⟩:=dN J;have cZ:j<fs.toList.length:=(bI.1 hj).1;have C:f.offset=j:=by have:=j5 j f hj;omega
    refine⟨(hf f J).1,(hf f J).2,by rw[C];simp;simp at hlen cZ;omega,fun x hx=>?_⟩;rw[C] at hx;have h1:(xs.map jZ)[j]? =some (jZ x):=by simp at hx;simp[hx]
    rw[U,List.getElem?_map,hj] at h1;simpa using h1.symm
   have E':P.fieldsOf t=fs:=by simp[Program.fieldsOf,hu]
   have e1:=run_equalIn_struct (P:=P) w 9999 t xs.toArray ys.toArray (by rw[E'];exact hu) dc;show(Op.equalIn (9999+1) t _ _).run P w=_;rw[e1,E',hr,fin r];rw[ld];constructor
   .intro h;apply List.ext_getElem?;intro j;rcases Nat.lt_or_ge j fs.toList.length with af|bm
    .have h1:=h fs.toList[j] (gA af);have C:=j5 j fs.toList[j] oS;rw[Nat.zero_add] at C;rw[C] at h1;simpa using h1
    .rw[List.getElem?_eq_none oG,List.getElem?_eq_none (by rw[<- hk.1];omega)]
   .rintro rfl f _;rfl
  .cases ht
 .cases ht
variable{F:Nat->Prop}{m:Mem}{nx:Nat}{β:aE}{w:World}
theorem J9:∀ {xs ys:List D} {a b:List Value},oq xs ys=some (a,b)->xs=a.map D.s/\ys=b.map D.s/\BC a b
 |[],[],a,b,h=>by
  simp[oq] at h;obtain⟨rfl,rfl⟩:=h;exact⟨rfl,rfl,rfl,oS⟩
 | .s x::xs,.s y::ys,a,b,h=>by
  simp only[oq] at h;split at h
  .rename_i hk;simp only[cU] at h;obtain⟨⟨a',C⟩,h1,h2⟩:=h;simp only[bR] at h2;obtain⟨rfl,rfl⟩:=h2;obtain⟨e1,e2,e3,e4⟩:=J9 h1;refine⟨by simp[e1],by simp[e2],by simp[e3],fun k u v hu hv=>?_⟩;cases k with
   |zero=>simp at hu hv;subst hu;subst hv;exact hk
   |succ k=>exact e4 k u v (by simpa using hu) (by simpa using hv)
  .cases h
 |[],_::_,_,_,h=>by simp[oq] at h
 |_::_,[],_,_,h=>by simp[oq] at h
 | .u::_,_::_,_,_,h | .ub::_,_::_,_,_,h | .cB _ _::_,_::_,_,_,h | .agg _::_,_::_,_,_,h | .aM _::_,_::_,_,_,h | .z::_,_::_,_,_,h | .sl _ _::_,_::_,_,_,h | .pt _::_,_::_,_,_,h
 | .rs _ _ _::_,_::_,_,_,h | .rp _ _::_,_::_,_,_,h | .mp _::_,_::_,_,_,h | .fn _ _ _::_,_::_,_,_,h=>by simp[oq] at h
 | .s _::_,.u::_,_,_,h | .s _::_,.ub::_,_,_,h | .s _::_,.cB _ _::_,_,_,h | .s _::_,.agg _::_,_,_,h | .s _::_,.aM _::_,_,_,h | .s _::_,.z::_,_,_,h | .s _::_,.sl _ _::_,_,_,h | .s _::_,.pt _::_,_,_,h
 | .s _::_,.rs _ _ _::_,_,_,h | .s _::_,.rp _ _::_,_,_,h | .s _::_,.mp _::_,_,_,h | .s _::_,.fn _ _ _::_,_,_,h=>by simp[oq] at h
theorem GD{a:List Value}{v:Value}(h:R F β w (.agg (a.map D.s)) v):v=.agg a.toArray:=by
 obtain⟨vs,rfl,hl,hr⟩:=h.s3;congr 2;apply List.ext_getElem?;intro k;rcases Nat.lt_or_ge k a.length with af|C
 .have hk:k<vs.length:=by rw[hl];simpa using af
  have:=(hr k (.s a[k]) vs[k] (by simp[af]) (by simp[hk])).c6.1;simp[af,hk,this]
 .rw[List.getElem?_eq_none (by rw[hl];simpa using C),List.getElem?_eq_none C]
theorem aat(hm:aJ P F m β w){op:BinOp}{t:TypeId}(C J:Operand){xs ys:List D}{x y:Value}{q:Prop×D}(hx:R F β w (.agg xs) x)(hy:R F β w (.agg ys) y)(h:yH P op t xs ys=some q)(hp:q.1):
 aX P F m nx β w { pre:=q.1,val:=q.2 } ((do eqGuard op t C J x y;binOp op t x y)>>=fun r=>Pure.pure (Next.value r)):=by
 unfold yH at h;split at h
 .rename_i ks z hf hz;cases h;obtain⟨a,b⟩:=z;obtain⟨e1,e2,hk⟩:=J9 hz;subst e1 e2;rw[GD hx,GD hy];have:=PI (P:=P) w hf hk hp.1;refine aX.val hm (v:=.bool (gn a b)) ?_ (.s _ rfl);have e3:(Op.equalIn 10000 t (.agg a.toArray) (.agg b.toArray)).run P w=.ok (gn a b) w:=this;simp only[Sem.run_bind,run_eqGuard_agg (P:=P) w .eql t C J _ _ hp.2,Result.andThen_ok,run_eql_struct,e3,Sem.run_pure]
 .rename_i ks z hf hz;cases h;obtain⟨a,b⟩:=z;obtain⟨e1,e2,hk⟩:=J9 hz;subst e1 e2;rw[GD hx,GD hy];have:=PI (P:=P) w hf hk hp.1;refine aX.val hm (v:=.bool !(gn a b)) ?_ (.s _ rfl);have e3:(Op.equalIn 10000 t (.agg a.toArray) (.agg b.toArray)).run P w=.ok (gn a b) w:=this;simp only[Sem.run_bind,run_eqGuard_agg (P:=P) w .neq t C J _ _ hp.2,Result.andThen_ok,run_neq_struct,e3,Sem.run_pure]
 .cases h
end
section
variable{P:Program}{F:Nat->Prop}{m:Mem}{nx:Nat}{β:aE}{w:World}
theorem S8{ps:Array (Nat×Operand)}{ρ:Operand->D}{a:Act}(h:∀ x∈(ps.toList.map (·.2)),R F β w (ρ x) (a.eval x)):
 (ps.toList.map fun q=>(q.1,ρ q.2)).length=(ps.map fun(i,x)=>(i,a.eval x)).size/\
 ∀ (k:Nat) (p:Nat×D) (q:Nat×Value),(ps.toList.map fun q=>(q.1,ρ q.2))[k]? =some p->(ps.map fun(i,x)=>(i,a.eval x))[k]? =some q->p.1=q.1/\R F β w p.2 q.2:=by
 refine⟨oS,fun k p q hk hq=>?_⟩;simp only[List.getElem?_map,Array.getElem?_map] at hk hq;cases C:ps[k]? with
 |none=>simp[C] at hq
 |some y=>
  simp[C] at hk hq;subst hk;subst hq;exact⟨rfl,h _ (List.mem_map.2 ⟨y,by simpa using Array.mem_of_getElem? C,rfl⟩)⟩
theorem DQ{xs:Array Operand}{ρ:Operand->D}{a:Act}(h:∀ x∈xs,R F β w (ρ x) (a.eval x)):
 (xs.toList.map a.eval).length=(xs.toList.map ρ).length/\∀ (k:Nat) (d:D) (v:Value),(xs.toList.map ρ)[k]? =some d->(xs.toList.map a.eval)[k]? =some v->R F β w d v:=by
 refine⟨oS,fun k d v hk hv=>?_⟩;simp only[List.getElem?_map] at hk hv;cases hx:xs.toList[k]? with
 |none=>simp[hx] at hk
 |some x=>
  simp[hx] at hk hv;subst hk;subst hv;exact h x (by simpa using bu hx)
theorem M6{x:Option Operand}{ρ:Operand->D}{a:Act}(h:∀ y,x=some y->R F β w (ρ y) (a.eval y)):Ro F β w (x.map ρ) (x.map a.eval):=by
 cases x with
 |none=>exact .inl ⟨rfl,rfl⟩
 |some y=>exact .inr ⟨_,_,rfl,rfl,h y rfl⟩
theorem aX.of_eq{e:dy}{s:Sem Next}(h:e.aU=[]/\e.new=0/\aX P F m nx β w e s):aX P F m nx β w e s:=h.2.2
theorem Yx(hm:aJ P F m β w){b:Builtin}{ts:Array TypeId}{ty:TypeId}{cs:Array Bool}{ds:List D}{vs:List Value}{e:dy}(hn:e.new=1->β nx=none)(hl:vs.length=ds.length)
 (C:∀ (k:Nat) (d:D) (v:Value),ds[k]? =some d->vs[k]? =some v->R F β w d v) (J:ts.size=ds.length) (h:fL P m nx b ts ds=some e) (hp:e.pre):aX P F m nx β w e (builtin b ts ty cs vs.toArray):=by
 cases b
 case len=>
  match ds,vs,hl,h,C with
  |[d],[v],_,h,C=>
   simp only[fL] at h;exact aX.of_eq (ad' hm (by simp at J;omega) (C 0 d v rfl rfl) h hp)
  |[],_,_,h,_=>simp[fL] at h
  |_::_::_,_,_,h,_=>simp[fL] at h
 case append=>
  match ds,vs,hl,h,C with
  |[s,x],[v,u],_,h,C=>
   simp only[fL] at h;split at h
   .rename_i M
    match ts,J,M,h with
    |⟨[t,t']⟩,_,M,h=>
     simp[Array.getD_eq_getD_getElem?] at M h;subst M
     have U:e.new=1:=by
      unfold rN at h;simp only at h;split at h
      .cases h
      .split at h
       .simp only[aG] at h;rw[<- h]
       .split at h
        .simp only[aG] at h;rw[<- h]
        .cases h
       .cases h
     exact ZI hm (hn U) (C 0 s v rfl rfl) (C 1 x u rfl rfl) h hp
    |⟨[]⟩,J,_,_=>simp at J
    |⟨[_]⟩,J,_,_=>simp at J
    |⟨_::_::_::_⟩,J,_,_=>simp at J
   .cases h
  |[],_,_,h,_=>simp[fL] at h
  |[_],_,_,h,_=>simp[fL] at h
  |_::_::_::_,_,_,h,_=>simp[fL] at h
 case min=>
  match ds,vs,hl,h,C with
  |[.s (.int k a),.s (.int k' b)],[v,u],_,h,C=>
   simp only[fL,aG] at h;subst h;simp only at hp;subst hp;exact S5 hm (C 0 _ v rfl rfl) (C 1 _ u rfl rfl)
  |ds,vs,hl,h,C=>
   unfold fL at h;split at h<;>simp_all;subst h;subst hp
   match vs,hl with
   |[v,u],_=>exact S5 hm (C 0 _ v rfl rfl) (C 1 _ u rfl rfl)
 case clear=>
  match ds,vs,hl,h,C with
  |[d],[v],_,h,C=>
   cases d with
   |rs i off n=>
    simp only[fL] at h;cases hi:m i with
    |none=>simp[hi] at h
    |some r=>
    cases r with
    |map es=>simp[hi] at h
    |raw es=>simp[hi] at h
    |bs u x T=>simp[hi] at h
    |iK f r=>simp[hi] at h
    |cells c e'=>
     simp only[hi,aG] at h;subst h;obtain⟨h1,h2,X⟩:=hp;exact aaI hm (by simp at J;omega) (C 0 _ v rfl rfl) hi h1 h2 X
   |_=>simp[fL] at h
  |[],_,_,h,_=>simp[fL] at h
  |_::_::_,_,_,h,_=>simp[fL] at h
 case delete=>
  match ds,vs,hl,h,C with
  |[x,k],[v,u],_,h,C=>exact Zx hm (by simp at J;omega) (C 0 x v rfl rfl) (C 1 k u rfl rfl) h hp
  |[],_,_,h,_=>simp[fL] at h
  |[_],_,_,h,_=>simp[fL] at h
  |_::_::_::_,_,_,h,_=>simp[fL] at h
 all_goals (simp[fL] at h)
theorem aaK(hm:aJ P F m β w){o:Oper}{env:Env}{a:Act}{e:dy}(hn:e.new=1->β nx=none)(hE:ia F β w env a)(ha:asks env o.op)(h:bd P o.op (a6 env o.op) m nx=some e)(hp:e.pre):
 aX P F m nx β w e (execOp a.eval o):=by
 obtain⟨dst,op,type,pos,after,guard⟩:=o;simp only at ha h
 have C:(∀ c x y,op≠ .pick c x y)->∀ x∈op.operands.toList,R F β w (a6 env op x) (a.eval x):=fun Fg x hx=>by
  have h1:a6 env op x=(opd env x).core:=by cases op<;>first|rfl|exact absurd rfl (Fg _ _ _)
  have h2:(opd env x).ask:=by cases op<;>first|exact ha x hx|exact absurd rfl (Fg _ _ _)
  rw[h1];exact(hE.opd x).uF _ h2
 unfold execOp;cases op with
 |move x=>
  simp only[bd,aG] at h;subst h;exact aX.val hm oS (C oS x cI)
 |assign x=>
  simp only[bd,aG] at h;subst h;exact aX.val hm oS (C oS x cI)
 |pick c x y=>
  simp only[bd,a6] at h;cases hc:(opd env c).core.fi with
  |none=>simp[hc] at h
  |some t=>
  simp only[hc,aG] at h;subst h
  have hcv:a.eval c=.bool t:=by
   have h1:=(hE.opd c).uF _ ha;unfold D.fi at hc;split at hc
   .rename_i b he;cases hc;rw[he] at h1;exact h1.c6.1
   .cases hc
  exact ack hm hcv (hE.opd x) (hE.opd y) hp.1 hp.2
 |alloc t=>
  simp only[bd,aG] at h;subst h;exact aaE hm (hn rfl) hp
 |box t x=>
  simp only[bd,aG] at h;subst h;exact ad7 hm (hn rfl) (C oS x cI) hp
 |build t ps=>
  simp only[bd] at h;obtain⟨q1,q2⟩:=S8 (F:=F) (β:=β) (w:=w) (ps:=ps) (ρ:=a6 env (.build t ps)) (a:=a) (fun x hx=>C oS x (by simpa[Op.operands] using hx));split at h
  .rename_i fs hu;cases hf:hP (fun i=>Option.map (fun f=>(f.offset,P.cellsOf f.type)) fs[i]?) (a8 P t) (ps.toList.map fun q=>(q.1,a6 env (.build t ps) q.2)) with
   |none=>simp[hf] at h
   |some cs=>
    simp only[hf,Option.map_some,aG] at h;subst h;exact X8 hm hp.1 hu hp.2 q1 q2 hf
  .rename_i n e' hu;cases hf:hP (fun i=>some (i*P.cellsOf e',P.cellsOf e')) (a8 P t) (ps.toList.map fun q=>(q.1,a6 env (.build t ps) q.2)) with
   |none=>simp[hf] at h
   |some cs=>
    simp only[hf,Option.map_some,aG] at h;subst h;exact Yf hm hp.1 hu hp.2 q1 q2 hf
  .cases h
 |buildSlice t n ps=>
  simp only[bd] at h;obtain⟨q1,q2⟩:=S8 (F:=F) (β:=β) (w:=w) (ps:=ps) (ρ:=a6 env (.buildSlice t n ps)) (a:=a) (fun x hx=>C oS x (by simpa[Op.operands] using hx));cases hf:hP (fun i=>some (i*P.cellsOf (aF P t),P.cellsOf (aF P t))) (dB n (a8 P (aF P t))) (ps.toList.map fun q=>(q.1,a6 env (.buildSlice t n ps) q.2)) with
  |none=>simp[hf] at h
  |some cs=>
   simp only[hf,Option.map_some,aG] at h;subst h;obtain⟨_,J,M,p4⟩:=hp;exact Yl hm (hn rfl) M J p4 q1 q2 hf
 |load t x=>
  have hx:=C oS x cI;simp only[bd] at h;split at h
  .rename_i cs he;rw[he] at hx;simp only[aG] at h;subst h;exact Y2 hm hx hp.1 hp.2
  .rename_i i off he;rw[he] at hx;split at h
   .rename_i cs ty hi;simp only[aG] at h;subst h;exact Y3 hm hx hi hp.1 hp.2
   .cases h
  .cases h
 |store t x y=>
  have hx:=C oS x cI;have hy:=C oS y cI;simp only[bd] at h;split at h
  .rename_i i off he;rw[he] at hx;split at h
   .rename_i cs ty hi;simp only[aG] at h;subst h;obtain⟨X,J,M,p4⟩:=hp;exact aaD hm hx hy hi X J M p4
   .cases h
  .cases h
 |nilCheck x=>
  have hx:=C oS x cI;simp only[bd] at h;split at h
  .rename_i cs he;rw[he] at hx;simp only[aG] at h;subst h;obtain⟨ad,h1,h2⟩:=Yg (pre:=True) (nx:=nx) hm hx;simp only[h1] at h2 ⊢;exact h2
  .rename_i i off he;rw[he] at hx;split at h
   .rename_i r hi;simp only[aG] at h;subst h;obtain⟨ad,h1,h2⟩:=Yh (pre:=True) (nx:=nx) (rd:=[i]) hm hx hi;simp only[h1] at h2 ⊢;exact h2
   .cases h
  .cases h
 |binOp op t x y yt=>
  have hx:=C oS x cI;have hy:=C oS y cI;simp only[bd] at h;split at h
  .rename_i e' U;simp only[aG] at h;subst h;unfold ns at U;split at U
   .rename_i es n he;simp only[aG] at U;subst U;rw[he] at hx;exact ZG hm t x (.const (.slice none 0 0)) hx hp
   .rename_i i off he;split at U
    .rename_i r hi;simp only[aG] at U;subst U;rw[he] at hx;exact Qh hm .eql t x _ hx hi hy hp (.inl ⟨rfl,rfl⟩)
    .cases U
   .rename_i i off he;split at U
    .rename_i r hi;simp only[aG] at U;subst U;rw[he] at hx;exact Qh hm .neq t x _ hx hi hy hp (.inr ⟨rfl,rfl⟩)
    .cases U
   .cases U
  .unfold vw at h;split at h
   .rename_i b1 b2 e1 e2;rw[e1] at hx;rw[e2] at hy;split at h
    .simp only[Option.map_some,aG] at h;subst h;exact PQ hm .eql t x y hx hy hp (.inl ⟨rfl,rfl⟩)
    .simp only[Option.map_some,aG] at h;subst h;exact PQ hm .neq t x y hx hy hp (.inr ⟨rfl,rfl⟩)
    .simp at h
   .rename_i v1 v2 _ e1 e2;rw[e1] at hx;rw[e2] at hy;cases hb:sf op v1 v2 with
    |none=>simp[hb] at h
    |some q=>
     simp only[hb,Option.map_some,aG] at h;subst h;exact acg hm op t x y hx hy hb hp
   .rename_i xs ys e1 e2;rw[e1] at hx;rw[e2] at hy;cases hb:yH P op t xs ys with
    |none=>simp[hb] at h
    |some q=>
     simp only[hb,Option.map_some,aG] at h;subst h;exact aat hm x y hx hy hb hp
   .simp at h
 |unOp op t x=>
  have hx:=C oS x cI;simp only[bd] at h;split at h
  .rename_i v he;rw[he] at hx;cases hb:zP op v with
   |none=>simp[hb] at h
   |some q=>
    simp only[hb,Option.map_some,aG] at h;subst h;exact ad9 hm op hx hb
  .cases h
 |convert src dst x=>
  have hx:=C oS x cI;simp only[bd] at h;split at h
  .rename_i k k' n hd he;rw[he] at hx;simp only[aG] at h;subst h;exact YE hm src dst hx hd (AU hp)
  .rename_i e' b hd he;rw[he] at hx;split at h
   .rename_i gB;simp only[aG] at h;subst h;exact aaH hm hx hp.1 hd gB hp.2
   .cases h
  .cases h
 |makeFunc f fs cs=>
  simp only[bd,aG] at h;subst h;obtain⟨q1,q2⟩:=DQ (F:=F) (β:=β) (w:=w) (xs:=fs) (ρ:=a6 env (.makeFunc f fs cs)) (a:=a) (fun x hx=>C oS x (by simp[Op.operands];exact .inl hx));obtain⟨q3,q4⟩:=DQ (F:=F) (β:=β) (w:=w) (xs:=cs) (ρ:=a6 env (.makeFunc f fs cs)) (a:=a) (fun x hx=>C oS x (by simp[Op.operands];exact .inr hx));have:=YF (pre:=True) (nx:=nx) hm f q1 q3 q2 q4;have e1:(fs.toList.map a.eval).toArray=fs.map a.eval:=by apply Array.ext';simp
  have e2:(cs.toList.map a.eval).toArray=cs.map a.eval:=by apply Array.ext';simp
  rw[e1,e2] at this;exact this
 |makeMap t r=>
  simp only[bd] at h;split at h
  .simp only[aG] at h;subst h;exact Y6 hm (hn rfl)
  .cases h
 |makeSlice t l c=>
  have hx:=C oS l cI;have hy:=C oS c cI;simp only[bd] at h;split at h
  .rename_i n k e1 e2;rw[e1] at hx;rw[e2] at hy;simp only[aG] at h;subst h;obtain⟨X,J,M,p4,p5⟩:=hp;subst J;show aX P F m nx β w _ (do Pure.pure (Next.value (<- Instr.makeSlice t (a.eval l) (a.eval c))));rw[hx.c6.1,hy.c6.1];exact Yt hm (hn rfl) X M p4 p5
  .cases h
 |slice t x lo hi mx=>
  have hx:=C oS x cI;simp only[bd] at h;exact aX.of_eq (aaG hm hx (M6 fun y hy=>C oS y (by simp[Op.operands,hy])) (M6 fun y hy=>C oS y (by simp[Op.operands,hy])) (M6 fun y hy=>C oS y (by simp[Op.operands,hy])) h hp)
 |fieldAddr t x k=>
  have hx:=C oS x cI;simp only[bd] at h;split at h
  .rename_i off ft cs hf he;rw[he] at hx;simp only[aG] at h;subst h;exact X9 hm hx hf hp
  .rename_i off ft i o hf he;rw[he] at hx;split at h
   .rename_i r hi;simp only[aG] at h;subst h;exact X' hm hx hi hf hp
   .cases h
  .cases h
 |field t x k=>
  have hx:=C oS x cI;simp only[bd] at h;split at h
  .rename_i off ft cs hf he;rw[he] at hx;simp only[aG] at h;subst h;exact aaF hm hx hf hp.1 hp.2
  .cases h
 |indexAddr t x i=>
  have hx:=C oS x cI;have hy:=C oS i cI;simp only[bd] at h;split at h
  .rename_i es n kk k e1 e2;rw[e1] at hx;rw[e2] at hy;simp only[aG] at h;subst h;obtain⟨X,J,M,_⟩:=hp;exact Ya hm hx hy X J M
  .rename_i j off n kk k e1 e2;rw[e1] at hx;rw[e2] at hy;split at h
   .rename_i r hj;simp only[aG] at h;subst h;obtain⟨X,J,M⟩:=hp;exact Yb hm hx hj hy X J M
   .cases h
  .rename_i j off kk k e1 e2;rw[e1] at hx;rw[e2] at hy;split at h
   .rename_i r hj;simp only[aG] at h;subst h;obtain⟨X,J,M⟩:=hp;exact X7 hm hx hj hy X J M
   .cases h
  .cases h
 |index t x i=>
  have hx:=C oS x cI;have hy:=C oS i cI;simp only[bd] at h;split at h
  .rename_i b kk k e1 e2;rw[e1] at hx;rw[e2] at hy;simp only[aG] at h;subst h;obtain⟨X,J,M⟩:=hp;exact Yu hm hx hy X J M
  .rename_i cs kk k e1 e2;rw[e1] at hx;rw[e2] at hy;simp only[aG] at h;subst h;obtain⟨X,J,M,p4⟩:=hp;exact Yv hm hx hy X J M p4
  .cases h
 |lookup t x k ok=>exact Zv hm (C oS x cI) (C oS k cI) (by simpa only[bd] using h) hp
 |mapUpdate t x k v=>exact Qd hm (C oS x cI) (C oS k cI) (C oS v cI) (by simpa only[bd] using h) hp
 |insert t x k v=>exact Qd hm (C oS x cI) (C oS k cI) (C oS v cI) (by simpa only[bd] using h) hp
 |extract x k=>
  have hx:=C oS x cI;simp only[bd] at h;split at h
  .rename_i cs e1;rw[e1] at hx;simp only[aG] at h;subst h;exact Y5 hm hx hp
  .cases h
 |call c=>
  simp only[bd] at h;split at h
  .rename_i b hb;split at h
   .rename_i jv;obtain⟨q1,q2⟩:=DQ (F:=F) (β:=β) (w:=w) (xs:=c.args) (ρ:=a6 env (.call c)) (a:=a) (fun x hx=>C oS x (by simp[Op.operands,Call.operands,hb];exact hx));have:=Yx hm (b:=b) (ts:=c.argTypes) (ty:=type) (cs:=c.args.map fun | .const _=>true|_=>false) (e:=e) hn q1 q2 (by simpa using jv) h hp;obtain⟨n,v,w',β',h1,h2⟩:=this;refine⟨n,v,w',β',?_,h2⟩;simp only[resolve,hb,Sem.run_bind,Sem.run_pure,Result.andThen_ok,invoke];have e1:(c.args.toList.map a.eval).toArray=c.args.map a.eval:=by apply Array.ext';simp
    rw[<- e1];exact h1
   .cases h
  .cases h
 |_=>simp[bd] at h
end
section
variable{P:Program}{F F':Nat->Prop}{m:Mem}{nx:Nat}{β β':aE}{w w':World}
theorem R.lift{d:D}{v:Value}(h:R F gU w d v)(hf:∀ b,¬ F b->¬ F' b/\β.free b):R F' β w d v:=
 h.gen (aZ _) (fun b _ h1 _=>⟨kV.refl w b,(hf b h1).2,(hf b h1).1⟩) fun i p _ hp=>by cases hp
theorem wv{b:Nat}(h:¬ owned F β b):¬ F b/\β.free b:=by
 unfold owned at h;have h1:¬ F b:=fun e=>h (.inl e);refine⟨h1,?_⟩;by_cases hb:β.free b
 .exact hb
 .exact absurd (.inr hb) h
theorem abY(hm:aJ P F m β w){b:Nat}(h:owned F β b):b<w.heap.size:=by
 rcases h with h|h
 .exact hm.fb.lt b h
 .unfold aE.free at h;simp only[Classical.not_forall] at h;obtain⟨i,p,hp,hb⟩:=h;exact hm.lt i p b hp (Decidable.not_not.1 hb)
theorem RC(hm:aJ P F m β w):FB (owned F β) w:=hm.fb.next (fun b hb=>abY hm hb) (fun _ h=>.inl h) fun _ _ _=>rfl
theorem LF{d:D}{v:Value}(hs:d.gK=true)(h:R F β w d v):R F' β' w' d v:=by
 have aM:∀ cs:List D,(∀ d∈cs,∃ x,d=.s x)->R F β w (.aM cs) v->R F' β' w' (.aM cs) v:=fun cs hc h=>by
  obtain⟨vs,rfl,hl,hr⟩:=h.DB;refine .aM cs vs hl fun k d u hk hu=>?_;obtain⟨x,rfl⟩:=hc d (bu hk);have:=(hr k _ u hk hu).c6;rw[this.1];exact .s x this.2
 unfold D.gK at hs;split at hs
 .rw[h.c6.1];exact .s _ h.c6.2
 .obtain⟨b,rfl⟩:=h.Hq;exact .ub b
 .exact aM _ oS h
 .exact aM _ oS h
 .exact aM _ oS h
 .cases hs
theorem QO(h:Kept w w'):Step β w β w':=AR h.1 h.2.1 h.2.2
theorem aJ.kept(hm:aJ P F m β w)(h:Kept w w'):aJ P F m β w':=hm.ext h.1 h.2.1 h.2.2
theorem aam(hm:aJ P F m β w){f:FuncId}{args:List D}{r:D}{vs:Array Value}(hc:aB P f args r)(C:Rs F β w args vs):
 Calls P f vs w fun e w'=>∃ v,e=.returned v/\R F β w' r v/\aJ P F m β w'/\Step β w β w':=
 (hc.2.2 (owned F β) w vs (RC hm) ⟨C.1,fun k d v hd hv=>hc.2.1 d (bu hd) F β w v (C.2 k d v hd hv)⟩).mono
  fun e w' ⟨v,he,hr,hk⟩=>⟨v,he,hr.lift fun b hb=>wv hb,hm.kept hk,QO hk⟩
theorem Eb{rds:List Nat}(C:∀ i∈rds,∀ r,m i=some r->∃ p,β i=some p/\cC P F β w r p/\∀ b,p.bF=some b->¬ F b):∀ {aS bs:List D},jK P rds m aS bs->aS.length=bs.length/\∀ (k:Nat) (a b:D),aS[k]? =some a->bs[k]? =some b->∀ v,R F β w a v->R F gU w b v
 |[],[],_=>⟨rfl,oS⟩
 |a::aS,b::bs,h=>by
  obtain⟨h1,h2⟩:=Eb C h.2;refine⟨by simp[h1],fun k x y hx hy v hv=>?_⟩;cases k with
  |zero=>
   simp at hx hy;subst hx;subst hy;exact h.1 F β w v C hv
  |succ k=>exact h2 k x y (by simpa using hx) (by simpa using hy) v hv
 |[],_::_,h=>h.elim
 |_::_,[],h=>h.elim
theorem aan(hm:aJ P F m β w){f:FuncId}{args J:List D}{rds:List Nat}{C:Mem}{r:D}{vs:Array Value}(X:jK P rds C args J)(U:∀ i∈rds,C i≠none->m i=C i)(hc:aB P f J r)(hs:r.gK=true)(M:Rs F β w args vs):
 Calls P f vs w fun e w'=>∃ v,e=.returned v/\R F β w' r v/\aJ P F m β w'/\Step β w β w':=by
 obtain⟨h1,h2⟩:=Eb (P:=P) (F:=F) (β:=β) (w:=w) (fun i hi r hr=>by
  obtain⟨p,hp,ap⟩:=hm.row i r (by rw[U i hi (by simp[hr])];exact hr)
  exact⟨p,hp,ap,fun b hb=>hm.nf i p b hp hb⟩) X
 refine(hc.2.2 F w vs hm.fb ⟨by rw[M.1,h1],fun k d v hd hv=>?_⟩).mono fun e w' ⟨v,he,hr,hk⟩=>⟨v,he,LF hs hr,hm.kept hk,QO hk⟩
 have af:k<args.length:=by rw[h1];exact(bI.1 hd).1
 exact h2 k args[k] d (by simp[af]) hd v (M.2 k args[k] v (by simp[af]) hv)
theorem abZ(hm:aJ P F m β w)(hn:β nx=none){f:FuncId}{args es:List D}{n:Nat}{t:TypeId}{vs:Array Value}(hc:kW P f args es n t)(hR:Rs F β w args vs):
 Calls P f vs w fun e w'=>∃ v β',e=.returned v/\R F β' w' (.rs nx 0 n) v/\aJ P F (up m nx (some (.cells es t))) β' w'/\Step β w β' w'/\∀ i,i≠nx->β' i=β i:=by
 refine(hc.2.2 (owned F β) w vs (RC hm) ⟨hR.1,fun k d v hd hv=>hc.2.1 d (bu hd) F β w v (hR.2 k d v hd hv)⟩).mono ?_;rintro e w' ⟨v,p,he,L8,J,ap,hv,hk⟩;have fJ:=hm.kept hk
 have hs:Step β w (up β nx (some p)) w':=by
  refine⟨hk.1,fun b hb hf=>⟨hk.2.1 b hb,fun i q hq=>?_⟩,fun i q hq=>.inl ?_,hk.2.2⟩
  .by_cases hi:i=nx
   .subst hi;rw[aj] at hq;cases hq;intro e;have:=(J b e).1;omega
   .rw[aA _ _ hi] at hq;exact hf i q hq
  .rw[aA _ _ (fun e=>by rw[e,hn] at hq;cases hq)];exact hq
 have C:∀ i q b,up β nx (some p) i=some q->q.bF=some b->(i=nx/\q=p)\/(i≠nx/\β i=some q):=fun i q b hq _=>by
  by_cases hi:i=nx
  .subst hi;rw[aj] at hq;cases hq;exact .inl ⟨rfl,rfl⟩
  .rw[aA _ _ hi] at hq;exact .inr ⟨hi,hq⟩
 have U:∀ b,¬ (owned F β b\/p.bF=some b)->¬ F b/\aE.free (up β nx (some p)) b:=fun b hb=>by
  have h1:=wv (F:=F) (β:=β) (b:=b) (fun e=>hb (.inl e));refine⟨h1.1,fun i q hq e=>?_⟩;rcases C i q b hq e with⟨_,rfl⟩|⟨_,ie⟩
  .exact hb (.inr e)
  .exact h1.2 i q ie e
 have r3:cC P F (up β nx (some p)) w' (.cells es t) p:=by
  cases ap with
  |nil _=>exact .nil _
  |cells _ _ b o room sz c h1 h2 h3 h4 h5=>
   refine .cells es t b o room sz c h1 h2 h3 h4 fun k d hd=>?_;obtain⟨u,p0,p6,p7⟩:=h5 k d hd;exact⟨u,p0,p6.lift U,p7⟩
 refine⟨v,up β nx (some p),he,?_,?_,hs,fun i hi=>aA _ _ hi⟩
 .cases hv with
  |lp _ _ _ _ h _=>rw[aj] at h;cases h;exact absurd rfl L8
  |jr _ a h=>rw[aj] at h;cases h;exact .jr nx a (aj _ _ _)
  |j9 _ _ a b o len room sz h=>rw[aj] at h;cases h;exact .j9 nx 0 a b o len room sz (aj _ _ _)
  |rs _ _ _ cap b o len room sz h h1 h2 h3 h4=>rw[aj] at h;cases h;exact .rs nx 0 n cap b o len room sz (aj _ _ _) h1 h2 h3 h4
 .refine⟨fun i r hi=>?_,fun i j q q' b hq ie e M=>?_,fun i q b hq e=>?_,fun i q b hq e=>?_,fJ.fb⟩
  .by_cases X:i=nx
   .subst X;rw[aj] at hi;cases hi;exact⟨p,aj _ _ _,r3⟩
   .rw[aA _ _ X] at hi;obtain⟨q,hq,NL⟩:=hm.row i r hi;exact⟨q,by rw[aA _ _ X];exact hq,NL.step hs fun b hb=>hk.2.1 b (hm.lt i q b hq hb)⟩
  .rcases C i q b hq e with⟨rfl,rfl⟩|⟨hi,h1⟩<;>rcases C j q' b ie M with⟨rfl,rfl⟩|⟨hj,h2⟩
   .rfl
   .have:=(J b e).1;have:=hm.lt j q' b h2 M;omega
   .have:=(J b M).1;have:=hm.lt i q b h1 e;omega
   .exact hm.inj i j q q' b h1 h2 e M
  .rcases C i q b hq e with⟨_,rfl⟩|⟨_,h1⟩
   .exact(J b e).2
   .exact fJ.lt i q b h1 e
  .rcases C i q b hq e with⟨_,rfl⟩|⟨_,h1⟩
   .intro hF;have:=hm.fb.lt b hF;have:=(J b e).1;omega
   .exact hm.nf i q b h1 e
theorem Zj{o:Oper}{env:Env}{a:Act}{f:FuncId}{args:List D}(U:ia F β w env a)(ha:asks env o.op)(h:dJ (a6 env o.op) o.op=some (f,args))(he:oY P f=true):
 ∃ vs,(execOp a.eval o).run P w=.ok (.enter f vs) w/\Rs F β w args vs:=by
 obtain⟨dst,op,type,pos,after,guard⟩:=o;simp only at ha h;cases op with
 |call c=>
  simp only[dJ] at h;have J:∀ x∈(Op.call c).operands.toList,R F β w (a6 env (.call c) x) (a.eval x):=fun x hx=>(U.opd x).uF _ (ha x hx);split at h
  .rename_i g hg;split at h
   .rename_i k fs cs hk;simp only[aG,bR] at h;obtain⟨rfl,rfl⟩:=h;have h1:=J g (by simp[Op.operands,Call.operands,hg]);rw[hk] at h1;obtain⟨q1,q2⟩:=DQ (F:=F) (β:=β) (w:=w) (xs:=c.args) (ρ:=a6 env (.call c)) (a:=a) (fun x hx=>J x (by simp[Op.operands,Call.operands];exact .inr hx));generalize hv:a.eval g=v at h1;cases h1 with
    |fn _ _ _ us vs hl mP hh M=>
    refine⟨us.toArray++c.args.map a.eval++vs.toArray,?_,?_,?_⟩
    .unfold execOp;simp only[resolve,hg,Sem.run_bind,hv,Deferred.ofValue,Sem.run_pure,Result.andThen_ok,invoke];unfold callFunc;unfold oY at he;simp only[Sem.run_bind,run_program,Result.andThen_ok];split at he
     .rename_i fn qX;simp only[aW,Bool.not_eq_true'] at he
      have hb:fn.body.isNone=false:=by
       cases X:fn.body<;>simp_all
      rw[qX];simp only[he.1,hb,Bool.false_eq_true,if_false,Sem.run_pure]
     .cases he
    .simp[hl,mP]
    .intro j d u hd hu;simp only[List.append_assoc] at hd;simp only[Array.append_assoc] at hu;rcases Nat.lt_or_ge j fs.length with hj|hj
     .rw[List.getElem?_append_left hj] at hd;rw[Array.getElem?_append_left (by simpa[hl] using hj)] at hu;exact hh j d u hd (by simpa using hu)
     .rw[List.getElem?_append_right hj] at hd;rw[Array.getElem?_append_right (by simpa[hl] using hj)] at hu;simp only[List.size_toArray,hl] at hu;generalize j - fs.length=j' at hd hu;rcases Nat.lt_or_ge j' (c.args.toList.map (a6 env (.call c))).length with C|C
      .rw[List.getElem?_append_left C] at hd;rw[Array.getElem?_append_left (by simpa using C)] at hu;exact q2 j' d u hd (by simpa using hu)
      .rw[List.getElem?_append_right C] at hd;rw[Array.getElem?_append_right (by simpa using C)] at hu;exact M _ d u hd (by simpa using hu)
   .cases h
  .cases h
 |_=>simp[dJ] at h
end
section
variable{P:Program}
theorem ad0{o:Op}{ρ C:Operand->D}(h:∀ x∈o.operands,C x=ρ x)(m:Mem)(nx:Nat):bd P o C m nx=bd P o ρ m nx:=by
 have qH:∀ ps:Array (Nat×Operand),(∀ x∈ps.map (·.2),C x=ρ x)->
  (ps.toList.map fun q=>(q.1,C q.2))=(ps.toList.map fun q=>(q.1,ρ q.2)):=fun ps hp=>
  List.map_congr_left fun p hm=>by
   obtain⟨i,x⟩:=p;simp only[hp x (Array.mem_map.2 ⟨(i,x),by simpa using hm,rfl⟩)]
 have args:∀ xs:Array Operand,(∀ x∈xs,C x=ρ x)->xs.toList.map C=xs.toList.map ρ:=fun xs hx=>
  List.map_congr_left fun x hm=>hx x (by simpa using hm)
 cases o with
 |call c=>
  simp only[bd];cases hc:c.callee with
  |builtin b=>simp only[args c.args fun x hx=>h x (by simp[Op.operands,Call.operands,hc,hx])]
  |_=>rfl
 |build t ps=>simp only[bd,qH ps fun x hx=>h x (by simpa[Op.operands] using hx)]
 |buildSlice t n ps=>simp only[bd,qH ps fun x hx=>h x (by simpa[Op.operands] using hx)]
 |makeFunc f fs cs=>simp only[bd,args fs fun x hx=>h x (by simp[Op.operands,hx]),args cs fun x hx=>h x (by simp[Op.operands,hx])]
 |slice t x lo hi J=>
  have e1:lo.map C=lo.map ρ:=by cases lo<;>simp_all[Op.operands]
  have e2:hi.map C=hi.map ρ:=by cases hi<;>simp_all[Op.operands]
  have e3:J.map C=J.map ρ:=by cases J<;>simp_all[Op.operands]
  simp only[bd,e1,e2,e3,h x cI]
 |makeMap t r=>cases r<;>simp_all[bd,Op.operands]
 |_=>first|rfl|(simp only[Op.operands] at h;simp only[bd];simp_all)
theorem Dj{o:Op}{ρ C:Operand->D}(h:∀ x∈o.operands,C x=ρ x):dJ C o=dJ ρ o:=by
 cases o with
 |call c=>
  simp only[dJ];cases hc:c.callee with
  |value f=>
   have e1:c.args.toList.map C=c.args.toList.map ρ:=List.map_congr_left fun x hm=>h x (by simp[Op.operands,Call.operands,hc];exact .inr (by simpa using hm));have e2:C f=ρ f:=h f (by simp[Op.operands,Call.operands,hc]);simp only[e1,e2]
  |_=>rfl
 |_=>rfl
theorem SV{env env':Env}{x:Operand}(h:∀ t,x=.tmp t->env' t=env t):opd env' x=opd env x:=by
 cases x<;>simp_all[opd]
theorem yx{env env':Env}{o:Op}(h:∀ t,Operand.tmp t∈o.operands->env' t=env t):∀ x∈o.operands,a6 env' o x=a6 env o x:=fun x hx=>by
 have:=SV (env:=env) (env':=env') (x:=x) fun t ht=>h t (ht▸hx);unfold a6;cases o<;>simp[this]
theorem yu{env env':Env}{o:Op}(h:∀ t,Operand.tmp t∈o.operands->env' t=env t):asks env' o=asks env o:=by
 have hh:∀ x∈o.operands,opd env' x=opd env x:=fun x hx=>SV fun t ht=>h t (ht▸hx)
 have hl:(∀ x∈o.operands.toList,(opd env' x).ask)=(∀ x∈o.operands.toList,(opd env x).ask):=by
  apply propext;constructor
  .intro hq x hx;rw[<- hh x (by simpa using hx)];exact hq x hx
  .intro hq x hx;rw[hh x (by simpa using hx)];exact hq x hx
 unfold asks;split
 .rw[hh _ cI]
 .exact hl
theorem Pt{m m':Mem}{sz:Nat}{d:D}{p:Prop}{rd:List Nat}{n:Nat}{cs:List D}(h:jP m sz d=some (p,rd,n,cs))(hr:∀ i∈rd,m' i=m i):jP m' sz d=some (p,rd,n,cs):=by
 unfold jP at*
 split at h
 .simpa using h
 .simpa using h
 .rename_i i off n';split at h
  .rename_i cs' e hm;simp only[aG,bR] at h;obtain⟨rfl,rfl,rfl,rfl⟩:=h;rw[hr i oS,hm]
  .cases h
 .cases h
theorem YV{m m':Mem}{t:TypeId}{x k:D}{ok:Bool}{e:dy}(h:oZ P m t x k ok=some e)(hr:∀ i∈e.rd,m' i=m i):oZ P m' t x k ok=some e:=by
 unfold oZ at*
 split at h
 .split at h
  .rename_i hm;cases h;rw[hr _ oS,hm]
  .cases h
 .exact h
 .exact h
 .cases h
theorem PL{m m':Mem}{t:TypeId}{x k v:D}{e:dy}(h:nS P m t x k v=some e)(hr:∀ i∈e.rd,m' i=m i):nS P m' t x k v=some e:=by
 unfold nS at*
 split at h
 .split at h
  .rename_i hm;cases h;rw[hr _ oS,hm]
  .cases h
 .cases h
theorem YW{m m':Mem}{t:TypeId}{x k:D}{e:dy}(h:s4 P m t x k=some e)(hr:∀ i∈e.rd,m' i=m i):s4 P m' t x k=some e:=by
 unfold s4 at*
 split at h
 .split at h
  .rename_i hm;cases h;rw[hr _ oS,hm]
  .cases h
 .cases h
theorem ad1{o:Op}{ρ:Operand->D}{m m':Mem}{nx:Nat}{e:dy}(h:bd P o ρ m nx=some e)(hr:∀ i∈e.rd,m' i=m i):bd P o ρ m' nx=some e:=by
 cases o with
 |call c=>
  simp only[bd] at h ⊢;split at h
  .rename_i b hb;split at h
   .rename_i M;rw[if_pos M];unfold fL at h ⊢;split at h
    .unfold ot at h ⊢;split at h<;>try exact h
     split at h
     .rename_i hm;cases h;rw[hr _ oS,hm]
     .cases h
    .split at h
     .unfold rN at h ⊢;simp only at h ⊢;split at h
      .cases h
      .rename_i hc;split at h
       .cases h;rw[Pt hc hr];simp_all
       .split at h
        .rename_i hm;cases h;rw[Pt hc fun i hi=>hr i (by simp[hi])];rw[hr _ oS,hm];simp_all
        .cases h
       .cases h
     .cases h
    .exact h
    .split at h
     .rename_i hm;cases h;rw[hr _ oS,hm]
     .cases h
    .exact YW h hr
    .cases h
   .cases h
  .cases h
 |lookup t x k ok=>exact YV h hr
 |mapUpdate t x k v=>exact PL h hr
 |insert t x k v=>exact PL h hr
 |slice t x lo hi U=>
  simp only[bd] at h ⊢;unfold nd at h ⊢;split at h
  .exact h
  .split at h
   .rename_i hm;split at h
    .cases h;rw[hr _ oS,hm]
    .cases h
   .cases h
  .exact h
  .cases h
 |binOp op t x y _=>
  simp only[bd] at h ⊢;split at h
  .rename_i J he;simp only[aG] at h;subst h
   have:ns P m' op t (ρ x) y=some J:=by
    unfold ns at he ⊢;split at he
    .exact he
    .split at he
     .rename_i hm;cases he;rw[hr _ oS,hm]
     .cases he
    .split at he
     .rename_i hm;cases he;rw[hr _ oS,hm]
     .cases he
    .cases he
   rw[this]
  .rename_i he;by_cases C:∃ i off,ρ x=.rp i off
   .obtain⟨i,off,e1⟩:=C;rw[e1] at h;simp[vw] at h
   .have:ns P m' op t (ρ x) y=none:=by
     unfold ns at he ⊢;split at he
     .cases he
     .rename_i i off e1;exact absurd ⟨_,_,e1⟩ C
     .rename_i i off e1;exact absurd ⟨_,_,e1⟩ C
     .simp_all
    rw[this];exact h
 |_=>
  first
  |exact h
  |(simp only[bd] at h ⊢
    repeat' split at h
    all_goals first
     |(cases h;done)
     |exact h
     |(cases h;simp_all;done)
     |(simp_all;done))
end
end Go.Abs
namespace Go.Abs
open Go.ChangeShapes Go.WideShapes
inductive Sh
 |int (k:IntKind)
 |bool
 |str
 |sl (s:Sh)
 |unit
 |pair (a b:Sh)
def Sh.val:Sh->Type
 | .int _=>Int
 | .bool=>Bool
 | .str=>ByteArray
 | .sl s=>List s.val
 | .unit=>Unit
 | .pair a b=>a.val×b.val
def Sh.size:Sh->Nat
 | .unit=>0
 | .pair a b=>a.size+b.size
 |_=>1
def Sh.enc:(s:Sh)->s.val->List D
 | .int k,n=>[.s (.int k n)]
 | .bool,b=>[.s (.bool b)]
 | .str,b=>[.s (.string b)]
 | .sl s,l=>[.sl (List.flatMap s.enc l) (List.length l)]
 | .unit,_=>[]
 | .pair a b,x=>a.enc x.1++b.enc x.2
def Sh.sS:Sh->Bool
 | .int .u64=>false
 | .sl s=>s.sS
 | .pair a b=>a.sS&&b.sS
 |_=>true
def Sh.arg:(s:Sh)->s.val->D
 | .int k,n=>.s (.int k n)
 | .bool,b=>.s (.bool b)
 | .str,b=>.s (.string b)
 | .sl s,l=>.sl (List.flatMap s.enc l) (List.length l)
 | .unit,_=>.agg []
 | .pair a b,x=>.agg (a.enc x.1++b.enc x.2)
def Sh.ok:(s:Sh)->s.val->Prop
 | .int k,n=>(Lit.int k n).wf=true
 | .bool,_=>True
 | .str,b=>ByteArray.size b<=maxLen
 | .sl s,l=>∀ x:s.val,List.Mem x l->s.ok x
 | .unit,_=>True
 | .pair a b,x=>a.ok x.1/\b.ok x.2
theorem Sh.De:∀ (s:Sh) (x:s.val),(s.enc x).length=s.size
 | .int _,_ | .bool,_ | .str,_ | .sl _,_ | .unit,_=>rfl
 | .pair a b,x=>by simp[Sh.enc,Sh.size,Sh.De a,Sh.De b]
section
variable(P:Program)
def xy(sh:TypeId->Option Sh):Nat->List Field->Option Sh
 |_,[]=>some .unit
 |off,f::fs=>if f.offset=off then match sh f.type,xy sh (off+P.cellsOf f.type) fs with
  |some a,some b=>some (.pair a b)
  |_,_=>none
  else none
def uo:Nat->TypeId->Option Sh
 |0,_=>none
 |n+1,t=>match P.underlying t with
  |some .bool=>if P.cellsOf t=1 then some .bool else none
  |some (.int k)=>if P.cellsOf t=1 then some (.int k) else none
  |some .string=>if P.cellsOf t=1 then some .str else none
  |some (.slice e)=>if P.cellsOf t=1/\0<P.cellsOf e then(uo n e).map .sl else none
  |some (.struct fs)=>match xy P (uo n) 0 fs.toList with
   |some s=>if s.size=P.cellsOf t then some s else none
   |none=>none
  |_=>none
end
section
variable{P:Program}{H:Type}{ec:TypeId×Value->H}{w:World}{base:Nat}{spare:Nat->Bool}{held:Bool}{F:Nat->Prop}
def Holds(F:Nat->Prop)(w:World)(ds:List D)(cs:List Value):Prop:=ds.length=cs.length/\∀ (k:Nat) (d:D) (u:Value),ds[k]? =some d->cs[k]? =some u->R F gU w d u/\u.oneCell'=true
theorem Holds.app{ds C:List D}{cs cs':List Value}(h:Holds F w ds cs)(h':Holds F w C cs'):Holds F w (ds++C) (cs++cs'):=by
 refine⟨by simp[h.1,h'.1],fun k d u hd hu=>?_⟩;by_cases hk:k<ds.length
 .rw[List.getElem?_append_left hk] at hd;rw[List.getElem?_append_left (by have:=h.1;omega)] at hu;exact h.2 k d u hd hu
 .rw[List.getElem?_append_right oG] at hd;rw[List.getElem?_append_right (by have:=h.1;omega), <- h.1] at hu;exact h'.2 (k - ds.length) d u hd hu
theorem Holds.one{d:D}{u:Value}(h:R F gU w d u)(h':u.oneCell'=true):Holds F w [d] [u]:=⟨rfl,fun k d' C hd hu=>by
 cases k with
 |zero=>simp at hd hu;subst hd hu;exact⟨h,h'⟩
 |succ k=>simp at hd⟩
theorem Holds.nil:Holds F w [] []:=⟨rfl,oS⟩
theorem Su{sh:TypeId->Option Sh}{off:Nat}{s:Sh}(h:xy P sh off []=some s):s=.unit:=by
 simp only[xy,aG] at h;exact h.symm
theorem Rv{sh:TypeId->Option Sh}{off:Nat}{f:Field}{fs:List Field}{s:Sh}(h:xy P sh off (f::fs)=some s):
 f.offset=off/\∃ a b,sh f.type=some a/\xy P sh (off+P.cellsOf f.type) fs=some b/\s=.pair a b:=by
 simp only[xy] at h;split at h
 .rename_i C;split at h
  .rename_i a b ha hb;simp only[aG] at h;exact⟨C,a,b,ha,hb,h.symm⟩
  .cases h
 .cases h
theorem Gw:∀ (n:Nat) (t:TypeId) (s:Sh),uo P n t=some s->s.size=P.cellsOf t
 |0,_,_,h=>by cases h
 |n+1,t,s,h=>by
  unfold uo at h;split at h
  .split at h
   .rename_i h1;simp only[aG] at h;subst h;exact h1.symm
   .cases h
  .split at h
   .rename_i h1;simp only[aG] at h;subst h;exact h1.symm
   .cases h
  .split at h
   .rename_i h1;simp only[aG] at h;subst h;exact h1.symm
   .cases h
  .split at h
   .rename_i h1;simp only[cU] at h;obtain⟨a,_,rfl⟩:=h;exact h1.1.symm
   .cases h
  .split at h
   .split at h
    .rename_i h1;simp only[aG] at h;subst h;exact h1
    .cases h
   .cases h
  .cases h
def Reads(P:Program)(F:Nat->Prop)(w:World)(sh:TypeId->Option Sh)(rd:TypeId->List Value->Option (DataW H×List MemPlace)):Prop:=
 ∀ t s cs x,sh t=some s->s.sS=true->cs.length=P.cellsOf t->rd t cs=some x->∃ v:s.val,s.ok v/\Holds F w (s.enc v) cs
theorem L3:∀ (s:Sh) (x:s.val),s.sS=true->∀ d∈s.enc x,∀ n:Int,¬ R F gU w d (.int .u64 n)
 | .int k,x,h,d,hd,n,hr=>by
  simp only[Sh.enc,List.mem_singleton] at hd;subst hd;cases hr;cases h
 | .bool,x,h,d,hd,n,hr=>by
  simp only[Sh.enc,List.mem_singleton] at hd;subst hd;cases hr
 | .str,x,h,d,hd,n,hr=>by
  simp only[Sh.enc,List.mem_singleton] at hd;subst hd;cases hr
 | .sl s,x,h,d,hd,n,hr=>by
  simp only[Sh.enc,List.mem_singleton] at hd;generalize List.flatMap s.enc x=es at hd;generalize List.length x=k at hd;subst hd;cases hr
 | .unit,x,h,d,hd,n,hr=>by simp[Sh.enc] at hd
 | .pair a b,x,h,d,hd,n,hr=>by
  simp only[Sh.sS,aW] at h;simp only[Sh.enc,List.mem_append] at hd;rcases hd with hd|hd
  .exact L3 a x.1 h.1 d hd n hr
  .exact L3 b x.2 h.2 d hd n hr
def EB(F:Nat->Prop)(w:World):Prop:=∀ b o u,F b->w.cell? ⟨b,o,none⟩=some u->∃ n,u=.int .u64 n
theorem Sv{sh:TypeId->Option Sh}{rd:TypeId->List Value->Option (DataW H×List MemPlace)}(hz:∀ t s,sh t=some s->s.size=P.cellsOf t)(h:Reads P F w sh rd){cs:List Value}:∀ (fs:List Field) (off:Nat) (s:Sh),xy P sh off fs=some s->s.sS=true->off+s.size<=cs.length->
 (∀ f∈fs,∃ x,rd f.type ((cs.drop f.offset).take (P.cellsOf f.type))=some x)->∃ v:s.val,s.ok v/\Holds F w (s.enc v) ((cs.drop off).take s.size)
 |[],off,s,hs,_,_,_=>by
  obtain rfl:=Su hs;exact⟨(),trivial,by simp[Sh.enc,Sh.size,Holds]⟩
 |f::fs,off,s,hs,hn,hl,hr=>by
  obtain⟨X,a,b,ha,hb,rfl⟩:=Rv hs;simp only[Sh.sS,aW] at hn;obtain⟨x,hx⟩:=hr f oS;have mP:off+(a.size+b.size)<=cs.length:=hl;have bD:=hz _ _ ha;rw[X] at hx;obtain⟨v,U,hv⟩:=h f.type a _ x ha hn.1 (by simp only[List.length_take,List.length_drop];omega) hx;rw[<- bD] at hb hv;obtain⟨J,C,M⟩:=Sv hz h fs (off+a.size) b hb hn.2 oG fun g hg=>hr g (by simp[hg]);refine⟨(v,J),⟨U,C⟩,?_⟩;have:=hv.app M;show Holds F w (a.enc v++b.enc J) ((cs.drop off).take (a.size+b.size));rw[List.take_add,List.drop_drop];exact this
theorem Ks{a:Addr}{n:Nat}{cs:List Value}(h:w.cells? base a n=some cs):cs.length=n/\∀ k,k<n->w.cell? (a.add k)=cs[k]? /\k<cs.length:=by
 unfold World.cells? at h;split at h
 .have hl:cs.length=n:=by simpa using mapM_some_length h
  exact⟨hl,fun k hk=>⟨mapM_some_get h k k (by simp[hk]),oG⟩⟩
 .cases h
theorem P3{α β:Type}{p:Nat->α->β->Prop}:∀ (n:Nat) (l:Nat->α),(∀ i,i<n->∃ y,p i (l i) y)->∃ ys:List β,ys.length=n/\∀ i (h:i<n) y,ys[i]? =some y->p i (l i) y
 |0,_,_=>⟨[],rfl,fun i h=>by omega⟩
 |n+1,l,h=>by
  obtain⟨ys,h1,h2⟩:=P3 n l fun i hi=>h i oG;obtain⟨y,hy⟩:=h n oG;refine⟨ys++[y],by simp[h1],fun i hi z hz=>?_⟩;by_cases C:i<n
  .rw[List.getElem?_append_left oG] at hz;exact h2 i C z hz
  .have:i=n:=by omega
   subst this;rw[List.getElem?_append_right oG] at hz;simp[h1] at hz;subst hz;exact hy
theorem KW{α:Type}{f:α->List D}{sz:Nat}(hs:∀ x,(f x).length=sz):∀ (l:List α) (i j:Nat),j<sz->(l.flatMap f)[i*sz+j]? =(l[i]?).bind fun x=>(f x)[j]?
 |[],i,j,_=>by simp
 |x::l,0,j,h=>by simp[List.getElem?_append_left (show j<(f x).length by rw[hs];exact h)]
 |x::l,i+1,j,h=>by
  rw[List.flatMap_cons,List.getElem?_append_right (by rw[hs,Nat.add_mul];omega)];have:(i+1)*sz+j - (f x).length=i*sz+j:=by rw[hs,Nat.add_mul];omega
  rw[this,KW hs l i j h];simp
theorem LA(hF:EB F w):∀ (ek n:Nat),Reads P F w (uo P n) (DataW.trod ec P w base spare held ek)
 |ek,0,t,s,cs,x,h,_,_,_=>by cases h
 |ek,n+1,t,s,cs,x,h,sT,hl,hr=>by
  have bD:=Gw _ _ _ h;unfold uo at h;split at h
  .rename_i ht;split at h
   .simp only[aG] at h;subst h;obtain⟨b,rfl,_⟩:=DataW.trod_bool ht hr;exact⟨b,trivial,.one (.s _ rfl) rfl⟩
   .cases h
  .rename_i k ht;split at h
   .simp only[aG] at h;subst h;obtain⟨b,rfl,_,hw⟩:=DataW.trod_int ht hr;exact⟨b,hw,.one (.s _ rfl) rfl⟩
   .cases h
  .rename_i ht;split at h
   .simp only[aG] at h;subst h;obtain⟨b,rfl,_,hw⟩:=DataW.trod_string ht hr;exact⟨b,hw,.one (.s _ rfl) rfl⟩
   .cases h
  .rename_i e ht;split at h
   .rename_i hc;simp only[cU] at h;obtain⟨a,ha,rfl⟩:=h;have haz:=Gw _ _ _ ha;rcases DataW.trod_slice ht hr with⟨rfl,_⟩|⟨ad,len,cap,Vn,rest,fl,rfl,rfl,_,hb,Xf,hm,hlen,uj,_,_⟩
    .exact⟨([]:List a.val),(fun x h=>nomatch h),.one (by exact .gy none 0) rfl⟩
    .have WB:∀ i,i<len->∃ C:List Value,w.cells? base (ad.add (i*P.cellsOf e)) (P.cellsOf e)=some C/\∃ y,DataW.trod ec P w base spare held fl e C=some y:=fun i hi=>by
      have:=uj i hi;have hg:Vn[i]? =some Vn[i]:=by simp[hlen,hi]
      rw[hg,Option.bind_eq_some_iff] at this;obtain⟨C,h1,h2⟩:=this;exact⟨C,h1,_,h2⟩
     have EW:∀ i,i<len->∃ v:a.val,a.ok v/\∃ C,w.cells? base (ad.add (i*P.cellsOf e)) (P.cellsOf e)=some C/\Holds F w (a.enc v) C:=fun i hi=>by
      obtain⟨C,h1,y,h2⟩:=WB i hi;obtain⟨v,X,hv⟩:=LA hF fl n e a C y ha sT (Ks h1).1 h2;exact⟨v,X,C,h1,hv⟩
     obtain⟨vs,pw,I5⟩:=P3 (p:=fun(i:Nat) (_:Nat) (v:a.val)=>a.ok v/\∃ C,w.cells? base (ad.add (i*P.cellsOf e)) (P.cellsOf e)=some C/\Holds F w (a.enc v) C) len (fun i=>i) EW
     have amj:∀ x:a.val,x∈vs->a.ok x:=fun x hm=>by
      obtain⟨i,hx⟩:=dN hm;exact(I5 i (by have:=(bI.1 hx).1;omega) x hx).1
     cases len with
     |zero=>
      have:vs=[]:=List.length_eq_zero_iff.1 pw;subst this;exact⟨([]:List a.val),(fun x h=>nomatch h),.one (by exact .gy _ cap) rfl⟩
     |succ l=>
      obtain⟨C,h0,_⟩:=WB 0 oG;have FK:=(Ks h0).2 0 hc.2;simp only[Nat.zero_mul,Addr.add,if_true] at FK;obtain⟨b,o,sp⟩:=ad;have H9:∃ u,w.cell? ⟨b,o,sp⟩=some u:=⟨C[0],by rw[FK.1];simp[FK.2]⟩
      obtain⟨u0,J⟩:=H9;unfold World.cell? at J
      have fu:b<w.heap.size:=by
       cases hh:w.heap[b]? with
       |none=>rw[hh] at J;cases J
       |some x=>exact(Array.getElem?_eq_some_iff.1 hh).1
      have hsp:sp=none:=by
       cases sp with
       |none=>rfl
       |some q=>
        simp only at J;split at J
        .simp at J
        .cases J
      subst hsp
      have amk:∀ i j,((⟨b,o,none⟩:Addr).add i).add j=⟨b,o+(i+j),none⟩:=fun i j=>by
       unfold Addr.add;split<;>split<;>simp_all;omega
      have hk:∀ k d,(vs.flatMap a.enc)[k]? =some d->∃ u,w.cell? ⟨b,o+k,none⟩=some u/\R F gU w d u/\u.oneCell'=true:=fun k d hd=>by
       have U:0<a.size:=by omega
       have zT:k / a.size*a.size+k % a.size=k:=by rw[Nat.mul_comm];exact Nat.div_add_mod k a.size
       have Ft:=Nat.mod_lt k U;rw[<- zT,KW a.De _ _ _ Ft,Option.bind_eq_some_iff] at hd;obtain⟨x,hx,hd⟩:=hd
       have hi:k / a.size<l+1:=by
        have:=(bI.1 hx).1;omega
       obtain⟨_,C,Je,hho⟩:=I5 _ hi x hx;obtain⟨h1,h2⟩:=(Ks Je).2 (k % a.size) oG;rw[amk, <- haz,zT] at h1;refine⟨C[k % a.size],by rw[h1];simp[h2],hho.2 _ d _ hd (by simp[h2])⟩
      have py:¬ F b:=fun hb=>by
       obtain⟨x0,CD⟩:∃ x0,vs[0]? =some x0:=⟨_,aL (show 0<vs.length by omega)⟩
       have U:0<a.size:=by omega
       obtain⟨M,ma⟩:∃ M,(vs.flatMap a.enc)[0]? =some M:=by
        have:=KW a.De vs 0 0 U;rw[Nat.zero_mul,Nat.zero_add,CD] at this;rw[this];exact⟨_,aL (by rw[a.De];exact U)⟩
       obtain⟨u,h1,h2,_⟩:=hk 0 M ma;obtain⟨q,rfl⟩:=hF _ _ _ hb h1;obtain⟨x1,xL,sJ⟩:=List.mem_flatMap.1 (bu ma);exact L3 a x1 sT M sJ q h2
      refine⟨vs,fun x h=>amj x h,.one (by
       have WW:(List.length vs)=l+1:=pw;show R _ _ _ (.sl (List.flatMap a.enc vs) (List.length vs)) _;rw[WW];refine .sl _ _ b o cap (fun k=>(w.cell? ⟨b,o+k,none⟩).getD undef) py (fun _ _ h=>by cases h) fu Xf hm (fun k gC=>?_) fun k d hd=>?_
       .obtain⟨u,h1,_,h3⟩:=hk k _ (aL gC);simp[h1,h3]
       .obtain⟨u,h1,h2,_⟩:=hk k d hd
        simpa[h1] using h2) rfl⟩
   .cases h
  .rename_i fs ht;obtain⟨xs,fl,rfl,_,_,xH,zS⟩:=DataW.trod_struct ht hr;split at h
   .rename_i s' cQ;split at h
    .rename_i hs;simp only[aG] at h;subst h
     obtain⟨v,X,hv⟩:=Sv (P:=P) (w:=w) (fun t s=>Gw n t s) (LA hF fl n) (cs:=cs) fs.toList 0 s' cQ sT oG fun f hf=>by
      obtain⟨i,hi,rfl⟩:=Array.getElem_of_mem (Array.mem_toList_iff.1 hf);have:=zS i fs[i] (by simp[hi]);exact⟨xs[i],by rw[this];simp[xH,hi]⟩
     refine⟨v,X,?_⟩;rw[List.drop_zero,dq oG] at hv;exact hv
    .cases h
   .cases h
  .cases h
theorem aiP(hF:EB F w){r:Reach}{b0:Nat}{t:TypeId}{v:Value}{d:DataW H}{ps:List MemPlace}{n:Nat}{s:Sh}(hs:uo P n t=some s)(sT:s.sS=true)(hv:Value.okWide P w r b0 t v)(hd:DataW.Trod ec P w base spare held t v d ps):
 ∃ x:s.val,s.ok x/\R F gU w (s.arg x) v:=by
 cases n with
 |zero=>cases hs
 |succ n=>
  obtain⟨ek,hf⟩:=hd;have hz:=Gw _ _ _ hs;have key:v.cells.toList.length=P.cellsOf t->∃ x:s.val,s.ok x/\Holds F w (s.enc x) v.cells.toList:=fun hl=>LA hF ek (n+1) t s _ _ hs sT hl hf;unfold uo at hs;split at hs
  .rename_i ht;obtain⟨b,rfl⟩:=okWide_bool ht hv;split at hs
   .simp only[aG] at hs;subst hs;exact⟨b,trivial,.s _ rfl⟩
   .cases hs
  .rename_i k ht;obtain⟨b,rfl⟩:=okWide_int ht hv;split at hs
   .simp only[aG] at hs;subst hs;obtain⟨c,hc,_,M⟩:=DataW.trod_int ht hf;simp[Value.cells] at hc;subst hc;exact⟨b,M,.s _ rfl⟩
   .cases hs
  .rename_i ht;obtain⟨b,rfl⟩:=okWide_string ht hv;split at hs
   .simp only[aG] at hs;subst hs;obtain⟨c,hc,_,M⟩:=DataW.trod_string ht hf;simp[Value.cells] at hc;subst hc;exact⟨b,M,.s _ rfl⟩
   .cases hs
  .rename_i e ht;obtain⟨a,len,cap,rfl⟩:=okWide_slice ht hv;split at hs
   .rename_i h1;simp only[cU] at hs;obtain⟨q,_,rfl⟩:=hs;obtain⟨x,J,hx⟩:=key h1.1.symm;exact⟨x,J,(hx.2 0 _ _ rfl rfl).1⟩
   .cases hs
  .rename_i fs ht;obtain⟨cs,rfl,bD⟩:=okWide_struct ht hv;obtain⟨x,J,hx⟩:=key (by simpa[Value.cells] using bD);refine⟨x,J,?_⟩
   have ha:s.arg x=.agg (s.enc x):=by
    split at hs
    .rename_i s' C;split at hs
     .simp only[aG] at hs;subst hs;cases U:fs.toList with
      |nil=>
       rw[U] at C;obtain rfl:=Su C;rfl
      |cons f X=>
       rw[U] at C;obtain⟨_,a,b,_,_,rfl⟩:=Rv C;rfl
     .cases hs
    .cases hs
   rw[ha];have:=hx.1;simp only[Value.cells] at this hx;have e:cs=cs.toList.toArray:=by simp
   rw[e];exact .agg _ cs.toList this.symm fun k d v h1 h2=>(hx.2 k d v h1 h2).1
  .cases hs
theorem KX{α β:Type}(f:α->β):∀ l:List α,(l.flatMap fun x=>[f x])=l.map f
 |[]=>rfl
 |x::l=>by rw[List.flatMap_cons,KX f l];rfl
theorem QA{α β γ:Type}{f:α->List γ}{g:β->List γ}{h:α->β}(he:∀ x,f x=g (h x)):∀ l:List α,l.flatMap f=(l.map h).flatMap g
 |[]=>rfl
 |x::l=>by rw[List.flatMap_cons,List.map_cons,List.flatMap_cons,he,QA he l]
end
end Go.Abs
namespace Go.Abs
abbrev Fe(r:Option Nat):Fence:={ fn:=fun _=>True,depth:=none,alive:=false,round:=r }
theorem Kx{r:Option Nat}{n:Nat}{P:Program}{f:FuncId}{args:Array Value}{w:World}{R:Ending->World->Prop}(h:Calls P f args w R):CallsIn (Fe r) n P f args w R:=
 (callsIn_wide.2 h:CallsIn Fence.wide n P f args w R)
def qF(r:Option Nat)(n:Nat)(P:Program)(ops:Array Oper)(C:Exit->Act->World->Prop)(o:Oper)(K:Act->World->Prop)(a:Act)(w:World):Prop:=
 if Region.wanted o (yielded ops a.tmps) then o.wpIn (Fe r) n P a w K C else(∀ f,o.about P w a.eval=some f->(Fe r).fn f)/\K (a.put o.dst undef) w
section
variable{P:Program}{ops:Array Oper}
theorem JE{r:Option Nat}{n:Nat}{C:Exit->Act->World->Prop}{i:Nat}{o:Oper}(hi:ops[i]? =some o){K:Act->World->Prop}{a:Act}{w:World}(h:qF r n P ops C o K a w):
 wpOpIn (Fe r) n P ops C i K a w:=by
 unfold wpOpIn;simp only[hi];exact h
structure dp where
 val:D
 aU:List (Nat×Option Row):=[]
 rd:List Nat:=[]
 new:Nat:=0
def dp.wr(p:dp):List Nat:=p.aU.map (·.1)
def dp.Ok(P:Program)(ops:Array Oper)(o:Oper)(st:St)(p:dp):Prop:=
 ∀ (F:Nat->Prop) (β:aE) (w:World) (a:Act) (m:Mem) (env:Env) (N:Nat),(∀ t∈o.looksAt ops,env t=st.env t)->ia F β w env a->aJ P F m β w->
  (∀ i∈p.rd,st.mem i≠none->m i=st.mem i)->(∀ i,st.nx<=i->i<st.nx+p.new->β i=none)->(∀ i,N<=i->β i=none)->
  ∀ (r:Option Nat) (n:Nat) (C:Exit->Act->World->Prop) (K:Act->World->Prop),
   (∀ v w' β',R F β' w' p.val v->aJ P F (cK m p.aU) β' w'->Step β w β' w'->(∀ i,β i=none->(i<st.nx\/st.nx+p.new<=i)->β' i=none)->K (a.put o.dst v) w')->
   qF r n P ops C o K a w
structure dp.tJ(p:dp)(k:Nat)(st:St):Prop where
 wr:∀ i∈p.wr,st.mem i≠none\/(st.nx<=i/\i<st.nx+p.new)
 k0:k=0->p.rd=[]/\p.aU=[]
 k1:k=1->p.aU=[]
 k3:k=3->p.rd=[]/\∀ i∈p.wr,st.nx<=i
theorem LQ{r:Option Nat}{o:Oper}(h:∀ c,o.op≠ .defer c)(ρ:Operand->Value):o.semAt r ρ=execOp ρ o:=Oper.semAt_eq r ρ o h
theorem aea{F:Nat->Prop}{β:aE}{w:World}{env:Env}{a:Act}(J:ia F β w env a){j t:Nat}{b c:Bool}(ht:(ops[j]?).bind (·.dst)=some t)(hc:kz (env t) b=some c):
 (yielded ops a.tmps j==some b)=c:=by
 have h:=J t
 have hy:yielded ops a.tmps j=match a.tmps[t]? with|some (.bool b)=>some b|_=>none:=by
  unfold yielded;rw[ht];rfl
 have hq:∀ x:Value,a.tmps.getD t undef=x->x≠undef->a.tmps[t]? =some x:=fun x hx C=>by
  simp only[Array.getD_eq_getD_getElem?] at hx;cases hg:a.tmps[t]? with
  |none=>rw[hg] at hx;exact absurd hx.symm C
  |some y=>rw[hg] at hx;simpa using hx
 have hf:∀ {d:D},R F β w (.cB false d) (a.tmps.getD t undef)->c=false->(yielded ops a.tmps j==some b)=c:=fun {d} h M=>by
  generalize hv:a.tmps.getD t undef=v at h;cases h with
  |cB _ _ _ h1 h2=>
   have:=h2 rfl;rw[hy,M];simp only[Array.getD_eq_getD_getElem?] at hv;cases hg:a.tmps[t]? with
   |none=>simp
   |some y=>
    rw[hg] at hv;simp only[Option.getD_some] at hv;rw[hv,this];simp[undef]
 unfold kz at hc;split at hc
 .rename_i g U e;rw[e] at h;have:=h.c6.1;rw[hy,hq _ this (by simp[undef])];simpa using hc
 .rename_i _ c1 d e;rw[e] at h;cases c1 with
  |false=>
   refine hf h ?_;split at hc<;>simpa using hc.symm
  |true=>
   split at hc
   .generalize hv:a.tmps.getD t undef=v at h;cases h with
    |cB _ _ _ h1 h2=>
     have:=(h1 rfl).c6.1;rw[hy,hq _ (hv.trans this) (by simp[undef])];simpa using hc
   .simp at hc
 .cases hc
end
section
variable{P:Program}{ops:Array Oper}{o:Oper}{st:St}
theorem Yy{m:Mem}{sz:Nat}{d:D}{p:Prop}{rd:List Nat}{n:Nat}{cs:List D}(h:jP m sz d=some (p,rd,n,cs)):∀ i∈rd,m i≠none:=by
 unfold jP at h;split at h
 .cases h;simp
 .cases h;simp
 .split at h
  .rename_i hm;cases h;simp[hm]
  .cases h
 .cases h
theorem PB{m:Mem}{t:TypeId}{x k:D}{ok:Bool}{e:dy}(h:oZ P m t x k ok=some e):e.aU=[]/\e.new=0/\∀ i∈e.rd,m i≠none:=by
 unfold oZ at h;split at h
 .split at h
  .rename_i hm;cases h;simp[hm]
  .cases h
 .cases h;simp
 .cases h;simp
 .cases h
theorem FP{m:Mem}{t:TypeId}{x k v:D}{e:dy}(h:nS P m t x k v=some e):(∀ i∈e.aU.map (·.1),m i≠none)/\∀ i∈e.rd,m i≠none:=by
 unfold nS at h;split at h
 .split at h
  .rename_i hm;cases h;simp[hm]
  .cases h
 .cases h
theorem PC{m:Mem}{t:TypeId}{x k:D}{e:dy}(h:s4 P m t x k=some e):(∀ i∈e.aU.map (·.1),m i≠none)/\∀ i∈e.rd,m i≠none:=by
 unfold s4 at h;split at h
 .split at h
  .rename_i hm;cases h;simp[hm]
  .cases h
 .cases h
theorem RU{op:Op}{ρ:Operand->D}{m:Mem}{nx:Nat}{e:dy}(h:bd P op ρ m nx=some e):
 (∀ i∈e.aU.map (·.1),m i≠none\/(nx<=i/\i<nx+e.new))/\(c7 op=0->e.rd=[]/\e.aU=[])/\(c7 op=1->e.aU=[])/\(c7 op=3->e.rd=[]/\∀ i∈e.aU.map (·.1),nx<=i):=by
 cases op with
 |call c=>
  have h0:(∀ i∈e.aU.map (·.1),m i≠none\/(nx<=i/\i<nx+e.new))/\(c.callee=.builtin .len->e.aU=[])/\(c.callee=.builtin .min->e.rd=[]/\e.aU=[]):=by
   simp only[bd] at h;split at h
   .rename_i b hb;split at h
    .unfold fL at h;split at h
     .refine⟨?_,fun _=>?_,fun hx=>(by rw[hx] at hb;cases hb)⟩<;>
      .unfold ot at h;split at h<;>first|(cases h;simp;done)|skip
       all_goals first|(cases h;done)|skip
       all_goals (split at h<;>first|(cases h;simp;done)|(cases h;done))
     .refine⟨?_,fun hx=>(by rw[hx] at hb;cases hb),fun hx=>(by rw[hx] at hb;cases hb)⟩;split at h
      .unfold rN at h;simp only at h;split at h
       .cases h
       .rename_i hc;split at h
        .cases h;simp
        .split at h
         .rename_i hm;cases h;intro i hi;simp only[List.map_cons,List.map_nil,List.mem_cons,List.not_mem_nil,or_false] at hi;rcases hi with rfl|rfl
          .left;simp[hm]
          .right;simp
         .cases h
        .cases h
      .cases h
     .cases h;refine⟨oS,fun _=>rfl,fun _=>⟨rfl,rfl⟩⟩
     .refine⟨?_,fun hx=>(by rw[hx] at hb;cases hb),fun hx=>(by rw[hx] at hb;cases hb)⟩;split at h
      .rename_i hm;cases h;simp[hm]
      .cases h
     .exact⟨fun i hi=>.inl ((PC h).1 i hi),fun hx=>(by rw[hx] at hb;cases hb),fun hx=>(by rw[hx] at hb;cases hb)⟩
     .cases h
    .cases h
   .cases h
  refine⟨h0.1,fun hk=>?_,fun hk=>?_,fun hk=>?_⟩
  .unfold c7 at hk;split at hk<;>first|(cases hk;done)|skip
   all_goals first|(rename_i hx;injection hx with hx;subst hx;exact h0.2.2 rfl)|(simp_all;done)
  .unfold c7 at hk;split at hk<;>first|(cases hk;done)|skip
   all_goals first|(rename_i hx;injection hx with hx;subst hx;exact h0.2.1 rfl)|(simp_all;done)
  .unfold c7 at hk;split at hk<;>first|(cases hk;done)|skip
   all_goals simp_all
 |binOp op t x y _=>
  simp only[bd] at h;split at h
  .rename_i C he;simp only[aG] at h;subst h
   have h0:C.aU=[]/\(op=.eql\/op=.neq):=by
    unfold ns at he;split at he
    .cases he;exact⟨rfl,.inl rfl⟩
    .split at he
     .cases he;exact⟨rfl,.inl rfl⟩
     .cases he
    .split at he
     .cases he;exact⟨rfl,.inr rfl⟩
     .cases he
    .cases he
   refine⟨by simp[h0.1],fun hk=>?_,fun _=>h0.1,fun hk=>?_⟩
   .rcases h0.2 with rfl|rfl<;>simp[c7] at hk
   .rcases h0.2 with rfl|rfl<;>simp[c7] at hk
  .cases hb:vw P op t (ρ x) (ρ y) with
   |none=>rw[hb] at h;cases h
   |some r=>rw[hb] at h;cases h;simp
 |lookup t x k ok=>
  have:=PB h;refine⟨by simp[this.1],fun hk=>?_,fun _=>this.1,fun hk=>?_⟩<;>simp[c7] at hk
 |mapUpdate t x k v=>
  refine⟨fun i hi=>.inl ((FP h).1 i hi),fun hk=>?_,fun hk=>?_,fun hk=>?_⟩<;>simp[c7] at hk
 |insert t x k v=>
  refine⟨fun i hi=>.inl ((FP h).1 i hi),fun hk=>?_,fun hk=>?_,fun hk=>?_⟩<;>simp[c7] at hk
 |slice t x lo hi J=>
  have h0:e.aU=[]:=by
   simp only[bd] at h;unfold nd at h
   repeat' split at h
   all_goals first|(cases h;done)|(cases h;rfl)
  refine⟨by simp[h0],fun hk=>?_,fun _=>h0,fun hk=>?_⟩<;>simp[c7] at hk
 |_=>
  first
  |(simp only[bd] at h;cases h;simp[c7];done)
  |(simp only[bd] at h
    repeat' split at h
    all_goals first
     |(cases h;done)
     |(cases h;simp_all[c7];done)
     |(simp only[cU] at h;obtain⟨x,hx,rfl⟩:=h;simp[c7];done))
def ji(ops:Array Oper)(o:Oper)(st:St)(c:Bool):Prop:=
 ∀ (F:Nat->Prop) (β:aE) (w:World) (a:Act) (env:Env),(∀ t∈o.looksAt ops,env t=st.env t)->ia F β w env a->Region.wanted o (yielded ops a.tmps)=c
theorem Qj(h:o.guard=none):ji ops o st true:=fun _ _ _ _ _ _ _=>by simp[Region.wanted,h]
theorem ZJ{j t:Nat}{b c:Bool}(h:o.guard=some (j,b))(ht:(ops[j]?).bind (·.dst)=some t)(hc:kz (st.env t) b=some c):ji ops o st c:=fun F β w a env he C=>by
 have:=he t (by simp[Oper.looksAt,h,ht]);rw[<- this] at hc;have h1:=aea C ht hc;simpa[Region.wanted,h] using h1
theorem yo{env:Env}(he:∀ t∈o.looksAt ops,env t=st.env t):∀ t,Operand.tmp t∈o.op.operands->env t=st.env t:=fun t ht=>
 he t (List.mem_append_left _ (List.mem_filterMap.2 ⟨.tmp t,by simpa using ht,rfl⟩))
theorem S9(M:ji ops o st false)(d:D)(hd:∀ F β w,R F β w d undef):dp.Ok P ops o st ⟨d,[],[],0⟩:=by
 intro F β w a m env N he C hm hr hn X r n U K J;unfold qF;rw[M F β w a env he C,if_neg oS];exact⟨fun _ _=>trivial,J undef w β (hd F β w) hm (Step.refl β w) fun _ h _=>h⟩
theorem TX{c:Bool}{d:D}{rd:List Nat}(X:ji ops o st c)(h:c=true->dp.Ok P ops o st ⟨d,[],rd,0⟩):dp.Ok P ops o st ⟨.cB c d,[],rd,0⟩:=by
 intro F β w a m env N he J hm hr hn U r n C K M;cases c with
 |true=>exact h rfl F β w a m env N he J hm hr hn U r n C K fun v w' β' h1=>M v w' β' (.cB true d v (fun _=>h1) oS)
 |false=>
  have:=S9 (P:=P) X (.cB false d) fun F β w=>.cB false d undef oS fun _=>rfl;exact this F β w a m env N he J hm oS hn U r n C K M
theorem S3{F:Nat->Prop}{m:Mem}{nx:Nat}{β:aE}{w:World}{a:Act}{e:dy}(eh:∀ c,o.op≠ .defer c)(hw:Region.wanted o (yielded ops a.tmps)=true)(h:aX P F m nx β w e (execOp a.eval o))
 {r:Option Nat} {n:Nat} {QX:Exit->Act->World->Prop} {K:Act->World->Prop}
 (X:∀ v w' β',R F β' w' e.val v->aJ P F (cK m e.aU) β' w'->Step β w β' w'->(∀ i,β i=none->(i<nx\/nx+e.new<=i)->β' i=none)->K (a.put o.dst v) w'):
 qF r n P ops QX o K a w:=by
 obtain⟨xG,v,w',β',h1,h2,C,J,M,U⟩:=h;unfold qF;rw[hw,if_pos rfl];refine⟨fun _ _=>trivial,?_⟩;rw[LQ eh,h1];rcases h2 with rfl|⟨rfl,rfl⟩
 .exact X v w' β' C J M U
 .exact X undef w' β' C J M U
theorem aaL{op:Op}{ρ:Operand->D}{m:Mem}{nx:Nat}{e:dy}(h:bd P op ρ m nx=some e):∀ c,op≠ .defer c:=fun c hc=>by
 subst hc;simp[bd] at h
theorem Y7{op:Op}{ρ:Operand->D}{x:FuncId×List D}(h:dJ ρ op=some x):∀ c,op≠ .defer c:=fun c hc=>by
 subst hc;simp[dJ] at h
theorem afe{op:Op}{ρ:Operand->D}{m:Mem}{nx:Nat}{e:dy}(h:bd P op ρ m nx=some e):∀ i∈e.rd,m i≠none:=by
 cases op with
 |call c=>
  simp only[bd] at h;split at h
  .split at h
   .unfold fL at h;split at h
    .unfold ot at h;split at h<;>first|(cases h;simp;done)|skip
     all_goals first|(cases h;done)|skip
     all_goals (split at h<;>first|(rename_i hm;cases h;simp[hm];done)|(cases h;done))
    .split at h
     .unfold rN at h;simp only at h;split at h
      .cases h
      .rename_i hc;have h1:=Yy hc;split at h
       .cases h;exact h1
       .split at h
        .rename_i hm;cases h;intro i hi;simp only[List.mem_cons] at hi;rcases hi with rfl|hi
         .simp[hm]
         .exact h1 i hi
        .cases h
       .cases h
     .cases h
    .cases h;simp
    .split at h
     .rename_i hm;cases h;simp[hm]
     .cases h
    .exact(PC h).2
    .cases h
   .cases h
  .cases h
 |binOp op t x y _=>
  simp only[bd] at h;split at h
  .rename_i C he;simp only[aG] at h;subst h;unfold ns at he;split at he
   .cases he;simp
   .split at he
    .rename_i hm;cases he;simp[hm]
    .cases he
   .split at he
    .rename_i hm;cases he;simp[hm]
    .cases he
   .cases he
  .cases hb:vw P op t (ρ x) (ρ y) with
   |none=>rw[hb] at h;cases h
   |some r=>rw[hb] at h;cases h;simp
 |lookup t x k ok=>exact(PB h).2.2
 |mapUpdate t x k v=>exact(FP h).2
 |insert t x k v=>exact(FP h).2
 |slice t x lo hi J=>
  simp only[bd] at h;unfold nd at h
  repeat' split at h
  all_goals first|(cases h;done)|(cases h;simp_all;done)
 |_=>
  first
  |(simp only[bd] at h;cases h;simp;done)
  |(simp only[bd] at h
    repeat' split at h
    all_goals first
     |(cases h;done)
     |(cases h;simp_all;done)
     |(simp only[cU] at h;obtain⟨x,hx,rfl⟩:=h;simp;done))
theorem acm{op:Op}{ρ:Operand->D}{m m':Mem}{nx:Nat}{e:dy}(h:bd P op ρ m nx=some e)(hr:∀ i∈e.rd,m i≠none->m' i=m i):bd P op ρ m' nx=some e:=
 ad1 h fun i hi=>hr i hi (afe h i hi)
theorem TY{e:dy}(U:ji ops o st true)(ha:asks st.env o.op)(h:bd P o.op (a6 st.env o.op) st.mem st.nx=some e)(hp:e.pre):dp.Ok P ops o st ⟨e.val,e.aU,e.rd,e.new⟩:=by
 intro F β w a m env N he J hm hr hn hN r n X K M;have C:=yo he;refine S3 (m:=m) (nx:=st.nx) (β:=β) (F:=F) (aaL h) (U F β w a env he J) (aaK hm (fun h1=>hn st.nx (aZ _) (by simp[h1])) J (by rw[yu C];exact ha) ?_ hp) M;rw[ad0 (yx C)];exact acm h hr
theorem AV{F:Nat->Prop}{β:aE}{w:World}{a:Act}{env:Env}{f:FuncId}{args:List D}(U:Region.wanted o (yielded ops a.tmps)=true)(J:ia F β w env a)(ha:asks env o.op)
 (h:dJ (a6 env o.op) o.op=some (f,args)) (he:oY P f=true) {r:Option Nat} {n:Nat} {C:Exit->Act->World->Prop} {K:Act->World->Prop}
 (M:∀ vs,Rs F β w args vs->Calls P f vs w fun e w'=>∃ v,e=.returned v/\K (a.put o.dst v) w'):qF r n P ops C o K a w:=by
 obtain⟨vs,h1,h2⟩:=Zj (F:=F) (β:=β) (w:=w) J ha h he;unfold qF;rw[U,if_pos rfl];refine⟨fun _ _=>trivial,?_⟩;rw[LQ (Y7 h),h1];refine⟨oS,Kx ((M vs h2).mono ?_)⟩;rintro e w' ⟨v,rfl,hk⟩;exact hk
theorem Ta{f:FuncId}{args:List D}{r:D}(hw:ji ops o st true)(ha:asks st.env o.op)(h:dJ (a6 st.env o.op) o.op=some (f,args))(hc:aB P f args r):dp.Ok P ops o st ⟨r,[],[],0⟩:=by
 intro F β w a m env N he J hm hr hn hN r n QX K X;have C:=yo he;refine AV (args:=args) (hw F β w a env he J) J (by rw[yu C];exact ha) (by rw[Dj (yx C)];exact h) hc.1 fun vs hR=>?_;refine(aam hm hc hR).mono fun e w' ⟨v,h1,h2,M,U⟩=>⟨v,h1,X v w' β h2 M U fun _ h _=>h⟩
theorem aeb{f:FuncId}{args C:List D}{r:D}{rds:List Nat}(hw:ji ops o st true)(ha:asks st.env o.op)(h:dJ (a6 st.env o.op) o.op=some (f,args))(hs:jK P rds st.mem args C)(hc:aB P f C r)(hr:r.gK=true):
 dp.Ok P ops o st ⟨r,[],rds,0⟩:=by
 intro F β w a m env N he M hm U hn hN r n QX K hK;have J:=yo he;refine AV (args:=args) (hw F β w a env he M) M (by rw[yu J];exact ha) (by rw[Dj (yx J)];exact h) hc.1 fun vs hR=>?_;refine(aan hm hs U hc hr hR).mono fun e w' ⟨v,h1,h2,X,h4⟩=>⟨v,h1,hK v w' β h2 X h4 fun _ h _=>h⟩
theorem aff{f:FuncId}{args es:List D}{n:Nat}{t:TypeId}(hw:ji ops o st true)(ha:asks st.env o.op)(h:dJ (a6 st.env o.op) o.op=some (f,args))(hc:kW P f args es n t):
 dp.Ok P ops o st ⟨.rs st.nx 0 n,[(st.nx,some (.cells es t))],[],1⟩:=by
 intro F β w a m env N he J hm dw hn hN r n QX K hK;have C:=yo he;refine AV (args:=args) (hw F β w a env he J) J (by rw[yu C];exact ha) (by rw[Dj (yx C)];exact h) hc.1 fun vs hR=>?_;refine(abZ hm (hn st.nx (aZ _) oS) hc hR).mono fun e w' ⟨v,β',h1,h2,U,X,h5⟩=>⟨v,h1,hK v w' β' h2 U X fun i hi M=>?_⟩
 rw[h5 i (by simp only at M;omega)];exact hi
theorem afg{f:FuncId}{args:List D}{r:D}{aU:List (Nat×Option Row)}{rds:List Nat}(hw:ji ops o st true)(ha:asks st.env o.op)(h:dJ (a6 st.env o.op) o.op=some (f,args))
 (hc:∀ J X,(∀ i∈rds,st.mem i≠none->J i=st.mem i)->fP P f args J X fun r' m' C=>r'=r/\m'=cK J aU/\C=X):dp.Ok P ops o st ⟨r,aU,rds,0⟩:=by
 intro F β w a m env N he U hm dw hn hN ro n QX K hK;have M:=yo he;have hc:=hc m N dw;refine AV (args:=args) (hw F β w a env he U) U (by rw[yu M];exact ha) (by rw[Dj (yx M)];exact h) hc.1 fun vs hR=>?_;refine(hc.2 F β w vs hm hN hR).mono fun e w' hp=>?_;obtain⟨v,d,m',C,β',h1,⟨e1,e2,e3⟩,h3,h4,h5,h6,_,h7⟩:=hp;subst e1 e2 e3;refine⟨v,h1,hK v w' β' h5 h3 h6 fun i hi _=>?_⟩;rcases Nat.lt_or_ge i C with h|h
 .exact h7 i h hi
 .exact h4 i h
theorem KJ(b:List (Nat×Option Row)):∀ (a:List (Nat×Option Row)) (m:Mem),cK m (a++b)=cK (cK m a) b
 |[],_=>rfl
 |(i,r)::a,m=>KJ b a (up m i r)
theorem QY{i:Nat}{r:Row}:∀ {us:List (Nat×Option Row)} {m:Mem},cK m us i=some r->(∃ x∈us,x.1=i/\x.2=some r)\/m i=some r
 |[],_,h=>.inr h
 |(j,s)::us,m,h=>by
  rcases QY (us:=us) (m:=up m j s) h with⟨x,hx,e⟩|h
  .exact .inl ⟨x,by simp[hx],e⟩
  .by_cases hj:i=j
   .subst hj;rw[aj] at h;exact .inl ⟨(i,s),oS,rfl,h⟩
   .rw[aA _ _ hj] at h;exact .inr h
theorem Qk{i:Nat}:∀ {us:List (Nat×Option Row)} {m m':Mem},m i=m' i->cK m us i=cK m' us i
 |[],_,_,h=>h
 |(j,s)::us,m,m',h=>Qk (us:=us) (by simp only[up];split<;>simp[h])
theorem RV{i:Nat}:∀ {us:List (Nat×Option Row)} {m:Mem},(∀ x∈us,x.1≠i)->cK m us i=m i
 |[],_,_=>rfl
 |(j,s)::us,m,h=>by
  rw[cK,RV (us:=us) fun x hx=>h x (by simp[hx])];exact aA _ _ fun e=>h (j,s) oS e.symm
theorem KK{F F':Nat->Prop}{β β':aE}{w:World}{r:Row}{p:Pl}(hr:Gx r)(h:cC P F β w r p):cC P F' β' w r p:=by
 obtain⟨cs,e,rfl,hs⟩:=hr;cases h with
 |nil _=>exact .nil _
 |cells _ _ b o room sz c h1 h2 C J M=>
  refine .cells cs e b o room sz c h1 h2 C J fun k d hd=>?_;obtain⟨u,U,X,p7⟩:=M k d hd;exact⟨u,U,LF (hs d (bu hd)) X,p7⟩
theorem UG{F F':Nat->Prop}{β β':aE}{w:World}{i j off k:Nat}{v:Value}(hb:β' j=β i)(h:R F β w (.rs i off k) v):R F' β' w (.rs j off k) v:=by
 cases h with
 |lp _ _ _ _ h hv=>exact .lp j off k v (hb.trans h) hv
 |jr _ a h=>exact .jr j a (hb.trans h)
 |j9 _ _ a b o len room sz h=>exact .j9 j off a b o len room sz (hb.trans h)
 |rs _ _ _ cap b o len room sz h h1 h2 C J=>exact .rs j off k cap b o len room sz (hb.trans h) h1 h2 C J
theorem acn{f:FuncId}{args es:List D}{n:Nat}{t:TypeId}{aU:List (Nat×Option Row)}{rds:List Nat}(hw:ji ops o st true)(ha:asks st.env o.op)(h:dJ (a6 st.env o.op) o.op=some (f,args))(Ob:SK st.mem rds aU args)
 (lA:∀ d∈es,d.gK=true) (hc:∀ ij,fP P f args (only rds st.mem) ij fun r' m' _=>∃ q,ij<=q/\r'=.rs q 0 n/\m' q=some (.cells es t)/\∀ i∈rds,m' i=cK st.mem aU i):
 dp.Ok P ops o st ⟨.rs st.nx 0 n,aU++[(st.nx,some (.cells es t))],rds,1⟩:=by
 intro F β w a m env N he hE hm dw hn hN ro k QX K hK;have gB:=yo he;obtain⟨f1,f2,f3⟩:=Ob
 have Cl:∀ i∈rds,m i=st.mem i:=fun i hi=>by
  obtain⟨r,hr,_⟩:=f1 i hi;exact dw i hi (by simp[hr])
 have vY:∀ i∈rds,∃ p,β i=some p:=fun i hi=>by
  obtain⟨r,hr,_⟩:=f1 i hi;obtain⟨p,hp,_⟩:=hm.row i r ((Cl i hi).trans hr);exact⟨p,hp⟩
 have cF:β st.nx=none:=hn st.nx (aZ _) (Nat.lt_succ_self _)
 have I0:st.nx∉rds:=fun hx=>by
  obtain⟨p,hp⟩:=vY _ hx;rw[cF] at hp;cases hp
 have WT:∀ i∈rds,i<N:=fun i hi=>by
  obtain⟨p,hp⟩:=vY i hi;rcases Nat.lt_or_ge i N with g|g
  .exact g
  .rw[hN i g] at hp;cases hp
 have hc:=hc N
 have I1:only rds st.mem=only rds m:=by
  funext i;unfold only;split
  .rename_i hi;exact(Cl i hi).symm
  .rfl
 rw[I1] at hc;refine AV (args:=args) (hw F β w a env he hE) hE (by rw[yu gB];exact ha) (by rw[Dj (yx gB)];exact h) hc.1 fun vs hR=>?_
 let X:aE:=fun i=>if i∈rds then β i else none
 let F2:Nat->Prop:=fun b=>F b\/∃ i p,i∉rds/\β i=some p/\p.bF=some b
 have b2:∀ {i p},X i=some p->i∈rds/\β i=some p:=fun {i p} hi=>by
  simp only[X] at hi;split at hi
  .rename_i g;exact⟨g,hi⟩
  .cases hi
 have Oc:∀ {i},i∈rds->X i=β i:=fun {i} hi=>if_pos hi
 have iM:aJ P F2 (only rds m) X w:=by
  refine⟨fun i r hi=>?_,fun i j p q b hp hq e M=>hm.inj i j p q b (b2 hp).2 (b2 hq).2 e M,fun i p b hp e=>hm.lt i p b (b2 hp).2 e,fun i p b hp e C=>?_,hm.fb.next (fun b C=>?_) (fun _ h=>.inl h) fun _ _ _=>rfl⟩
  .unfold only at hi;split at hi
   .rename_i vZ;obtain⟨p,hp,ap⟩:=hm.row i r hi;obtain⟨r',jL,hs⟩:=f1 i vZ;rw[Cl i vZ,jL] at hi;cases hi;exact⟨p,(Oc vZ).trans hp,KK hs ap⟩
   .cases hi
  .rcases C with C|⟨j,q,hj,hq,eq⟩
   .exact hm.nf i p b (b2 hp).2 e C
   .have:=hm.inj i j p q b (b2 hp).2 hq e eq;subst this;exact hj (b2 hp).1
  .rcases C with C|⟨j,q,_,hq,eq⟩
   .exact hm.fb.lt b C
   .exact hm.lt j q b hq eq
 have vP:Rs F2 X w args vs:=⟨hR.1,fun k d v hd hv=>by
  have h0:=hR.2 k d v hd hv;rcases f3 d (bu hd) with ht|⟨i,off,l,hi,rfl⟩
  .refine(ht F β w v h0).lift fun b hb=>⟨fun C=>?_,fun i p hp e=>?_⟩
   .rcases C with C|⟨j,q,_,hq,eq⟩
    .exact hb (.inl C)
    .exact hb (.inr fun lQ=>lQ j q hq eq)
   .exact hb (.inr fun lQ=>lQ i p (b2 hp).2 e)
  .exact UG (Oc hi) h0⟩
 refine(hc.2 F2 X w vs iM (fun i hi=>?_) vP).mono ?_
 .simp only[X];split
  .rename_i g;have:=WT i g;omega
  .rfl
 rintro e w' ⟨v,d,m',al,β',h1,⟨q,hq,rfl,hmq,lq⟩,h3,h4,h5,U,h7,h8⟩;have WU:q∉rds:=fun hx=>by have:=WT q hx;omega
 have M7:∀ i p b,i∉rds->β i=some p->p.bF=some b->X.free b:=fun i p b hi hp e j r hj M=>by
  have:=hm.inj i j p r b hp (b2 hj).2 e M;subst this;exact hi (b2 hj).1
 let β3:aE:=fun i=>if i=st.nx then β' q else if i∈rds then β' i else β i
 have Od:β3 st.nx=β' q:=if_pos rfl
 have Oe:∀ {i},i∈rds->β3 i=β' i:=fun {i} hi=>by
  simp only[β3];rw[if_neg (show ¬ i=st.nx from fun e=>I0 (e▸hi)),if_pos hi]
 have I2:∀ {i},i≠st.nx->i∉rds->β3 i=β i:=fun {i} h1 h2=>by
  simp only[β3];rw[if_neg h1,if_neg h2]
 have Fi:∀ i p,β3 i=some p->(∃ j,β' j=some p/\((i=st.nx/\j=q)\/(i∈rds/\j=i)))\/(i≠st.nx/\i∉rds/\β i=some p):=fun i p hp=>by
  by_cases e1:i=st.nx
  .subst e1;exact .inl ⟨q,Od▸hp,.inl ⟨rfl,rfl⟩⟩
  .by_cases e2:i∈rds
   .exact .inl ⟨i,(Oe e2)▸hp,.inr ⟨e2,rfl⟩⟩
   .exact .inr ⟨e1,e2,(I2 e1 e2)▸hp⟩
 have Co:Step β w β3 w':=by
  refine⟨U.size,fun b hb hf=>?_,fun i p hp=>?_,U.out⟩
  .have Af:X.free b:=fun i p hp e=>hf i p (b2 hp).2 e;obtain⟨g1,g2⟩:=U.de b hb Af;refine⟨g1,fun i p hp e=>?_⟩;rcases Fi i p hp with⟨j,hj,_⟩|⟨_,_,hj⟩
   .exact g2 j p hj e
   .exact hf i p hj e
  .have e1:i≠st.nx:=fun e=>by rw[e,cF] at hp;cases hp
   by_cases e2:i∈rds
   .rw[Oe e2];exact U.keep i p ((Oc e2).trans hp)
   .rw[I2 e1 e2];exact .inl hp
 have TZ:∀ i p j r b,i∉rds->β i=some p->p.bF=some b->β' j=some r->r.bF=some b->False:=fun i p j r b hi hp e hj M=>
  (U.de b (hm.lt i p b hp e) (M7 i p b hi hp e)).2 j r hj M
 refine⟨v,h1,hK v w' β3 (UG Od h5) ?_ Co fun i hi aC=>?_⟩
 .rw[KJ];show aJ P F (up (cK m aU) st.nx (some (.cells es t))) β3 w';refine⟨fun i r hi=>?_,fun i j p r b hp hr e M=>?_,fun i p b hp e=>?_,fun i p b hp e=>?_,hm.fb.next (fun b C=>Nat.lt_of_lt_of_le (hm.fb.lt b C) U.size) (fun _ h=>h) fun t _ C=>(U.de _ (hm.fb.lt _ C) fun i p hp e=>hm.nf i p _ (b2 hp).2 e C).1⟩
  .by_cases e1:i=st.nx
   .subst e1;rw[aj] at hi;cases hi;obtain⟨p,hp,ap⟩:=h3.row q _ hmq;exact⟨p,Od.trans hp,KK ⟨es,t,rfl,lA⟩ ap⟩
   .rw[aA _ _ e1] at hi;by_cases e2:i∈rds
    .rw[Qk (Cl i e2), <- lq i e2] at hi;obtain⟨p,hp,ap⟩:=h3.row i r hi
     have hs:Gx r:=by
      rw[lq i e2] at hi;rcases QY hi with⟨x,hx,_,hxr⟩|hi
      .exact(f2 x hx).2 r hxr
      .obtain⟨r',jL,hs⟩:=f1 i e2;rw[jL] at hi;cases hi;exact hs
     exact⟨p,(Oe e2).trans hp,KK hs ap⟩
    .rw[RV (i:=i) fun x hx (e:x.1=i)=>e2 (e▸(f2 x hx).1)] at hi;obtain⟨p,hp,ap⟩:=hm.row i r hi;exact⟨p,(I2 e1 e2).trans hp,ap.step Co fun b e=>(U.de b (hm.lt i p b hp e) (M7 i p b e2 hp e)).1⟩
  .rcases Fi i p hp with⟨i',J,ci⟩|⟨i1,i2,J⟩<;>rcases Fi j r hr with⟨j',lz,cj⟩|⟨j1,j2,lz⟩
   .have:=h3.inj i' j' p r b J lz e M;subst this;rcases ci with⟨rfl,rfl⟩|⟨ci,rfl⟩<;>rcases cj with⟨rfl,c⟩|⟨cj,c⟩
    .rfl
    .subst c;exact absurd cj WU
    .subst c;exact absurd ci WU
    .exact c
   .exact(TZ j r i' p b j2 lz M J e).elim
   .exact(TZ i p j' r b i2 J e lz M).elim
   .exact hm.inj i j p r b J lz e M
  .rcases Fi i p hp with⟨i',J,_⟩|⟨_,_,J⟩
   .exact h3.lt i' p b J e
   .exact Nat.lt_of_lt_of_le (hm.lt i p b J e) U.size
  .rcases Fi i p hp with⟨i',J,_⟩|⟨_,_,J⟩
   .exact fun C=>h3.nf i' p b J e (.inl C)
   .exact hm.nf i p b J e
 .have e1:i≠st.nx:=by simp only at aC;omega
  have e2:i∉rds:=fun hx=>by
   obtain⟨p,hp⟩:=vY i hx;rw[hi] at hp;cases hp
  rw[I2 e1 e2];exact hi
end
section
variable{P:Program}{F:Nat->Prop}{m:Mem}{nx:Nat}{β:aE}{w w':World}
theorem KF:∀ {l:List Int} {c:List Value},Rl F β w (mw l) c->c=l.map (Value.int .u8)
 |[],[],_=>rfl
 |[],_::_,h=>by have:=h.1;simp[mw] at this
 |_::_,[],h=>by have:=h.1;simp[mw] at this
 |n::l,v::c,h=>by
  have h0:=(h.2 0 _ v rfl rfl).1.c6.1;have ih:=KF (l:=l) (c:=c) ⟨by have:=h.1;simp[mw] at this ⊢;omega,fun k d u hk hu=>h.2 (k+1) d u (by simpa[mw] using hk) (by simpa using hu)⟩;rw[h0,ih];rfl
theorem Qe(l:List Int):l.foldl (fun r n=>r.push (UInt8.ofNat n.toNat)) ByteArray.empty=mkStr l:=by
 rw[foldl_push_bytes];simp[mkStr,ByteArray.empty,ByteArray.emptyWithCapacity];rfl
theorem SZ{src dst:TypeId}(hs:ra P src)(hd:fW P dst=true){b o cap:Nat}{l:List Int}(h:Rd F β w b o (mw l)):(convert src dst (.slice (some ⟨b,o,none⟩) l.length cap)).run P w=.ok (.string (mkStr l)) w:=by
 obtain⟨c,h1,h2⟩:=h.B0;have hc:=KF h1;subst hc
 have hl:(loadCells ⟨b,o,none⟩ l.length).run P w=.ok (l.map (Value.int .u8)).toArray w:=by
  have:=run_loadCells_list (P:=P) w ⟨b,o,none⟩ (l.map (Value.int .u8)) h2;simpa using this
 rw[run_convert_bytes_string w src dst _ _ _ _ (kv hs.1).1 hs.2.1 (wy hd),run_bytesToString w _ l.length cap l hl,Qe]
theorem KG{src dst:TypeId}(hs:ra P src)(hd:fW P dst=true)(a:Option Addr)(cap:Nat):(convert src dst (.slice a 0 cap)).run P w=.ok (.string (mkStr [])) w:=by
 rw[run_convert_bytes_string w src dst _ _ _ _ (kv hs.1).1 hs.2.1 (wy hd)];cases a with
 |none=>rfl
 |some a=>
  have hl:(loadCells a 0).run P w=.ok (([]:List Int).map (Value.int .u8)).toArray w:=by simp[loadCells,loadCellsFrom]
  rw[run_bytesToString w a 0 cap [] hl,Qe]
theorem Zy(hm:aJ P F m β w){src dst:TypeId}{l:List Int}{v:Value}(hx:R F β w (.sl (mw l) l.length) v)(hs:ra P src)(hd:fW P dst=true):
 aX P F m nx β w { pre:=True,val:=.s (.string (mkStr l)) } (do Pure.pure (Next.value (<- convert src dst v))):=by
 rcases hx.uT with⟨h1,h2,a,cap,rfl⟩|⟨b,o,cap,rfl,_,_,_,_,_,C⟩
 .have hl:l=[]:=List.eq_nil_of_length_eq_zero h2;subst hl;exact aX.pure hm (KG hs hd a cap) (.s _ rfl)
 .exact aX.pure hm (SZ hs hd C) (.s _ rfl)
theorem Zz(hm:aJ P F m β w){src dst:TypeId}{l:List Int}{i off:Nat}{cs:List D}{e:TypeId}{v:Value}(hx:R F β w (.rs i off l.length) v)(hi:m i=some (.cells cs e))(hl:(cs.drop off).take l.length=mw l)(hs:ra P src)(hd:fW P dst=true){rd:List Nat}:
 aX P F m nx β w { pre:=True,val:=.s (.string (mkStr l)),rd:=rd } (do Pure.pure (Next.value (<- convert src dst v))):=by
 rcases hx.D1 hm hi with⟨h1,h2,C,_,a,rfl⟩|⟨b,o,room,_,ap,U⟩
 .have J:l=[]:=List.eq_nil_of_length_eq_zero C;subst J;exact aX.pure hm (KG hs hd a 0) (.s _ rfl)
 .rcases U with⟨C,a,rfl⟩|⟨cap,rfl,_⟩
  .have J:l=[]:=List.eq_nil_of_length_eq_zero C;subst J;exact aX.pure hm (KG hs hd a 0) (.s _ rfl)
  .have M:=(ap.rd.1.drop off).take l.length;rw[hl] at M;exact aX.pure hm (SZ hs hd M) (.s _ rfl)
theorem aay(hm:aJ P F m β w){src dst:TypeId}{k k':IntKind}{n:Int}{v:Value}(hx:R F β w (.s (.int k n)) v)(hs:P.underlying src=some (.int k'))(hd:fW P dst=true)(h0:0<=n)(h1:n<128):
 aX P F m nx β w { pre:=True,val:=.s (.string (mkStr [n])) } (do Pure.pure (Next.value (<- convert src dst v))):=by
 obtain⟨rfl,_⟩:=hx.c6;refine aX.pure hm (v:=.string (mkStr [n])) ?_ (.s _ rfl)
 have hv:Utf8.encode n=mkStr [n]:=by
  have h2:n.toNat<128:=by omega
  have C:Utf8.valid n=true:=by
   unfold Utf8.valid;simp;omega
  unfold Utf8.encode;simp only[C,if_true,if_pos h2];simp[mkStr]
 simp[convert,run_underlying hs,run_underlying (wy hd),Conv.intToString,hv]
theorem acd(hm:aJ P F m β w){t:TypeId}{es:List D}{n:Nat}{k k':IntKind}{v J C:Value}(hx:R F β w (.sl es n) v)(hh:R F β w (.s (.int k n)) J)(hc:R F β w (.s (.int k' n)) C)(ht:bi P t=true)(hn:n*P.cellsOf (aF P t)=es.length):
 aX P F m nx β w { pre:=True,val:=.sc es n } (do Pure.pure (Next.value (<- Instr.sliceAt t v none (some J) (some C)))):=by
 obtain⟨rfl,_⟩:=hh.c6;obtain⟨rfl,_⟩:=hc.c6;obtain⟨hu,he⟩:=kv ht;rcases hx.uT with⟨rfl,rfl,a,cap,rfl⟩|⟨b,o,cap,rfl,U,X,g3,g4,g5,M⟩
 .have hb:=FZ (P:=P) (w:=w) 0 cap (kh:=k) (km:=k') (lo:=none) (l:=0) (h:=0) (k:=0) (.inl ⟨rfl,rfl⟩) oG oG oG oG;refine aX.val hm (v:=.slice a 0 0) ?_ (.sc [] 0 a (.gy a 0));simp[uq hu,Instr.slice,run_underlying hu,hb,je w (jQ he)]
 .have hb:=FZ (P:=P) (w:=w) n cap (kh:=k) (km:=k') (lo:=none) (l:=0) (h:=n) (k:=n) (.inl ⟨rfl,rfl⟩) oG oG oG oG;refine aX.val hm (v:=.slice (if n=0 then some ⟨b,o,none⟩ else some ⟨b,o,none⟩) n n) ?_ ?_
  .simp[uq hu,Instr.slice,run_underlying hu,hb,je w (jQ he),Addr.add_lit]
  .obtain⟨us,r1,r2⟩:=M;simp only[ite_self];exact .sc es n _ (.sl es n b o n us g3 g4 g5 (aZ _) (Nat.le_trans U X) r1 r2)
theorem TV(b:ByteArray):Rl F β w (fB b) (Lib.strCells b):=by
 refine⟨by simp[fB,Lib.strCells],fun k d u hk hu=>?_⟩;simp only[fB,Lib.strCells,List.getElem?_map,cU] at hk hu;obtain⟨x,h1,rfl⟩:=hk;obtain⟨y,h2,rfl⟩:=hu;rw[h1] at h2;cases h2;exact⟨.s _ rfl,rfl⟩
theorem S0{t u ty:TypeId}(ht:ra P t)(hu:fW P u=true)(b:ByteArray):Src P w t u ty (aF P t) (.string b) b.size (Lib.strCells b):=by
 obtain⟨J,bB⟩:=kv ht.1;obtain⟨i,d,z,hi,hd,hz,_,jM,_,bD,hb,_⟩:=rF bB;have nC:i.size=1:=bD.trans ht.2.2;have hlen:=Lib.strCells_length b;have C:=wy hu;refine⟨by rw[hlen,ht.2.2,Nat.mul_one],fun hk a0 n cap M=>?_,fun hk a0 n cap gu z' U sx uU h0 kH hg dk kJ=>?_,fun hk g o n cap cur M1 vf X mM=>?_⟩
 .have hf:=Lib.run_firstCells_string (P:=P) w 1 b;have N5:b=.empty:=by rw[ByteArray.size_eq_zero_iff] at hk;exact hk
  subst N5;cases a0<;>simp[Builtin.append_,run_underlying J,run_underlying C,sizeOf,typeInfo,hi,Builtin.lenOf,M,Builtin.firstCells,storeCells]
 .simp only[hi,Option.bind_some] at U;rw[hz] at U;cases U;simp only[maxLen] at dk;cases a0 with
  |some ad=>exact Lib.run_append_grow_string (P:=P) w t u ty _ i z J C hi hz ad n cap gu (by rw[nC,sx,ht.2.2]) (uU ad rfl) b hg oG (growslice_fits oG (by rw[hb];exact kJ))
  |none=>
   obtain⟨rfl,rfl⟩:=h0 rfl;have:gu=[]:=List.eq_nil_of_length_eq_zero (by simpa using sx);subst this;have:=run_append_nil_string (P:=P) (w:=w) t u ty _ i z J C hi hz b hk oG (by rw[hb];simp at kJ;omega);simp only[Nat.zero_add];rw[this];simp only[Lib.strCells];congr 3;apply Array.ext';simp
 .have hf:=Lib.run_firstCells_string (P:=P) w 1 b;rw[ht.2.2,Nat.mul_one] at X ⊢;have dc:=run_storeCells_at P g (o+n) (aF P t) (Lib.strCells b) 0 cur w M1 (by simpa[hlen] using X) (Lib.strCells_oneCell b);simp only[Nat.add_zero] at dc;simp[Builtin.append_,run_underlying J,run_underlying C,sizeOf,typeInfo,hi,nC,Builtin.lenOf,vf,hf,Addr.add_lit,dc]
theorem ZA(hm:aJ P F m β w){ts:Array TypeId}{ty:TypeId}{i off n:Nat}{r:Row}{v:Value}(hx:R F β w (.rs i off n) v)(hi:m i=some r)(hn:0<n){rd:List Nat}:
 aX P F m nx β w { pre:=True,val:=.rp i off,rd:=rd } (do Pure.pure (Next.value (<- Builtin.unsafeSliceData_ ts ty #[v]))):=by
 obtain⟨p,hp,ap⟩:=hm.row i _ hi;cases hx with
 |lp _ _ _ _ h _=>rw[h] at hp;cases hp;exact absurd rfl ap.live
 |jr _ a h=>omega
 |j9 _ _ a b o len room sz h=>omega
 |rs _ _ _ cap b o len room sz h h1 h2 C J=>
  exact aX.pure hm (Lib.run_unsafeSliceData_row w ts ty _ n cap oG) (.rp i off b o len room sz h)
theorem aaz(hm:aJ P F m β w){t ty:TypeId}{i:Nat}{es:List (Value×D)}{v:Value}(hx:R F β w (.mp i) v)(hi:m i=some (.map es))(ht:fT P t=true){rd:List Nat}:
 aX P F m nx β w { pre:=True,val:=.s (.int .i64 es.length),rd:=rd } (do Pure.pure (Next.value (<- Builtin.len_ #[t] ty #[v]))):=by
 obtain⟨r,ms,clock,_,rfl,hb,hl,_⟩:=hx.DR hm hi;have L:=AO ht;refine aX.pure hm (v:=.int .i64 ms.size) ?_ (by rw[hl];exact .s _ rfl);simp[Builtin.len_,run_underlying L.1,run_getObj_map w r ms clock hb,goInt]
theorem Ye{e:TypeId}(hc:P.cellsOf e=1)(count off n:Nat)(hn:off+n<=count):liesAt P P.depth e count off e n=true:=by
 have hd:P.depth=(2*(P.types.size+Made.depth)+1)+1:=rfl;rw[hd];simp only[liesAt,Bool.or_eq_true];left;rw[hd];simp[rowAt,hc,hn,sameLayout,Nat.mod_one]
theorem ace(pt U ty e:TypeId)(hp:P.underlying pt=some (.pointer e))(hc:P.cellsOf e=1)(g o cells:Nat)(mb:w.shape? g=some (e,cells))(l:List UInt8)(h0:l≠[])(hn:o+l.length<=cells)(WQ:l.length<=9223372036854775807)
 (J:∀ j x,l[j]? =some x->w.cell? ((⟨g,o,none⟩:Addr).add j)=some (.int .u8 x.toNat)) (k:IntKind):
 (Builtin.unsafeString_ #[pt,U] ty #[.pointer (some ⟨g,o,none⟩),.int k l.length]).run P w=.ok (.string ⟨l.toArray⟩) (w.freeze ⟨g,o,none⟩ l.length):=by
 have hl:l.length≠0:=by simpa using h0
 have X:=Lib.run_loadBytes (P:=P) w l ⟨g,o,none⟩ .empty J;have C:=Ye (P:=P) hc (cells / P.cellsOf e) o l.length (by rw[hc];simpa using hn);have M:¬ (9223372036854775807:Int)<(l.length:Int):=by omega
 have M3:Builtin.unsafeString_ #[pt,U] ty #[.pointer (some ⟨g,o,none⟩),.int k l.length]=
  (do
   let n<- asInt (.int k l.length)
   if n<0 then runtimePanic (.error "unsafe.String: len out of range")
   if n>IntKind.i64.max then unsupported (.unsafePointer "String: a length above the largest int")
   if n=0 then pure (.string .empty)
   else if<- variablesAt ⟨g,o,none⟩ (<- elemOf pt) n.toNat then do
    let s<- loadBytes ⟨g,o,none⟩ .empty n.toNat
    freeze ⟨g,o,none⟩ n.toNat
    pure (.string s)
   else unsupported (.unsafePointer "String: not so many bytes at ptr")):=rfl
 rw[M3];have dk:IntKind.i64.max=9223372036854775807:=rfl;have M4:¬ (l.length:Int)<0:=by omega
 simp[asInt,asIntOf,dk,M,M4,hl,variablesAt,mb,elemOf,run_underlying hp,C,X]
theorem PA(w:World)(a:Addr)(n k:Nat)(h:k≠a.block):(w.freeze a n).heap[k]? =w.heap[k]? :=by
 unfold World.freeze;split
 .rfl
 .simp only[Array.getElem?_modify];rw[if_neg (fun e=>h e.symm)]
theorem YX(w:World)(a:Addr)(n:Nat):(w.freeze a n).heap.size=w.heap.size:=by
 unfold World.freeze;split
 .rfl
 .simp
theorem ZB(w:World)(a:Addr)(n:Nat):Out w (w.freeze a n):=by
 unfold World.freeze;split<;>exact⟨rfl,rfl⟩
theorem YY(w:World)(a:Addr)(n b:Nat):kV w (w.freeze a n) b:=by
 by_cases hb:b=a.block
 .subst hb;unfold World.freeze;split
  .exact kV.refl w _
  .refine⟨fun o u hu=>?_,fun ms c hm=>?_⟩
   .simp only[World.cell?,Array.getElem?_modify,if_true] at hu ⊢;cases hh:w.heap[a.block]? with
    |none=>rw[hh] at hu;simp at hu
    |some C=>
     rw[hh] at hu;cases C<;>simp_all
   .simp only[Array.getElem?_modify,if_true,hm,Option.map_some]
 .exact uG (PA w a n b hb)
theorem YZ(hm:aJ P F m β w){i:Nat}{p:Pl}{a:Addr}(hp:β i=some p)(hb:p.bF=some a.block)(n:Nat):
 aJ P F (up m i none) (up β i (some .dead)) (w.freeze a n)/\Step β w (up β i (some .dead)) (w.freeze a n):=by
 have X:=AL β w i;have C:=hm.dead i;have U:=YX w a n;have M:=PA w a n;have hs:Step β w (up β i (some .dead)) (w.freeze a n):=⟨oG,fun k hk hf=>⟨M k fun e=>hf i p hp (e▸hb),(X.de k hk hf).2⟩,X.keep,ZB w a n⟩
 have aC:∀ j q,up β i (some .dead) j=some q->∀ c,q.bF=some c->c≠a.block:=fun j q hq c hc e=>by
  by_cases hj:j=i
  .subst hj;rw[aj] at hq;cases hq;simp[Pl.bF] at hc
  .rw[aA _ _ hj] at hq;exact hm.rD hp hb hq hj (e▸hc)
 refine⟨⟨fun j r hj=>?_,C.inj,fun j q c hq hc=>by rw[U];exact C.lt j q c hq hc,C.nf,C.fb.next (fun c hc=>by rw[U];exact C.fb.lt c hc) (fun _ h=>h) fun t _ J=>M _ fun e=>hm.nf i p _ hp hb (e▸J)⟩,hs⟩;obtain⟨q,hq,ap⟩:=C.row j r hj;exact⟨q,hq,ap.gen oG (fun c _ J hf=>⟨YY w a n c,hf,J⟩) (fun _ _ _ h=>.inl h) fun c hc=>M c (aC j q hq c hc)⟩
theorem aaA(hm:aJ P F m β w){t u ty e:TypeId}{l:List Int}{i off:Nat}{cs:List D}{k:IntKind}{U M:Value}(hp:R F β w (.rp i off) U)(hn:R F β w (.s (.int k l.length)) M)(hi:m i=some (.cells cs e))(hl:(cs.drop off).take l.length=mw l)(h0:l≠[])
 (ht:P.underlying t=some (.pointer e)) (he:P.cellsOf e=1) (dk:l.length<=maxLen) (hr:∀ x∈l,0<=x/\x<256) {rd:List Nat}:
 aX P F m nx β w { pre:=True,val:=.s (.string (mkStr l)),aU:=[(i,none)],rd:=rd } (do Pure.pure (Next.value (<- Builtin.unsafeString_ #[t,u] ty #[U,M]))):=by
 obtain⟨rfl,_⟩:=hn.c6;obtain⟨b,o,room,sz,J,rfl,ap⟩:=hp.Hx hm hi;obtain⟨c,h1,h2⟩:=((ap.rd.1.drop off).take l.length).B0;rw[hl] at h1;have hc:=KF h1;subst hc;cases ap with
 |cells _ _ _ _ _ _ cc X vf hlen bD hh=>
 have l6:l.length<=cs.length - off:=by
  have:=congrArg List.length hl;simp[mw] at this;omega
 have pz:0<l.length:=List.length_pos_iff.2 h0
 have C:=ace (P:=P) (w:=w) t u ty e ht he b (o+off) cc.size (by simp[World.shape?,X]) (l.map fun n=>UInt8.ofNat n.toNat) (by simpa using h0) oP (by simp[maxLen] at dk ⊢;omega) (fun j x hx=>by
  simp only[List.getElem?_map,cU] at hx;obtain⟨n,hn,rfl⟩:=hx;have hb:=hr n (bu hn);rw[h2 j (.int .u8 n) (by simp[hn])];have:(UInt8.ofNat n.toNat).toNat=n.toNat:=by simp;omega
  rw[this,Int.toNat_of_nonneg hb.1]) k
 simp only[List.length_map] at C;obtain⟨q1,q2⟩:=YZ hm (a:=⟨b,o+off,none⟩) J rfl l.length;refine⟨_,.string (mkStr l),_,_,by simp only[Sem.run_bind,C,Result.andThen_ok,Sem.run_pure];rfl,.inl rfl,.s _ rfl,q1,q2,fun j hj _=>?_⟩;rw[aA _ _ fun e=>by rw[e,J] at hj;cases hj];exact hj
theorem TW(hm:aJ P F m β w)(hn:β nx=none){t:TypeId}{x:D}{v:Value}(hs:P.cellsOf t=2)(hx:R F β w x v)(h1:v.oneCell'=true):
 aJ P F (up m nx (some (.bs false x t))) (up β nx (some (.cells w.heap.size 0 2 2 2))) (w.alloc (.cells #[.pointer none,v] t))/\Step β w (up β nx (some (.cells w.heap.size 0 2 2 2))) (w.alloc (.cells #[.pointer none,v] t)):=by
 have C:=AH hm (.cells #[.pointer none,v] t) hn (.cells w.heap.size 0 2 2 2) (fun b hb=>by simp[Pl.bF] at hb;exact hb.symm);exact⟨hm.alloc hn _ _ _ (fun b hb=>by simp[Pl.bF] at hb;exact hb.symm) (.bs false x t _ v (heap_alloc_new w _) hs (hx.step C) h1),C⟩
theorem aaB(hm:aJ P F m β w)(hn:β nx=none){t:TypeId}{c d:D}{v:Value}(hc:c.cells=[.s (.pointer none),d])(hd:d.one=true)(hs:P.cellsOf t=2)(hx:R F β w c v):
 aX P F m nx β w { pre:=True,val:=.rp nx 0,aU:=[(nx,some (.bs false d t))],new:=1 } (do Pure.pure (Next.value (<- Instr.box t v))):=by
 have M:c.cells.all D.one=true:=by rw[hc];simp only[List.all_cons,List.all_nil,hd];rfl
 obtain⟨c1,c2,c3⟩:=hx.cells M;rw[hc] at c1 c2
 have h0:∃ C J,v.cells= #[C,J]:=by
  obtain⟨l,hl⟩:∃ l,v.cells=⟨l⟩:=⟨v.cells.toList,rfl⟩
  rw[hl] at c1 ⊢
  match l,c1 with
  |[a,b],_=>exact⟨a,b,rfl⟩
 obtain⟨C,J,hv⟩:=h0;obtain⟨X,_⟩:=c2 0 (.s (.pointer none)) C rfl (by simp[hv]);obtain⟨q1,q2⟩:=c2 1 d J rfl (by simp[hv]);obtain⟨rfl,_⟩:=X.c6;obtain⟨h2,U⟩:=TW hm hn hs q1 q2;refine⟨_,_,_,_,by simp[Instr.box,F0,hv];rfl,.inl rfl,?_,h2,U,wz⟩;exact .rp nx 0 w.heap.size 0 _ _ _ (aj _ _ _)
theorem Y0(hm:aJ P F m β w)(hn:β nx=none){t:TypeId}(ht:aI P t=true)(hz:a8 P t=[.s (.pointer none),.z]):
 aX P F m nx β w { pre:=True,val:=.rp nx 0,aU:=[(nx,some (.bs false .z t))],new:=1 } (do Pure.pure (Next.value (<- Instr.alloc t true (.tuple #[])))):=by
 obtain⟨z,rk,jM,M,U⟩:=AD (P:=P) w ht;obtain⟨c1,c2⟩:=Bl (F:=F) (β:=β) (w:=w) M U;rw[hz] at c1 c2
 have h0:∃ C J,z.cells= #[C,J]:=by
  obtain⟨l,hl⟩:∃ l,z.cells=⟨l⟩:=⟨z.cells.toList,rfl⟩
  rw[hl] at c1 ⊢
  match l,c1 with
  |[a,b],_=>exact⟨a,b,rfl⟩
 obtain⟨C,J,hv⟩:=h0;obtain⟨q0,_⟩:=c2 0 (.s (.pointer none)) C rfl (by simp[hv]);obtain⟨q1,q2⟩:=c2 1 .z J rfl (by simp[hv]);obtain⟨rfl,_⟩:=q0.c6;have hs:P.cellsOf t=2:=by rw[<- jM,hv];rfl
 obtain⟨X,h6⟩:=TW hm hn hs q1 q2;refine⟨_,_,_,_,by simp[Instr.alloc,rk,F0,hv];rfl,.inl rfl,?_,X,h6,wz⟩;exact .rp nx 0 w.heap.size 0 _ _ _ (aj _ _ _)
theorem LN(hm:aJ P F m β w){i off:Nat}{u:Bool}{x:D}{T:TypeId}{a:Value}(ha:R F β w (.rp i off) a)(hi:m i=some (.bs u x T)):
 ∃ b v,β i=some (.cells b 0 2 2 2)/\a=.pointer (some ⟨b,0+off,none⟩)/\w.heap[b]? =some (.cells #[.pointer (if u then some ⟨b,0,none⟩ else none),v] T (0,0))/\P.cellsOf T=2/\R F β w x v/\v.oneCell'=true:=by
 obtain⟨p,hp,ap⟩:=hm.row i _ hi;cases ap with
 |bs _ _ _ b v hb hs hx h1=>
 cases ha with
 |qY _ _ _ h _=>rw[h] at hp;cases hp
 |rp _ _ C o len room sz h=>
  rw[h] at hp;cases hp;exact⟨b,v,h,rfl,hb,hs,hx,h1⟩
theorem ZC(hm:aJ P F m β w){t:TypeId}{i:Nat}{u:Bool}{x:D}{T:TypeId}{a:Value}(ha:R F β w (.rp i 1) a)(hi:m i=some (.bs u x T))(ht:aI P t=true)(hg:bq P t=false){rd:List Nat}:
 aX P F m nx β w { pre:=True,val:=x,rd:=rd } (do Pure.pure (Next.value (<- Instr.loadAt t a))):=by
 obtain⟨b,v,_,rfl,hb,_,hx,h1⟩:=LN hm ha hi;refine aX.pure hm (v:=v) ?_ hx;have hc:w.cell? ⟨b,0+1,none⟩=some v:=by simp[World.cell?,hb]
 simp[Instr.loadAt,Instr.sureAddr,loadVar,Da w (AU ht),hg,hc]
theorem Y1(hm:aJ P F m β w){t:TypeId}{i:Nat}{u:Bool}{x d:D}{T:TypeId}{a y:Value}(ha:R F β w (.rp i 1) a)(hy:R F β w d y)(hi:m i=some (.bs u x T))(ht:aI P t=true)(hg:bq P t=false)(hd:d.one=true){rd:List Nat}:
 aX P F m nx β w { pre:=True,val:=.aM [],aU:=[(i,some (.bs u d T))],rd:=rd } (do Instr.storeAt t a y;Pure.pure Next.skip):=by
 obtain⟨b,v,X,rfl,hb,hs,hx,h1⟩:=LN hm ha hi;have C:y.oneCell'=true:=hy.one hd;obtain⟨_,_,_,_,_,_,vU,_⟩:=rF ht;have uU:y.cells= #[y]:=by cases y<;>first|rfl|simp[Value.oneCell'] at C
 have J:=run_storeCells_at P b 1 T [y] 0 #[.pointer (if u then some ⟨b,0,none⟩ else none),v] w hb oS (by simpa using C)
 have dn:(storeVar t ⟨b,0+1,none⟩ y).run P w=.ok () (w.setRow b #[.pointer (if u then some ⟨b,0,none⟩ else none),y]):=by
  simp only[storeVar];simp only[Nat.add_zero] at J;simp[je w (jQ ht),vU hg,uU,J]
 have r5:=setRow_heap w b #[.pointer (if u then some ⟨b,0,none⟩ else none),v] #[.pointer (if u then some ⟨b,0,none⟩ else none),y] T (0,0) hb;have U:∀ k,k≠b->(w.setRow b #[.pointer (if u then some ⟨b,0,none⟩ else none),y]).heap[k]? =w.heap[k]? :=fun k hk=>setRow_other w b k _ hk;have bD:(w.setRow b #[.pointer (if u then some ⟨b,0,none⟩ else none),y]).heap.size=w.heap.size:=by simp
 have M:=C' hm X rfl oG U;have fJ:=hm.write X rfl bD U (.bs u d T) (.bs u d T b y r5 hs (hy.step M) C);exact⟨.skip,undef,_,β,by simp[Instr.storeAt,Instr.sureAddr,dn],.inr ⟨rfl,rfl⟩,.aM [] [] rfl oS,fJ,M,fun _ h _=>h⟩
theorem dd.env{ρ J:Operand->D}{nx:Nat}{o:Op}{e:dy}(hr:∀ x∈o.operands,J x=ρ x)(h:dd P ρ m nx o e):dd P J m nx o e:=by
 cases h with
 |add t p x y a b hx hy h=>exact .add t p x y a b ((hr x cI).trans hx) ((hr y cI).trans hy) h
 |Ee src dst x l hx hs hd=>exact .Ee src dst x l ((hr x cI).trans hx) hs hd
 |Eg src dst x l i off cs e hx hi hl hs hd=>exact .Eg src dst x l i off cs e ((hr x cI).trans hx) hi hl hs hd
 |rune src dst x k k' n hx hs hd h0 h1=>exact .rune src dst x k k' n ((hr x cI).trans hx) hs hd h0 h1
 |cut t x h c es n k k' hx hh hc ht hn=>exact .cut t x h c es n k k' ((hr x cI).trans hx) ((hr h cI).trans hh) ((hr c cI).trans hc) ht hn
 |y6 c s x t es news n k p rd hc hs hx hp ht hn hk hz C hb=>
  refine .y6 c s x t es news n k p rd hc ((hr s (by rw[hc];simp[Op.operands,Call.operands])).trans hs) ?_ hp ht hn hk hz C hb;rw[hr x (by rw[hc];simp[Op.operands,Call.operands])];exact hx
 |yw c s x t u b hc hs hx ht hu C hb=>exact .yw c s x t u b hc ((hr s (by rw[hc];simp[Op.operands,Call.operands])).trans hs) ((hr x (by rw[hc];simp[Op.operands,Call.operands])).trans hx) ht hu C hb
 |yI c s x t u b i off n cs hc hs hx hi ht hu hf C hb=>exact .yI c s x t u b i off n cs hc ((hr s (by rw[hc];simp[Op.operands,Call.operands])).trans hs) ((hr x (by rw[hc];simp[Op.operands,Call.operands])).trans hx) hi ht hu hf C hb
 |mL c x t i es hc hx hi ht=>exact .mL c x t i es hc ((hr x (by rw[hc];simp[Op.operands,Call.operands])).trans hx) hi ht
 |y7 c s t i off n r hc hs hi hn=>exact .y7 c s t i off n r hc ((hr s (by rw[hc];simp[Op.operands,Call.operands])).trans hs) hi hn
 |zs c p n t u e l i off cs k hc hp hn hi hl h0 ht he C M=>exact .zs c p n t u e l i off cs k hc ((hr p (by rw[hc];simp[Op.operands,Call.operands])).trans hp) ((hr n (by rw[hc];simp[Op.operands,Call.operands])).trans hn) hi hl h0 ht he C M
 |Bi t hb ht hz=>exact .Bi t hb ht hz
 |BV t x d hb hx hd hs=>exact .BV t x d hb (by rw[hr x cI];exact hx) hd hs
 |Bz t a i u x T ha hi ht hg=>exact .Bz t a i u x T ((hr a cI).trans ha) hi ht hg
 |yJ t a y i u x T ha hi ht hg hy=>
  rw[<- hr y cI];exact .yJ t a y i u x T ((hr a cI).trans ha) hi ht hg (by rw[hr y cI];exact hy)
theorem dd.mem{ρ:Operand->D}{m':Mem}{nx:Nat}{o:Op}{e:dy}(h:dd P ρ m nx o e)(hr:∀ i∈e.rd,m i≠none->m' i=m i):dd P ρ m' nx o e:=by
 cases h with
 |add t p x y a b hx hy h=>exact .add t p x y a b hx hy h
 |Ee src dst x l hx hs hd=>exact .Ee src dst x l hx hs hd
 |Eg src dst x l i off cs e hx hi hl hs hd=>exact .Eg src dst x l i off cs e hx ((hr i oS (by simp[hi])).trans hi) hl hs hd
 |rune src dst x k k' n hx hs hd h0 h1=>exact .rune src dst x k k' n hx hs hd h0 h1
 |cut t x h c es n k k' hx hh hc ht hn=>exact .cut t x h c es n k k' hx hh hc ht hn
 |y6 c s x t es news n k p rd hc hs hx hp ht hn hk hz C hb=>
  refine .y6 c s x t es news n k p rd hc hs ?_ hp ht hn hk hz C hb;revert hx;unfold jP;split
  .exact id
  .exact id
  .intro hx;split at hx
   .rename_i J;cases hx;rw[hr _ oS (by simp[J]),J]
   .cases hx
  .exact id
 |yw c s x t u b hc hs hx ht hu C hb=>exact .yw c s x t u b hc hs hx ht hu C hb
 |yI c s x t u b i off n cs hc hs hx hi ht hu hf C hb=>exact .yI c s x t u b i off n cs hc hs hx ((hr i oS (by simp[hi])).trans hi) ht hu hf C hb
 |mL c x t i es hc hx hi ht=>exact .mL c x t i es hc hx ((hr i oS (by simp[hi])).trans hi) ht
 |y7 c s t i off n r hc hs hi hn=>exact .y7 c s t i off n r hc hs ((hr i oS (by simp[hi])).trans hi) hn
 |zs c p n t u e l i off cs k hc hp hn hi hl h0 ht he C M=>exact .zs c p n t u e l i off cs k hc hp hn ((hr i oS (by simp[hi])).trans hi) hl h0 ht he C M
 |Bi t hb ht hz=>exact .Bi t hb ht hz
 |BV t x d hb hx hd hs=>exact .BV t x d hb hx hd hs
 |Bz t a i u x T ha hi ht hg=>exact .Bz t a i u x T ha ((hr i oS (by simp[hi])).trans hi) ht hg
 |yJ t a y i u x T ha hi ht hg hy=>exact .yJ t a y i u x T ha ((hr i oS (by simp[hi])).trans hi) ht hg hy
theorem dd.pre{ρ:Operand->D}{nx:Nat}{o:Op}{e:dy}(h:dd P ρ m nx o e):e.pre:=by cases h<;>trivial
theorem dd.defer{ρ:Operand->D}{nx:Nat}{o:Op}{e:dy}(h:dd P ρ m nx o e):∀ c,o≠ .defer c:=by cases h<;>simp
theorem dd.tidy{ρ:Operand->D}{nx:Nat}{o:Op}{e:dy}(h:dd P ρ m nx o e):
 (∀ i∈e.aU.map (·.1),m i≠none\/(nx<=i/\i<nx+e.new))/\(c7 o=0->e.rd=[]/\e.aU=[])/\(c7 o=1->e.aU=[])/\(c7 o=3->e.rd=[]/\∀ i∈e.aU.map (·.1),nx<=i):=by
 cases h with
 |y6 c s x t es news n k p rd hc hs hx hp ht hn hk hz C hb=>rw[hc];simp[c7]
 |yw c s x t u b hc hs hx ht hu C hb=>rw[hc];simp[c7]
 |yI c s x t u b i off n cs hc hs hx hi ht hu hf C hb=>rw[hc];simp[c7,hi]
 |mL c x t i es hc hx hi ht=>rw[hc];simp[c7]
 |y7 c s t i off n r hc hs hi hn=>rw[hc];simp[c7]
 |zs c p n t u e l i off cs k hc hp hn hi hl h0 ht he C J=>rw[hc];simp[c7,hi]
 |yJ t a y i u x T ha hi ht hg hy=>simp[c7,hi]
 |_=>simp[c7]
theorem ZD(hm:aJ P F m β w){o:Oper}{env:Env}{a:Act}{e:dy}(hn:e.new=1->β nx=none)(hE:ia F β w env a)(ha:asks env o.op)(h:dd P (a6 env o.op) m nx o.op e):aX P F m nx β w e (execOp a.eval o):=by
 obtain⟨dst,op,type,pos,after,guard⟩:=o;simp only at ha h
 have J:(∀ c x y,op≠ .pick c x y)->∀ x∈op.operands.toList,R F β w (a6 env op x) (a.eval x):=fun Fg x hx=>by
  have h1:a6 env op x=(opd env x).core:=by cases op<;>first|rfl|exact absurd rfl (Fg _ _ _)
  have h2:(opd env x).ask:=by cases op<;>first|exact ha x hx|exact absurd rfl (Fg _ _ _)
  rw[h1];exact(hE.opd x).uF _ h2
 have call:∀ (b:Builtin) (s x:Operand) (ts:Array TypeId) (q:Sem Next),op=.call { callee:=.builtin b,args:= #[s,x],argTypes:=ts }->(∀ cs,builtin b ts type cs #[a.eval s,a.eval x]=q)->aX P F m nx β w e q->aX P F m nx β w e (execOp a.eval ⟨dst,op,type,pos,after,guard⟩):=by
  intro b s x ts q ho hb hq;subst ho;obtain⟨n,v,w',β',h1,h2⟩:=hq;refine⟨n,v,w',β',?_,h2⟩;unfold execOp;simp only[resolve,Sem.run_bind,Sem.run_pure,Result.andThen_ok,invoke];have e1:(#[s,x]:Array Operand).map a.eval= #[a.eval s,a.eval x]:=by simp
  rw[e1,hb];exact h1
 have UB:∀ (b:Builtin) (s:Operand) (ts:Array TypeId) (q:Sem Next),op=.call { callee:=.builtin b,args:= #[s],argTypes:=ts }->(∀ cs,builtin b ts type cs #[a.eval s]=q)->aX P F m nx β w e q->aX P F m nx β w e (execOp a.eval ⟨dst,op,type,pos,after,guard⟩):=by
  intro b s ts q ho hb hq;subst ho;obtain⟨n,v,w',β',h1,h2⟩:=hq;refine⟨n,v,w',β',?_,h2⟩;unfold execOp;simp only[resolve,Sem.run_bind,Sem.run_pure,Result.andThen_ok,invoke];have e1:(#[s]:Array Operand).map a.eval= #[a.eval s]:=by simp
  rw[e1,hb];exact h1
 cases h with
 |add t p x y b c hx hy h=>
  have C:=J oS x cI;have qy:=J oS y cI;rw[hx] at C;rw[hy] at qy;obtain⟨e1,_⟩:=C.c6;obtain⟨e2,_⟩:=qy.c6;unfold execOp;refine aX.val hm (v:=.string (b++c)) ?_ (.s _ rfl);simp only[e1,e2,Sem.run_bind,wu .add t x y (.string b) (.string c) oS oS,Result.andThen_ok,binOp_string_add,run_string_add_sum w b c (by simp[maxLen] at h;omega),Sem.run_pure]
 |Ee src dst x l hx hs hd=>
  have C:=J oS x cI;rw[hx] at C;exact Zy hm C hs hd
 |Eg src dst x l i off cs e hx hi hl hs hd=>
  have C:=J oS x cI;rw[hx] at C;exact Zz hm C hi hl hs hd
 |rune src dst x k k' n hx hs hd h0 h1=>
  have C:=J oS x cI;rw[hx] at C;exact aay hm C hs hd h0 h1
 |cut t x h c es n k k' hx hh hc ht iL=>
  have C:=J oS x cI;have qh:=J oS h cI;have qc:=J oS c cI;rw[hx] at C;rw[hh] at qh;rw[hc] at qc;exact acd hm C qh qc ht iL
 |y6 c s x t es news n k p rd hc hs hx hp ht iL hk hz U hb=>
  have M:=J oS s (by rw[hc];simp[Op.operands,Call.operands]);have C:=J oS x (by rw[hc];simp[Op.operands,Call.operands]);rw[hs] at M;obtain⟨cc,cR,X⟩:=J' (ty:=type) hm C hx hp ht hz;exact call .append s x _ _ (by rw[hc]) (fun _=>rfl) ((CY hm (hn rfl) cR X (kv ht).2 hz).2.1 es n M hk iL U hb)
 |yw c s x t u b hc hs hx ht hu U hb=>
  have M:=J oS s (by rw[hc];simp[Op.operands,Call.operands]);have C:=J oS x (by rw[hc];simp[Op.operands,Call.operands]);rw[hs] at M;rw[hx] at C;obtain⟨e1,_⟩:=C.c6;refine call .append s x _ _ (by rw[hc]) (fun _=>rfl) ?_;rw[e1];exact(CY hm (hn rfl) (TV b) (S0 (ty:=type) ht hu b) (kv ht.1).2 (by rw[ht.2.2];omega)).1 M U hb
 |yI c s x t u b i off n cs hc hs hx hi ht hu hf U hb=>
  have M:=J oS s (by rw[hc];simp[Op.operands,Call.operands]);have C:=J oS x (by rw[hc];simp[Op.operands,Call.operands]);rw[hs] at M;rw[hx] at C;obtain⟨e1,_⟩:=C.c6;refine call .append s x _ _ (by rw[hc]) (fun _=>rfl) ?_;rw[e1];exact(CY hm (hn rfl) (TV b) (S0 (ty:=type) ht hu b) (kv ht.1).2 (by rw[ht.2.2];omega)).2.2 i off n cs M hi (by rw[ht.2.2];omega) U hb
 |mL c x t i es hc hx hi ht=>
  have C:=J oS x (by rw[hc];simp[Op.operands,Call.operands]);rw[hx] at C;exact UB .len x _ _ (by rw[hc]) (fun _=>rfl) (aaz hm C hi ht)
 |y7 c s t i off n r hc hs hi iL=>
  have M:=J oS s (by rw[hc];simp[Op.operands,Call.operands]);rw[hs] at M;exact UB .unsafeSliceData s _ _ (by rw[hc]) (fun _=>rfl) (ZA hm M hi iL)
 |zs c p n t u e l i off cs k hc hp iL hi hl h0 ht he U px=>
  have qp:=J oS p (by rw[hc];simp[Op.operands,Call.operands]);have qn:=J oS n (by rw[hc];simp[Op.operands,Call.operands]);rw[hp] at qp;rw[iL] at qn;exact call .unsafeString p n _ _ (by rw[hc]) (fun _=>rfl) (aaA hm qp qn hi hl h0 ht he U px)
 |Bi t hb ht hz=>exact Y0 hm (hn rfl) ht hz
 |BV t x d hb hx hd hs=>exact aaB hm (hn rfl) hx hd hs (J oS x cI)
 |Bz t b i u x T hb hi ht hg=>
  have qa:=J oS b cI;rw[hb] at qa;exact ZC hm qa hi ht hg
 |yJ t b y i u x T hb hi ht hg hy=>
  have qa:=J oS b cI;have qy:=J oS y cI;rw[hb] at qa;exact Y1 hm qa qy hi ht hg hy
end
theorem ad6{P:Program}{ops:Array Oper}{o:Oper}{st:St}{e:dy}(U:ji ops o st true)(ha:asks st.env o.op)(h:dd P (a6 st.env o.op) st.mem st.nx o.op e):dp.Ok P ops o st ⟨e.val,e.aU,e.rd,e.new⟩:=by
 intro F β w a m env N he J hm hr hn hN r n X K M;have C:=yo he;refine S3 (m:=m) (nx:=st.nx) (β:=β) (F:=F) h.defer (U F β w a env he J) (ZD hm (fun h1=>hn st.nx (aZ _) (by simp[h1])) J (by rw[yu C];exact ha) ?_) M;exact(h.env (yx C)).mem hr
end Go.Abs
