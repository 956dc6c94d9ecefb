/- Part 1. -/
import Derived.ChangeKeysEq
import Derived.DeepKeys3
import Derived.KernelRfl
import Derived.OrdersIn
import Derived.RangeFuncLeaves
import Derived.WalkKit
import Derived.WideKeyMaps
set_option linter.all false
theorem kr {α:Sort _} {a b:α} (h:a=b:=by kernel_rfl):a=b:=h
theorem aN{α : Type _}{l : List α}{i : Nat}(h : i < l.length) : l[i]? = some l[i] := List.getElem?_eq_getElem h
theorem bl{α : Type _}{l : List α}{i : Nat}{a : α} : l.getD i a = l[i]?.getD a := List.getD_eq_getElem?_getD
theorem aV{α : Type _}(a b : α) : (some a = some b) = (a = b) := Option.some.injEq a b
theorem bw{α : Type _}{l : List α}{i : Nat}{a : α} : l[i]? = some a ↔ ∃ h : i < l.length, l[i] = a := List.getElem?_eq_some_iff
theorem aM(a b : Bool) : ((a && b) = true) = (a = true ∧ b = true) := Bool.and_eq_true a b
theorem bE{n m : Nat}(h : Nat.ble n m = true) : n ≤ m := Nat.le_of_ble_eq_true h
theorem bN(n : Nat) : ((n : Int)).toNat = n := Int.toNat_natCast n
theorem cy{α : Type _}{l : List α}{n : Nat}(h : n < l.length) : l[n] ∈ l := List.getElem_mem h
theorem cU{a : Int}(h : 0 ≤ a) : ∃ n : Nat, a = n := Int.eq_ofNat_of_zero_le h
theorem bU{α : Type _}{l : List α}{i : Nat}{a : α}(e : l[i]? = some a) : a ∈ l := List.mem_of_getElem? e
theorem df{α : Type _}{l : List α}{i : Nat}(h : l.length ≤ i) : List.take i l = l := List.take_of_length_le h
theorem dx{α β : Type _}{f : α → β}{x : Option α}{b : β} : x.map f = some b ↔ ∃ a, x = some a ∧ f a = b := Option.map_eq_some_iff
theorem cC{α : Type _}{a : α}{l : List α}(h : a ∈ l) : ∃ i : Nat, l[i]? = some a := List.getElem?_of_mem h
theorem bj{α : Type _}{p : α → Bool}{l : List α} : l.all p = true ↔ ∀ x ∈ l, p x = true := List.all_eq_true
theorem bQ{α β : Type _}(a : α)(b : β)(c : α)(d : β) : ((a, b) = (c, d)) = (a = c ∧ b = d) := Prod.mk.injEq a b c d
theorem bF(n : Nat) : n ≤ n := Nat.le_refl n
theorem oS{p : Prop}(h : p:=by simp) : p:=h
theorem oM{p : Prop}(h : p:=by dsimp only;omega) : p:=h
theorem oC{p : Prop}(h : p:=by decide) : p:=h
theorem oN{p : Prop}(h : p:=by assumption) : p:=h
theorem oP{p : Prop}(h : p:=by simp;omega) : p:=h
theorem oH{p : Prop}(h : p:=by cases h) : p:=h
theorem cv{p : Prop}(h : p:=by repeat' (first|exact trivial|exact rfl|refine And.intro ?_ ?_)) : p:=h
theorem bc{p : Prop}(h : p:=by simp[apartT]) : p:=h
theorem gk{p : Prop}(h : p:=by simp[Op.operands]) : p:=h
theorem aoE{p : Prop}(h : p:=by first|(simp;done)|exact⟨rfl,bE rfl⟩|(simp;omega)) : p:=h
theorem aoF{p : Prop}(h : p:=by first|(simp;done)|omega|exact bE rfl) : p:=h
theorem aoG{p : Prop}(h : p:=by first|rfl|exact bE rfl|(simp;done)|(simp;omega)|omega) : p:=h
theorem oG{p:Prop}(h:p:=by omega):p:=h
theorem eG{p:Prop}(h:p:=by repeat' (first|exact trivial|exact rfl|refine And.intro ?_ ?_)):p:=h
namespace Go.Abs
inductive D where
 |u
 |s (v:Value)
 |ub
 |opt (c:Bool) (d:D)
 |agg (cs:List D)
 |tup (cs:List D)
 |z
 |sl (es:List D) (n:Nat)
 |pt (cs:List D)
 |rs (i off n:Nat)
 |rp (i off:Nat)
 |mp (i:Nat)
 |im (es:List (Value×D))
 |fn (f:Fn) (fs cs:List D)
 deriving Inhabited
inductive Pl where
 |dead
 |nil
 |cells (b o len room sz:Nat)
 |map (r:Nat)
 |raw (r:Nat)
def Pl.blk:Pl->Option Nat
 | .cells b _ _ _ _=>some b
 | .map r=>some r
 | .raw r=>some r
 |_=>none
def plain:Value->Bool
 | .bool _ | .int _ _ | .string _ | .pointer none | .nilFunc | .nilIface | .map none=>true
 |_=>false
abbrev Pla:=Nat->Option Pl
def Pla.free(β:Pla)(b:Nat):Prop:=∀ i p,β i=some p->p.blk≠some b
inductive R(F:Nat->Prop)(β:Pla)(w:World):D->Value->Prop
 |u (v:Value):R F β w .u v
 |s (v:Value) (h:plain v=true):R F β w (.s v) v
 |ub (b:Bool):R F β w .ub (.bool b)
 |opt (c:Bool) (d:D) (v:Value) (h:c=true->R F β w d v) (h':c=false->v=undef):R F β w (.opt c d) v
 |agg (cs:List D) (vs:List Value) (hl:vs.length=cs.length) (h:∀ (k:Nat) (d:D) (v:Value),cs[k]? =some d->vs[k]? =some v->R F β w d v):R F β w (.agg cs) (.agg vs.toArray)
 |tup (cs:List D) (vs:List Value) (hl:vs.length=cs.length) (h:∀ (k:Nat) (d:D) (v:Value),cs[k]? =some d->vs[k]? =some v->R F β w d v):R F β w (.tup cs) (.tuple vs.toArray)
 |z (a:Option Addr):R F β w .z (.slice a 0 0)
 |sln (a:Option Addr) (cap:Nat):R F β w (.sl [] 0) (.slice a 0 cap)
 |sl (es:List D) (n b o cap:Nat) (us:Nat->Value) (hf:¬ F b) (hb:β.free b) (ao:b<w.heap.size) (sD:n<=cap) (fV:cap<=maxLen)
  (hc:∀ k:Nat,k<es.length->w.cell? ⟨b,o+k,none⟩=some (us k)/\(us k).oneCell'=true) (h:∀ (k:Nat) (d:D),es[k]? =some d->R F β w d (us k)):R F β w (.sl es n) (.slice (some ⟨b,o,none⟩) n cap)
 |pt (cs:List D) (b o:Nat) (us:Nat->Value) (hf:¬ F b) (hb:β.free b) (ao:b<w.heap.size)
  (hc:∀ k:Nat,k<cs.length->w.cell? ⟨b,o+k,none⟩=some (us k)/\(us k).oneCell'=true) (h:∀ (k:Nat) (d:D),cs[k]? =some d->R F β w d (us k)):R F β w (.pt cs) (.pointer (some ⟨b,o,none⟩))
 |rsd (i off n:Nat) (v:Value) (h:β i=some .dead) (hv:v.oneCell'=true):R F β w (.rs i off n) v
 |rsn (i:Nat) (a:Option Addr) (h:β i=some .nil):R F β w (.rs i 0 0) (.slice a 0 0)
 |rsz (i off:Nat) (a:Option Addr) (b o len room sz:Nat) (h:β i=some (.cells b o len room sz)):R F β w (.rs i off 0) (.slice a 0 0)
 |rs (i off n cap b o len room sz:Nat) (h:β i=some (.cells b o len room sz)) (hn:n<=cap) (fV:cap<=maxLen)
  (h1:len<=off+cap*sz) (h2:off+cap*sz<=room):R F β w (.rs i off n) (.slice (some ⟨b,o+off,none⟩) n cap)
 |rpd (i off:Nat) (v:Value) (h:β i=some .dead) (hv:v.oneCell'=true):R F β w (.rp i off) v
 |rp (i off b o len room sz:Nat) (h:β i=some (.cells b o len room sz)):R F β w (.rp i off) (.pointer (some ⟨b,o+off,none⟩))
 |mpd (i:Nat) (v:Value) (h:β i=some .dead) (hv:v.oneCell'=true):R F β w (.mp i) v
 |mp (i r:Nat) (h:β i=some (.map r)):R F β w (.mp i) (.map (some r))
 |im (es:List (Value×D)) (r:Nat) (ms:Array MapEntry) (clock:Nat) (hf:¬ F r) (hb:β.free r) (hc:w.heap[r]? =some (.map ms clock)) (hl:ms.size=es.length) (cR:(es.map (·.1)).Nodup)
  (hk:∀ (k:Nat) (x:Value×D) (m:MapEntry),es[k]? =some x->ms[k]? =some m->m.key=x.1) (h:∀ (k:Nat) (x:Value×D) (m:MapEntry),es[k]? =some x->ms[k]? =some m->R F β w x.2 m.val):R F β w (.im es) (.map (some r))
 |fn (f:Fn) (fs cs:List D) (us vs:List Value) (hl:us.length=fs.length) (jX:vs.length=cs.length)
  (h:∀ (k:Nat) (d:D) (v:Value),fs[k]? =some d->us[k]? =some v->R F β w d v) (h':∀ (k:Nat) (d:D) (v:Value),cs[k]? =some d->vs[k]? =some v->R F β w d v):R F β w (.fn f fs cs) (.func f us.toArray vs.toArray)
abbrev Out(w w':World):Prop:=w'.os=w.os/\w'.output=w.output
theorem Out.trans{C J M:World}(h:Out C J)(k:Out J M):Out C M:=⟨k.1.trans h.1,k.2.trans h.2⟩
structure Step(β:Pla)(w:World)(β':Pla)(w':World):Prop where
 size:w.heap.size<=w'.heap.size
 imm:∀ b,b<w.heap.size->β.free b->w'.heap[b]? =w.heap[b]? /\β'.free b
 keep:∀ i p,β i=some p->β' i=some p\/β' i=some .dead
 out:Out w w'
theorem Step.refl(β:Pla)(w:World):Step β w β w:=⟨bF _,fun _ _ h=>⟨rfl,h⟩,fun _ _ h=>.inl h,rfl,rfl⟩
theorem Step.trans{X β₂ β₃:Pla}{C J M:World}(h:Step X C β₂ J)(k:Step β₂ J β₃ M):Step X C β₃ M:=by
 refine⟨Nat.le_trans h.size k.size,fun b hb hf=>?_,fun i p hp=>?_,h.out.trans k.out⟩
 .obtain⟨h1,h2⟩:=h.imm b hb hf;obtain⟨k1,k2⟩:=k.imm b (Nat.lt_of_lt_of_le hb h.size) h2;exact⟨k1.trans h1,k2⟩
 .rcases h.keep i p hp with h1|h1
  .exact k.keep i p h1
  .right;rcases k.keep i _ h1 with h2|h2<;>exact h2
theorem cell_of_heap{w w':World}{b o:Nat}(h:w'.heap[b]? =w.heap[b]?):w'.cell? ⟨b,o,none⟩=w.cell? ⟨b,o,none⟩:=by
 simp[World.cell?,h]
def SameB(w w':World)(b:Nat):Prop:=(∀ o u,w.cell? ⟨b,o,none⟩=some u->w'.cell? ⟨b,o,none⟩=some u)/\∀ ms c,w.heap[b]? =some (.map ms c)->w'.heap[b]? =some (.map ms c)
theorem same_of{w w':World}{b:Nat}(h:w'.heap[b]? =w.heap[b]?):SameB w w' b:=⟨fun _ _ C=>(cell_of_heap h).trans C,fun _ _ hm=>h.trans hm⟩
theorem SameB.refl(w:World)(b:Nat):SameB w w b:=⟨fun _ _ h=>h,fun _ _ h=>h⟩
theorem R.gen{F F':Nat->Prop}{β β':Pla}{w w':World}(cE:w.heap.size<=w'.heap.size)
 (M:∀ b,b<w.heap.size->¬ F b->β.free b->SameB w w' b/\β'.free b/\¬ F' b)
 (C:∀ i p,(∀ r,p≠ .raw r)->β i=some p->β' i=some p\/β' i=some .dead) {d:D} {v:Value} (h:R F β w d v):R F' β' w' d v:=by
 induction h with
 |u v=>exact .u v
 |s v h=>exact .s v h
 |ub b=>exact .ub b
 |opt c d v _ h' ih=>exact .opt c d v ih h'
 |agg cs vs hl _ ih=>exact .agg cs vs hl ih
 |tup cs vs hl _ ih=>exact .tup cs vs hl ih
 |z a=>exact .z a
 |sln a cap=>exact .sln a cap
 |sl es n b o cap us hf hb ao sD fV hc _ ih=>
  obtain⟨h1,h2,h3⟩:=M b ao hf hb;exact .sl es n b o cap us h3 h2 (Nat.lt_of_lt_of_le ao cE) sD fV (fun k hk=>⟨h1.1 _ _ (hc k hk).1,(hc k hk).2⟩) ih
 |pt cs b o us hf hb ao hc _ ih=>
  obtain⟨h1,h2,h3⟩:=M b ao hf hb;exact .pt cs b o us h3 h2 (Nat.lt_of_lt_of_le ao cE) (fun k hk=>⟨h1.1 _ _ (hc k hk).1,(hc k hk).2⟩) ih
 |rsd i off n v h hv=>exact .rsd i off n v (by rcases C i _ oS h with h1|h1<;>exact h1) hv
 |rsn i a h=>
  rcases C i _ oS h with h1|h1
  .exact .rsn i a h1
  .exact .rsd i 0 0 _ h1 rfl
 |rsz i off a b o len room sz h=>
  rcases C i _ oS h with h1|h1
  .exact .rsz i off a b o len room sz h1
  .exact .rsd i off 0 _ h1 rfl
 |rs i off n cap b o len room sz h hn fV h1 h2=>
  rcases C i _ oS h with h3|h3
  .exact .rs i off n cap b o len room sz h3 hn fV h1 h2
  .exact .rsd i off n _ h3 rfl
 |rpd i off v h hv=>exact .rpd i off v (by rcases C i _ oS h with h1|h1<;>exact h1) hv
 |rp i off b o len room sz h=>
  rcases C i _ oS h with h1|h1
  .exact .rp i off b o len room sz h1
  .exact .rpd i off _ h1 rfl
 |mpd i v h hv=>exact .mpd i v (by rcases C i _ oS h with h1|h1<;>exact h1) hv
 |mp i r h=>
  rcases C i _ oS h with h1|h1
  .exact .mp i r h1
  .exact .mpd i _ h1 rfl
 |im es r ms clock hf hb hc hl cR hk _ ih=>
  obtain⟨h1,h2,h3⟩:=M r (Array.getElem?_eq_some_iff.1 hc).1 hf hb;exact .im es r ms clock h3 h2 (h1.2 _ _ hc) hl cR hk ih
 |fn f fs cs us vs hl jX _ _ ih J=>exact .fn f fs cs us vs hl jX ih J
theorem R.step{F:Nat->Prop}{β β':Pla}{w w':World}(hs:Step β w β' w'){d:D}{v:Value}(h:R F β w d v):R F β' w' d v:=
 h.gen hs.size (fun b hb hf C=>⟨same_of (hs.imm b hb C).1,(hs.imm b hb C).2,hf⟩) fun i p _=>hs.keep i p
inductive Row where
 |cells (cs:List D) (e:TypeId)
 |map (es:List (Value×D))
 |raw (r:Nat) (o:Obj)
 |ren (f:Nat->Option Nat) (r:Row)
abbrev Mem:=Nat->Option Row
inductive RowB(P:Program)(F:Nat->Prop)(β:Pla)(w:World):Row->Pl->Prop
 |nil (e:TypeId):RowB P F β w (.cells [] e) .nil
 |cells (cs:List D) (e:TypeId) (b o room sz:Nat) (c:Array Value) (hb:w.heap[b]? =some (.cells c e (0,0))) (hr:o+room<=c.size) (hlen:cs.length<=room) (cE:sz=P.cellsOf e)
  (h:∀ (k:Nat) (d:D),cs[k]? =some d->∃ v,c[o+k]? =some v/\R F β w d v/\v.oneCell'=true):RowB P F β w (.cells cs e) (.cells b o cs.length room sz)
 |map (es:List (Value×D)) (r:Nat) (ms:Array MapEntry) (clock:Nat) (hb:w.heap[r]? =some (.map ms clock)) (hl:ms.size=es.length) (cR:(es.map (·.1)).Nodup)
  (h:∀ (k:Nat) (x:Value×D) (m:MapEntry),es[k]? =some x->ms[k]? =some m->m.key=x.1/\R F β w x.2 m.val):RowB P F β w (.map es) (.map r)
 |raw (r:Nat) (o:Obj) (hb:w.heap[r]? =some o):RowB P F β w (.raw r o) (.raw r)
def Pla.via(β:Pla)(f:Nat->Option Nat):Pla:=fun i=>(f i).bind β
inductive RowR(P:Program)(F:Nat->Prop)(β:Pla)(w:World):Row->Pl->Prop
 |nil (e:TypeId):RowR P F β w (.cells [] e) .nil
 |cells (cs:List D) (e:TypeId) (b o room sz:Nat) (c:Array Value) (hb:w.heap[b]? =some (.cells c e (0,0))) (hr:o+room<=c.size) (hlen:cs.length<=room) (cE:sz=P.cellsOf e)
  (h:∀ (k:Nat) (d:D),cs[k]? =some d->∃ v,c[o+k]? =some v/\R F β w d v/\v.oneCell'=true):RowR P F β w (.cells cs e) (.cells b o cs.length room sz)
 |map (es:List (Value×D)) (r:Nat) (ms:Array MapEntry) (clock:Nat) (hb:w.heap[r]? =some (.map ms clock)) (hl:ms.size=es.length) (cR:(es.map (·.1)).Nodup)
  (h:∀ (k:Nat) (x:Value×D) (m:MapEntry),es[k]? =some x->ms[k]? =some m->m.key=x.1/\R F β w x.2 m.val):RowR P F β w (.map es) (.map r)
 |raw (r:Nat) (o:Obj) (hb:w.heap[r]? =some o):RowR P F β w (.raw r o) (.raw r)
 |ren (f:Nat->Option Nat) (r:Row) (p:Pl) (F₂:Nat->Prop) (h1:∀ b,F b->F₂ b) (h2:∀ b,¬ β.free b->(β.via f).free b->F₂ b) (h:RowB P F₂ (β.via f) w r p):RowR P F β w (.ren f r) p
structure MSim(P:Program)(F:Nat->Prop)(m:Mem)(β:Pla)(w:World):Prop where
 row:∀ i r,m i=some r->∃ p,β i=some p/\RowR P F β w r p
 inj:∀ i j p q b,β i=some p->β j=some q->p.blk=some b->q.blk=some b->i=j
 lt:∀ i p b,β i=some p->p.blk=some b->b<w.heap.size
 nf:∀ i p b,β i=some p->p.blk=some b->¬ F b
 fb:∀ b,F b->b<w.heap.size
def up{α:Type}(f:Nat->α)(k:Nat)(v:α):Nat->α:=fun j=>if j=k then v else f j
theorem up_apply{α:Type}(f:Nat->α)(k:Nat)(v:α)(j:Nat):up f k v j=if j=k then v else f j:=rfl
theorem up_same{α:Type}(f:Nat->α)(k:Nat)(v:α):up f k v k=v:=by simp[up]
theorem up_ne{α:Type}(f:Nat->α){k:Nat}(v:α){j:Nat}(h:j≠k):up f k v j=f j:=by simp[up,h]
section
variable{P:Program}{F:Nat->Prop}{β β':Pla}{w w':World}{m:Mem}
theorem RowB.gen{F':Nat->Prop}(cE:w.heap.size<=w'.heap.size)
 (M:∀ b,b<w.heap.size->¬ F b->β.free b->SameB w w' b/\β'.free b/\¬ F' b)
 (J:∀ i p,(∀ r,p≠ .raw r)->β i=some p->β' i=some p\/β' i=some .dead) {r:Row} {p:Pl} (hb:∀ b,p.blk=some b->w'.heap[b]? =w.heap[b]?) (h:RowB P F β w r p):RowB P F' β' w' r p:=by
 cases h with
 |nil e=>exact .nil e
 |cells cs e b o room sz c hc hr hlen hs C=>
  refine .cells cs e b o room sz c ((hb b rfl).trans hc) hr hlen hs fun k d hk=>?_;obtain⟨v,h1,h2,h3⟩:=C k d hk;exact⟨v,h1,h2.gen cE M J,h3⟩
 |map es r ms clock hc hl cR C=>
  refine .map es r ms clock ((hb r rfl).trans hc) hl cR fun k x X hk hm=>?_;obtain⟨h1,h2⟩:=C k x X hk hm;exact⟨h1,h2.gen cE M J⟩
 |raw r o hc=>exact .raw r o ((hb r rfl).trans hc)
theorem Pla.free_via{β:Pla}{b:Nat}(h:β.free b)(f:Nat->Option Nat):(β.via f).free b:=fun i p hp=>by
 unfold Pla.via at hp;obtain⟨j,_,hj⟩:=Option.bind_eq_some_iff.1 hp;exact h j p hj
theorem RowR.gen{F':Nat->Prop}(cE:w.heap.size<=w'.heap.size)
 (vm:∀ b,b<w.heap.size->¬ F b->β.free b->SameB w w' b/\β'.free b/\¬ F' b)
 (X:∀ i p,(∀ r,p≠ .raw r)->β i=some p->β' i=some p\/β' i=some .dead) {r:Row} {p:Pl} (hb:∀ b,p.blk=some b->w'.heap[b]? =w.heap[b]?) (h:RowR P F β w r p):RowR P F' β' w' r p:=by
 cases h with
 |nil e=>exact .nil e
 |cells cs e b o room sz c hc hr hlen hs M=>
  refine .cells cs e b o room sz c ((hb b rfl).trans hc) hr hlen hs fun k d hk=>?_;obtain⟨v,h1,h2,h3⟩:=M k d hk;exact⟨v,h1,h2.gen cE vm X,h3⟩
 |map es r ms clock hc hl cR M=>
  refine .map es r ms clock ((hb r rfl).trans hc) hl cR fun k x mm hk hm=>?_;obtain⟨h1,h2⟩:=M k x mm hk hm;exact⟨h1,h2.gen cE vm X⟩
 |raw r o hc=>exact .raw r o ((hb r rfl).trans hc)
 |ren f r _ F₂ h1 h2 h=>
  refine .ren f r p (fun b=>F' b\/(¬ β'.free b/\(β'.via f).free b)) (fun b hb=>.inl hb) (fun b C J=>.inr ⟨C,J⟩) (h.gen cE (fun b ao C J=>?_) (fun i q hq hi=>?_) hb)
  .have g3:β.free b:=Classical.byContradiction fun hn=>C (h2 b hn J);obtain⟨k1,k2,k3⟩:=vm b ao (fun e=>C (h1 b e)) g3;exact⟨k1,Pla.free_via k2 f,fun e=>e.elim k3 fun e=>e.1 k2⟩
  .unfold Pla.via at hi ⊢;obtain⟨j,hj,hβ⟩:=Option.bind_eq_some_iff.1 hi;rw[hj];exact X j q hq hβ
theorem RowR.step{r:Row}{p:Pl}(hs:Step β w β' w')(hb:∀ b,p.blk=some b->w'.heap[b]? =w.heap[b]?)(h:RowR P F β w r p):RowR P F β' w' r p:=
 h.gen hs.size (fun b hb hf C=>⟨same_of (hs.imm b hb C).1,(hs.imm b hb C).2,hf⟩) (fun i p _=>hs.keep i p) hb
theorem RowB.live{r:Row}{p:Pl}(h:RowB P F β w r p):p≠ .dead:=by cases h<;>simp
theorem RowR.live{r:Row}{p:Pl}(h:RowR P F β w r p):p≠ .dead:=by
 cases h with
 |ren _ _ _ _ _ _ h=>exact h.live
 |_=>simp
def Row.renB(f:Nat->Option Nat):Row->Row
 | .ren g r=>.ren (fun i=>(g i).bind f) r
 |r=>.ren f r
theorem RowR.base{r:Row}{p:Pl}(hq:∀ f r',r≠ .ren f r')(h:RowR P F β w r p):RowB P F β w r p:=by
 cases h with
 |nil e=>exact .nil e
 |cells cs e b o room sz c hc hr hlen hs C=>exact .cells cs e b o room sz c hc hr hlen hs C
 |map es r ms clock hc hl cR C=>exact .map es r ms clock hc hl cR C
 |raw r o hc=>exact .raw r o hc
 |ren f r _ _ _ _ _=>exact absurd rfl (hq f r)
theorem RowB.row{r:Row}{p:Pl}(h:RowB P F β w r p):RowR P F β w r p:=by
 cases h with
 |nil e=>exact .nil e
 |cells cs e b o room sz c hc hr hlen hs C=>exact .cells cs e b o room sz c hc hr hlen hs C
 |map es r ms clock hc hl cR C=>exact .map es r ms clock hc hl cR C
 |raw r o hc=>exact .raw r o hc
theorem RowB.weak{F':Nat->Prop}{r:Row}{p:Pl}(hF:∀ b,b<w.heap.size->β.free b->F' b->F b)(h:RowB P F β w r p):RowB P F' β w r p:=
 h.gen (bF _) (fun b hb h1 h2=>⟨SameB.refl w b,h2,fun e=>h1 (hF b hb h2 e)⟩) (fun _ _ _ h=>.inl h) fun _ _=>rfl
def hidden(F:Nat->Prop)(β:Pla)(f:Nat->Option Nat):Nat->Prop:=fun b=>F b\/(¬ β.free b/\(β.via f).free b)
theorem via_via(β:Pla)(f g:Nat->Option Nat):(β.via f).via g=β.via fun i=>(g i).bind f:=by
 funext i;simp only[Pla.via];cases g i<;>rfl
theorem RowR.seen{f:Nat->Option Nat}{r:Row}{p:Pl}(h:RowR P F β w (r.renB f) p):RowR P (hidden F β f) (β.via f) w r p:=by
 have key:∀ r',RowR P F β w (.ren f r') p->RowB P (hidden F β f) (β.via f) w r' p:=fun r' h=>by
  cases h with
  |ren _ _ _ F₂ h1 h2 h=>exact h.weak fun b _ _ hb=>hb.elim (h1 b) fun e=>h2 b e.1 e.2
 cases r with
 |ren g r=>
  simp only[Row.renB] at h;cases h with
  |ren _ _ _ F₂ h1 h2 h=>
  refine .ren g r p F₂ (fun b hb=>?_) (fun b C J=>?_) (by rw[via_via];exact h)
  .rcases hb with hb|⟨C,J⟩
   .exact h1 b hb
   .exact h2 b C (by rw[<- via_via];exact Pla.free_via J g)
  .exact h2 b (fun e=>C (Pla.free_via e f)) (by rw[<- via_via];exact J)
 |_=>exact(key _ h).row
theorem RowR.hide{F':Nat->Prop}{f:Nat->Option Nat}{r:Row}{p:Pl}(h:RowR P F' (β.via f) w r p)(h1:∀ b,F b->F' b)(h2:∀ b,¬ β.free b->(β.via f).free b->F' b):RowR P F β w (r.renB f) p:=by
 cases r with
 |ren g r=>
  simp only[Row.renB];cases h with
  |ren _ _ _ F₂ C J h=>
  refine .ren _ r p F₂ (fun b hb=>C b (h1 b hb)) (fun b k1 M=>?_) (by rw[<- via_via];exact h);by_cases hb:(β.via f).free b
  .exact C b (h2 b k1 hb)
  .exact J b hb (by rw[via_via];exact M)
 |_=>exact .ren f _ p F' h1 h2 (h.base oS)
theorem MSim.free_other(h:MSim P F m β w){i:Nat}{p:Pl}{b:Nat}(hp:β i=some p)(hb:p.blk=some b){j:Nat}{q:Pl}(hq:β j=some q)(C:j≠i):q.blk≠some b:=
 fun e=>C (h.inj j i q p b hq hp e hb)
theorem step_alloc(h:MSim P F m β w)(o:Obj){nx:Nat}(hn:β nx=none)(p:Pl)(hp:∀ b,p.blk=some b->b=w.heap.size):Step β w (up β nx (some p)) (w.alloc o):=by
 refine⟨oS,fun b hb hf=>⟨heap_alloc_old w o hb,fun i q hq=>?_⟩,fun i q hq=>?_,rfl,rfl⟩
 .by_cases hi:i=nx
  .subst hi;rw[up_same] at hq;cases hq;intro e;have:=hp b e;omega
  .rw[up_ne _ _ hi] at hq;exact hf i q hq
 .left;rw[up_ne _ _ (fun e=>by rw[e,hn] at hq;cases hq)];exact hq
theorem MSim.alloc(h:MSim P F m β w){nx:Nat}(hn:β nx=none)(o:Obj)(r:Row)(p:Pl)(hp:∀ b,p.blk=some b->b=w.heap.size)
 (hr:RowR P F (up β nx (some p)) (w.alloc o) r p):MSim P F (up m nx (some r)) (up β nx (some p)) (w.alloc o):=by
 have hs:=step_alloc h o hn p hp;refine⟨fun i r' hi=>?_,fun i j q X b hq C e M=>?_,fun i q b hq e=>?_,fun i q b hq e=>?_,fun b hb=>?_⟩
 .by_cases J:i=nx
  .subst J;rw[up_same] at hi;cases hi;exact⟨p,up_same _ _ _,hr⟩
  .rw[up_ne _ _ J] at hi;obtain⟨q,hq,ax⟩:=h.row i r' hi;exact⟨q,by rw[up_ne _ _ J];exact hq,ax.step hs fun b hb=>heap_alloc_old w o (h.lt i q b hq hb)⟩
 .by_cases hi:i=nx<;>by_cases hj:j=nx
  .rw[hi,hj]
  .subst hi;rw[up_same] at hq;rw[up_ne _ _ hj] at C;cases hq;have h1:=hp b e;have h2:=h.lt j X b C M;omega
  .subst hj;rw[up_same] at C;rw[up_ne _ _ hi] at hq;cases C;have h1:=hp b M;have h2:=h.lt i q b hq e;omega
  .rw[up_ne _ _ hi] at hq;rw[up_ne _ _ hj] at C;exact h.inj i j q X b hq C e M
 .by_cases hi:i=nx
  .subst hi;rw[up_same] at hq;cases hq;have:=hp b e;simp;omega
  .rw[up_ne _ _ hi] at hq;have:=h.lt i q b hq e;simp;omega
 .by_cases hi:i=nx
  .subst hi;rw[up_same] at hq;cases hq;intro hF;have h1:=hp b e;have h2:=h.fb b hF;omega
  .rw[up_ne _ _ hi] at hq;exact h.nf i q b hq e
 .have:=h.fb b hb;simp;omega
theorem step_dead(β:Pla)(w:World)(i:Nat):Step β w (up β i (some .dead)) w:=by
 refine⟨bF _,fun b _ hf=>⟨rfl,fun j q hq=>?_⟩,fun j q hq=>?_,rfl,rfl⟩
 .by_cases hj:j=i
  .subst hj;rw[up_same] at hq;cases hq;simp[Pl.blk]
  .rw[up_ne _ _ hj] at hq;exact hf j q hq
 .by_cases hj:j=i
  .subst hj;exact .inr (up_same _ _ _)
  .exact .inl (by rw[up_ne _ _ hj];exact hq)
theorem MSim.dead(h:MSim P F m β w)(i:Nat):MSim P F (up m i none) (up β i (some .dead)) w:=by
 have hs:=step_dead β w i
 have C:∀ j q b,up β i (some .dead) j=some q->q.blk=some b->j≠i/\β j=some q:=fun j q b hq e=>by
  by_cases hj:j=i
  .subst hj;rw[up_same] at hq;cases hq;simp[Pl.blk] at e
  .rw[up_ne _ _ hj] at hq;exact⟨hj,hq⟩
 refine⟨fun j r' hj=>?_,fun j k q X b hq iN e M=>?_,fun j q b hq e=>h.lt j q b (C j q b hq e).2 e,fun j q b hq e=>h.nf j q b (C j q b hq e).2 e,h.fb⟩
 .by_cases J:j=i
  .subst J;rw[up_same] at hj;cases hj
  .rw[up_ne _ _ J] at hj;obtain⟨q,hq,ax⟩:=h.row j r' hj;exact⟨q,by rw[up_ne _ _ J];exact hq,ax.step hs fun b _=>rfl⟩
 .exact h.inj j k q X b (C j q b hq e).2 (C k X b iN M).2 e M
theorem step_write(h:MSim P F m β w){i:Nat}{p:Pl}{b:Nat}(hp:β i=some p)(hb:p.blk=some b)(J:w.heap.size<=w'.heap.size)
 (C:∀ k,k≠b->w'.heap[k]? =w.heap[k]?) (M:Out w w':=by first|exact⟨rfl,rfl⟩|assumption):Step β w β w':=
 ⟨J,fun k _ hf=>⟨C k fun e=>hf i p hp (e▸hb),hf⟩,fun _ _ hq=>.inl hq,M⟩
theorem MSim.write(h:MSim P F m β w){i:Nat}{p:Pl}{b:Nat}(hp:β i=some p)(hb:p.blk=some b)(M:w'.heap.size=w.heap.size)
 (J:∀ k,k≠b->w'.heap[k]? =w.heap[k]?) (r:Row) (hr:RowR P F β w' r p) (X:Out w w':=by first|exact⟨rfl,rfl⟩|assumption):MSim P F (up m i (some r)) β w':=by
 have hs:=step_write h hp hb oG J;refine⟨fun j r' hj=>?_,h.inj,fun j q c hq e=>by rw[M];exact h.lt j q c hq e,h.nf,fun c hc=>by rw[M];exact h.fb c hc⟩;by_cases C:j=i
 .subst C;rw[up_same] at hj;cases hj;exact⟨p,hp,hr⟩
 .rw[up_ne _ _ C] at hj;obtain⟨q,hq,ax⟩:=h.row j r' hj;exact⟨q,hq,ax.step hs fun c hc=>J c fun e=>h.free_other hp hb hq C (e▸hc)⟩
theorem MSim.move(h:MSim P F m β w){i nx:Nat}{p p':Pl}{b:Nat}(hp:β i=some p)(hb:p.blk=some b)(M:p'.blk=some b)(hn:β nx=none)(hw:w'.heap.size=w.heap.size)
 (ho:∀ k,k≠b->w'.heap[k]? =w.heap[k]?) (r:Row) (hr:Step β w (up (up β i (some .dead)) nx (some p')) w'->RowR P F (up (up β i (some .dead)) nx (some p')) w' r p') (w8:Out w w':=by first|exact⟨rfl,rfl⟩|assumption):
 MSim P F (up (up m i none) nx (some r)) (up (up β i (some .dead)) nx (some p')) w'/\Step β w (up (up β i (some .dead)) nx (some p')) w':=by
 have bm:i≠nx:=fun e=>by rw[e,hn] at hp;cases hp
 have X:∀ j q,up (up β i (some .dead)) nx (some p') j=some q->(j=nx/\q=p')\/(j=i/\q=.dead)\/(j≠nx/\j≠i/\β j=some q):=fun j q hq=>by
  by_cases hj:j=nx
  .subst hj;rw[up_same] at hq;cases hq;exact .inl ⟨rfl,rfl⟩
  .rw[up_ne _ _ hj] at hq;by_cases C:j=i
   .subst C;rw[up_same] at hq;cases hq;exact .inr (.inl ⟨rfl,rfl⟩)
   .rw[up_ne _ _ C] at hq;exact .inr (.inr ⟨hj,C,hq⟩)
 have hs:Step β w (up (up β i (some .dead)) nx (some p')) w':=by
  refine⟨oG,fun c hc hf=>⟨ho c fun e=>hf i p hp (e▸hb),fun j q hq e=>?_⟩,fun j q hq=>?_,w8⟩
  .rcases X j q hq with⟨rfl,rfl⟩|⟨rfl,rfl⟩|⟨_,_,iN⟩
   .rw[M] at e;cases e;exact hf i p hp hb
   .simp[Pl.blk] at e
   .exact hf j q iN e
  .by_cases C:j=i
   .subst C;exact .inr (by rw[up_ne _ _ bm,up_same])
   .have hj:j≠nx:=fun e=>by rw[e,hn] at hq;cases hq
    exact .inl (by rw[up_ne _ _ hj,up_ne _ _ C];exact hq)
 refine⟨⟨fun j r' hj=>?_,fun j k q q' c hq iN e J=>?_,fun j q c hq e=>?_,fun j q c hq e=>?_,fun c hc=>by rw[hw];exact h.fb c hc⟩,hs⟩
 .by_cases uh:j=nx
  .subst uh;rw[up_same] at hj;cases hj;exact⟨p',up_same _ _ _,hr hs⟩
  .rw[up_ne _ _ uh] at hj;by_cases C:j=i
   .subst C;rw[up_same] at hj;cases hj
   .rw[up_ne _ _ C] at hj;obtain⟨q,hq,ax⟩:=h.row j r' hj;exact⟨q,by rw[up_ne _ _ uh,up_ne _ _ C];exact hq,ax.step hs fun c hc=>ho c fun e=>h.free_other hp hb hq C (e▸hc)⟩
 .rcases X j q hq with⟨rfl,rfl⟩|⟨rfl,rfl⟩|⟨h1,h2,h3⟩<;>rcases X k q' iN with⟨rfl,rfl⟩|⟨rfl,rfl⟩|⟨k1,k2,k3⟩
  .rfl
  .simp[Pl.blk] at J
  .rw[M] at e;cases e;exact absurd J (h.free_other hp hb k3 k2)
  .simp[Pl.blk] at e
  .rfl
  .simp[Pl.blk] at e
  .rw[M] at J;cases J;exact absurd e (h.free_other hp hb h3 h2)
  .simp[Pl.blk] at J
  .exact h.inj j k q q' c h3 k3 e J
 .rw[hw];rcases X j q hq with⟨rfl,rfl⟩|⟨rfl,rfl⟩|⟨_,_,h3⟩
  .rw[M] at e;cases e;exact h.lt i p b hp hb
  .simp[Pl.blk] at e
  .exact h.lt j q c h3 e
 .rcases X j q hq with⟨rfl,rfl⟩|⟨rfl,rfl⟩|⟨_,_,h3⟩
  .rw[M] at e;cases e;exact h.nf i p b hp hb
  .simp[Pl.blk] at e
  .exact h.nf j q c h3 e
end
def toD1:Value->D
 | .bool b=>.s (.bool b)
 | .int k n=>.s (.int k n)
 | .string b=>.s (.string b)
 | .pointer none=>.s (.pointer none)
 | .nilFunc=>.s .nilFunc
 | .nilIface=>.s .nilIface
 | .map none=>.s (.map none)
 | .slice none 0 0=>.z
 |_=>.u
def toD:Value->D
 | .agg cs=>.agg (cs.toList.map toD1)
 | .bool b=>.s (.bool b)
 | .int k n=>.s (.int k n)
 | .string b=>.s (.string b)
 | .pointer none=>.s (.pointer none)
 | .nilFunc=>.s .nilFunc
 | .nilIface=>.s .nilIface
 | .map none=>.s (.map none)
 | .slice none 0 0=>.z
 |_=>.u
abbrev Env:=Nat->D
structure St where
 env:Env
 mem:Mem
 nx:Nat
def St.put(st:St)(d:Option Nat)(v:D):St:=
 match d with
 |some t=>{ st with env:=up st.env t v }
 |none=>st
def opd(env:Env):Operand->D
 | .tmp t=>env t
 | .const v=>toD v
 | .global _=>.u
 | .func f=>.fn (.func f) [] []
def D.core:D->D
 | .opt _ d=>d
 |d=>d
def D.ask:D->Prop
 | .opt c _=>c=true
 |_=>True
section types
variable(P:Program)
def aggP(t:TypeId):Bool:=match P.underlying t with
 |some (.struct _)=>true
 |some (.array _ _)=>true
 |_=>false
def elemP(t:TypeId):TypeId:=match P.underlying t with
 |some (.slice e)=>e
 |some (.pointer e)=>e
 |some (.array _ e)=>e
 |_=>0
def fieldP(t:TypeId)(k:Nat):Option (Nat×TypeId):=match P.underlying t with
 |some (.struct fs)=>(fs[k]?).map fun f=>(f.offset,f.type)
 |_=>none
def zeroP(t:TypeId):List D:=((P.info? t).bind (·.zero)).elim [] fun v=>v.cells.toList.map toD1
def lenP(t:TypeId):Nat:=match P.underlying t with
 |some (.array n _)=>n
 |_=>0
end types
def D.one:D->Bool
 | .u | .opt _ _ | .agg _ | .tup _=>false
 |_=>true
def tyOk(P:Program)(t:TypeId):Bool:=
 (P.underlying t).isSome&&(aggP P t||P.cellsOf t==1)&&match (P.info? t).bind (·.zero) with
  |some v=>v.cells.toList.all (fun c=>(toD1 c).one)&&v.cells.size==P.cellsOf t
  |none=>false
def slT(P:Program)(t:TypeId):Bool:=match P.underlying t with
 |some (.slice e)=>tyOk P e
 |_=>false
def arT(P:Program)(t:TypeId):Bool:=match P.underlying t with
 |some (.array _ e)=>tyOk P e
 |_=>false
def stT(P:Program)(t:TypeId):Bool:=match P.underlying t with
 |some .string=>true
 |_=>false
def D.cells:D->List D
 | .agg cs=>cs
 |d=>[d]
def takeV(P:Program)(t:TypeId)(cs:List D):D:=if aggP P t then .agg (cs.take (P.cellsOf t)) else cs.headD .u
def splice(cs:List D)(off:Nat):List D->List D
 |[x]=>cs.set off x
 |xs=>cs.take off++xs++cs.drop (off+xs.length)
structure Eff where
 pre:Prop
 val:D
 ups:List (Nat×Option Row):=[]
 rd:List Nat:=[]
 new:Nat:=0
def upds(m:Mem):List (Nat×Option Row)->Mem
 |[]=>m
 |(i,r)::us=>upds (up m i r) us
def intBitsV(op:BinOp)(k:IntKind)(x y:Int):Int:=
 let a:=BitVec.ofInt k.bits x
 let b:=BitVec.ofInt k.bits y
 k.wrap (match op with
  | .and=>a&&& b
  | .or=>a||| b
  | .xor=>a ^^^ b
  |_=>a&&& ~~~b).toNat
def binV(op:BinOp)(x y:Value):Option (Prop×Value):=
 match op,x,y with
 | .shl,.int k a,.int _ b=>some (0<=b,.int k (k.wrap (a*2 ^ (min b.toNat k.bits))))
 | .shr,.int k a,.int _ b=>some (0<=b,.int k (a.fdiv (2 ^ (min b.toNat k.bits))))
 | .add,.int k a,.int k' b=>some (k=k',.int k (k.wrap (a+b)))
 | .sub,.int k a,.int k' b=>some (k=k',.int k (k.wrap (a - b)))
 | .mul,.int k a,.int k' b=>some (k=k',.int k (k.wrap (a*b)))
 | .quo,.int k a,.int k' b=>some (k=k'/\b≠0,.int k (k.wrap (a.tdiv b)))
 | .rem,.int k a,.int k' b=>some (k=k'/\b≠0,.int k (a.tmod b))
 | .and,.int k a,.int k' b=>some (k=k',.int k (intBitsV .and k a b))
 | .or,.int k a,.int k' b=>some (k=k',.int k (intBitsV .or k a b))
 | .xor,.int k a,.int k' b=>some (k=k',.int k (intBitsV .xor k a b))
 | .andNot,.int k a,.int k' b=>some (k=k',.int k (intBitsV .andNot k a b))
 | .eql,.int k a,.int k' b=>some (k=k',.bool (a==b))
 | .neq,.int k a,.int k' b=>some (k=k',.bool (a !=b))
 | .lss,.int k a,.int k' b=>some (k=k',.bool (decide (a<b)))
 | .leq,.int k a,.int k' b=>some (k=k',.bool (decide (a<=b)))
 | .gtr,.int k a,.int k' b=>some (k=k',.bool (decide (b<a)))
 | .geq,.int k a,.int k' b=>some (k=k',.bool (decide (b<=a)))
 | .eql,.string a,.string b=>some (True,.bool (a.toList==b.toList))
 | .neq,.string a,.string b=>some (True,.bool !(a.toList==b.toList))
 | .lss,.string a,.string b=>some (True,.bool (Op.bytesLess a.toList b.toList))
 | .geq,.string a,.string b=>some (True,.bool !(Op.bytesLess a.toList b.toList))
 |_,_,_=>none
def kindV:Value->Nat
 | .int _ _=>0
 | .bool _=>1
 | .string _=>2
 |_=>3
def kindT(P:Program)(t:TypeId):Nat:=match P.underlying t with
 |some (.int _)=>0
 |some .bool=>1
 |some .string=>2
 |_=>9
def oneT(P:Program)(t:TypeId):Bool:=kindT P t !=9&&P.cellsOf t==1&&tyOk P t&& !aggP P t
def flatT(P:Program)(t:TypeId):Option (List Nat):=match P.underlying t with
 |some (.array n e)=>if oneT P e&&P.cellsOf t==n then some (List.replicate n (kindT P e)) else none
 |some (.struct fs)=>if(fs.toList.all fun f=>f.name !="_"&&oneT P f.type)&&P.runs 0 fs.toList==some fs.toList.length&& !P.stoodInHeld t then some (fs.toList.map fun f=>kindT P f.type) else none
 |_=>none
def sameK:Value->Value->Bool
 | .int k _,.int k' _=>k==k'
 | .bool _,.bool _=>true
 | .string _,.string _=>true
 |_,_=>false
def zipV:List D->List D->Option (List Value×List Value)
 |[],[]=>some ([],[])
 | .s x::xs,.s y::ys=>if sameK x y then(zipV xs ys).map fun q=>(x::q.1,y::q.2) else none
 |_,_=>none
def veq1:Value->Value->Bool
 | .int k a,.int k' b=>k==k'&&a==b
 | .bool a,.bool b=>a==b
 | .string a,.string b=>a.data.toList==b.data.toList
 |_,_=>false
def veqs:List Value->List Value->Bool
 |[],[]=>true
 |a::aS,b::bs=>veq1 a b&&veqs aS bs
 |_,_=>false
def aggEqD(P:Program)(op:BinOp)(t:TypeId)(xs ys:List D):Option (Prop×D):=
 match op,flatT P t,zipV xs ys with
 | .eql,some ks,some q=>some (q.1.map kindV=ks/\P.eqGuardType P.depth t=false,.s (.bool (veqs q.1 q.2)))
 | .neq,some ks,some q=>some (q.1.map kindV=ks/\P.eqGuardType P.depth t=false,.s (.bool !(veqs q.1 q.2)))
 |_,_,_=>none
def boT(P:Program)(t:TypeId):Bool:=match P.underlying t with
 |some .bool=>true
 |_=>false
def ptT(P:Program)(t:TypeId):Bool:=match P.underlying t with
 |some (.pointer _)=>true
 |_=>false
def binD(P:Program)(op:BinOp)(t:TypeId)(x y:D):Option (Prop×D):=
 match x,y with
 | .s (.bool a),.s (.bool b)=>match op with
  | .eql=>some (boT P t=true,.s (.bool (a==b)))
  | .neq=>some (boT P t=true,.s (.bool !(a==b)))
  |_=>none
 | .s a,.s b=>(binV op a b).map fun r=>(r.1,.s r.2)
 | .agg xs,.agg ys=>aggEqD P op t xs ys
 |_,_=>none
def nilD(P:Program)(m:Mem)(op:BinOp)(t:TypeId)(x:D)(y:Operand):Option Eff:=
 match y,op,x with
 | .const (.slice none 0 0),.eql,.sl _ n=>some { pre:=slT P t=true,val:=if n=0 then .ub else .s (.bool false) }
 | .const (.pointer none),.eql,.rp i _=>match m i with
  |some _=>some { pre:=ptT P t=true,val:=.s (.bool false),rd:=[i] }
  |none=>none
 | .const (.pointer none),.neq,.rp i _=>match m i with
  |some _=>some { pre:=ptT P t=true,val:=.s (.bool true),rd:=[i] }
  |none=>none
 |_,_,_=>none
def unV(op:UnOp)(x:Value):Option Value:=
 match op,x with
 | .neg,.int k n=>some (.int k (k.wrap (0 - n)))
 | .xor,.int k n=>some (.int k (intBitsV .xor k (if k.signed then -1 else k.max) n))
 | .not,.bool b=>some (.bool !b)
 |_,_=>none
def D.bool? :D->Option Bool
 | .s (.bool b)=>some b
 |_=>none
def D.int? :D->Option Int
 | .s (.int _ n)=>some n
 |_=>none
def fillD(place:Nat->Option (Nat×Nat))(cells:List D):List (Nat×D)->Option (List D)
 |[]=>some cells
 |(i,d)::rest=>
  match place i with
  |none=>none
  |some (off,size)=>if d.cells.length=size/\off+size<=cells.length/\d.cells.all D.one=true then fillD place (splice cells off d.cells) rest else none
def replD(n:Nat)(z:List D):List D:=(List.replicate n z).flatten
def lenD(P:Program)(m:Mem)(t:TypeId):D->Option Eff
 | .sl _ n=>some { pre:=slT P t=true,val:=.s (.int .i64 n) }
 | .rs i _ n=>match m i with
  |some _=>some { pre:=slT P t=true,val:=.s (.int .i64 n),rd:=[i] }
  |none=>none
 | .z=>some { pre:=slT P t=true,val:=.s (.int .i64 0) }
 | .s (.string b)=>some { pre:=stT P t=true,val:=.s (.int .i64 b.size) }
 | .agg _=>some { pre:=arT P t=true,val:=.s (.int .i64 (lenP P t)) }
 |_=>none
def sliceCells(m:Mem)(sz:Nat):D->Option (Prop×List Nat×Nat×List D)
 | .sl es n=>some (n*sz<=es.length,[],n,es.take (n*sz))
 | .z=>some (True,[],0,[])
 | .rs i off n=>match m i with
  |some (.cells cs _)=>some (off+n*sz<=cs.length,[i],n,(cs.drop off).take (n*sz))
  |_=>none
 |_=>none
def appendD(P:Program)(m:Mem)(nx:Nat)(t:TypeId)(s x:D):Option Eff:=
 let e:=elemP P t
 let sz:=P.cellsOf e
 match sliceCells m sz x with
 |none=>none
 |some (p,rd,k,news)=>
  match s with
  | .z=>some { pre:=slT P t=true/\p/\0<sz/\k<=maxLen/\k*P.bytesOf e<=140737488355328,val:=.rs nx 0 k,ups:=[(nx,some (.cells news e))],rd:=rd,new:=1 }
  | .rs i off n=>match m i with
   |some (.cells cs e')=>some { pre:=slT P t=true/\e'=e/\p/\0<sz/\off+n*sz=cs.length/\n+k<=maxLen/\(n+k)*P.bytesOf e<=140737488355328/\i∉rd,val:=.rs nx 0 (n+k),ups:=[(i,none),(nx,some (.cells (cs.drop off++news) e))],rd:=i::rd,new:=1 }
   |_=>none
  |_=>none
def veq:Value->Value->Bool
 | .agg a,.agg b=>veqs a.toList b.toList
 |a,b=>veq1 a b
def valsV:List D->Option (List Value)
 |[]=>some []
 | .s v::ds=>(valsV ds).map (v::·)
 |_=>none
def keyV:D->Option Value
 | .s v=>some v
 | .agg cs=>(valsV cs).map fun vs=>.agg vs.toArray
 |_=>none
def lookD(k:Value):List (Value×D)->Option (Nat×D)
 |[]=>none
 |(k',d)::es=>if veq k' k then some (0,d) else(lookD k es).map fun x=>(x.1+1,x.2)
def putD(k:Value)(d:D)(es:List (Value×D)):List (Value×D):=match lookD k es with
 |some (i,_)=>es.set i (k,d)
 |none=>es++[(k,d)]
def delD(k:Value)(es:List (Value×D)):List (Value×D):=match lookD k es with
 |some (i,_)=>es.eraseIdx i
 |none=>es
def mkeyP(P:Program)(t:TypeId):TypeId:=match P.underlying t with
 |some (.map k _)=>k
 |_=>0
def melP(P:Program)(t:TypeId):TypeId:=match P.underlying t with
 |some (.map _ e)=>e
 |_=>0
def keyP(P:Program)(kt:TypeId)(v:Value):Bool:=match P.underlying kt with
 |some (.int k)=>(match v with | .int k' _=>k'==k|_=>false)
 |some .bool=>(match v with | .bool _=>true|_=>false)
 |some .string=>(match v with | .string _=>true|_=>false)
 |some (.array _ _)=>(keyOf P kt v).isSome
 |some (.struct _)=>(keyOf P kt v).isSome
 |_=>false
def zOk(P:Program)(t:TypeId):Bool:=match (P.info? t).bind (·.zero) with
 |some (.agg _)=>aggP P t
 |some _=> !aggP P t
 |none=>false
def mapT(P:Program)(t:TypeId):Bool:=match P.underlying t with
 |some (.map kt et)=>(tyOk P et&&zOk P et)&&match P.underlying kt with
  |some (.int _)=>true
  |some .bool=>true
  |some .string=>true
  |some (.array _ _)=>P.keyTypeAt 9 kt&&P.tiled 9 kt
  |some (.struct _)=>P.keyTypeAt 9 kt&&P.tiled 9 kt
  |_=>false
 |_=>false
def zeroD(P:Program)(t:TypeId):D:=if aggP P t then .agg (zeroP P t) else(zeroP P t).headD .u
def gotD(P:Program)(t:TypeId)(ok:Bool):Option (Nat×D)->D
 |some (_,d)=>if ok then .tup [d,.s (.bool true)] else d
 |none=>if ok then .tup [zeroD P (melP P t),.s (.bool false)] else zeroD P (melP P t)
def lookupD(P:Program)(m:Mem)(t:TypeId)(x k:D)(ok:Bool):Option Eff:=match keyV k,x with
 |some key,.mp i=>match m i with
  |some (.map es)=>some { pre:=mapT P t=true/\keyP P (mkeyP P t) key=true/\es.all (fun e=>keyP P (mkeyP P t) e.1)=true,val:=gotD P t ok (lookD key es),rd:=[i] }
  |_=>none
 |some key,.im es=>some { pre:=mapT P t=true/\keyP P (mkeyP P t) key=true/\es.all (fun e=>keyP P (mkeyP P t) e.1)=true,val:=gotD P t ok (lookD key es) }
 |some key,.s (.map none)=>some { pre:=mapT P t=true/\keyP P (mkeyP P t) key=true,val:=gotD P t ok none }
 |_,_=>none
def mapPutD(P:Program)(m:Mem)(t:TypeId)(x k v:D):Option Eff:=match keyV k,x with
 |some key,.mp i=>match m i with
  |some (.map es)=>some { pre:=mapT P t=true/\keyP P (mkeyP P t) key=true/\es.all (fun e=>keyP P (mkeyP P t) e.1)=true,val:=.tup [],ups:=[(i,some (.map (putD key v es)))],rd:=[i] }
  |_=>none
 |_,_=>none
def mapDelD(P:Program)(m:Mem)(t:TypeId)(x k:D):Option Eff:=match keyV k,x with
 |some key,.mp i=>match m i with
  |some (.map es)=>some { pre:=mapT P t=true/\keyP P (mkeyP P t) key=true/\es.all (fun e=>keyP P (mkeyP P t) e.1)=true,val:=.tup [],ups:=[(i,some (.map (delD key es)))],rd:=[i] }
  |_=>none
 |_,_=>none
def builtinD(P:Program)(m:Mem)(nx:Nat)(b:Builtin)(ts:Array TypeId)(args:List D):Option Eff:=
 match b,args with
 | .len,[x]=>lenD P m (ts.getD 0 0) x
 | .append,[s,x]=>if ts.getD 0 0=ts.getD 1 0 then appendD P m nx (ts.getD 0 0) s x else none
 | .min,[.s (.int k a),.s (.int k' b)]=>some { pre:=k=k',val:=.s (.int k (if b<a then b else a)) }
 | .clear,[.rs i off n]=>match m i with
  |some (.cells cs e)=>some { pre:=slT P (ts.getD 0 0)=true/\off+n*P.cellsOf e<=cs.length/\e=elemP P (ts.getD 0 0),val:=.tup [],ups:=[(i,some (.cells (splice cs off (replD n (zeroP P e))) e))],rd:=[i] }
  |_=>none
 | .delete,[x,k]=>mapDelD P m (ts.getD 0 0) x k
 |_,_=>none
def bndD(d:Option D)(C:Int):Option Int:=match d with
 |none=>some C
 |some d=>d.int?
def sliceD(P:Program)(m:Mem)(t:TypeId)(x:D)(lo hi C:Option D):Option Eff:=
 match x with
 | .sl es n=>match bndD lo 0,bndD hi n,C with
  |some l,some h,none=>some { pre:=slT P t=true/\0<=l/\l<=h/\h<=n,val:=.sl ((es.drop (l.toNat*P.cellsOf (elemP P t))).take ((h - l).toNat*P.cellsOf (elemP P t))) (h - l).toNat }
  |some l,some h,some d=>match d.int? with
   |some k=>some { pre:=slT P t=true/\hi.isSome=true/\0<=l/\l<=h/\h<=k/\k<=n,val:=.sl ((es.drop (l.toNat*P.cellsOf (elemP P t))).take ((h - l).toNat*P.cellsOf (elemP P t))) (h - l).toNat }
   |none=>none
  |_,_,_=>none
 | .rs i off n=>match m i with
  |some (.cells _ e)=>match bndD lo 0,bndD hi n,C with
   |some l,some h,none=>some { pre:=(slT P t=true/\P.cellsOf e=P.cellsOf (elemP P t))/\0<=l/\l<=h/\h<=n,val:=.rs i (off+l.toNat*P.cellsOf (elemP P t)) (h - l).toNat,rd:=[i] }
   |_,_,_=>none
  |_=>none
 | .s (.string b)=>match bndD lo 0,bndD hi b.size,C with
  |some l,some h,none=>some { pre:=stT P t=true/\0<=l/\l<=h/\h<=b.size,val:=.s (.string (b.extract l.toNat h.toNat)) }
  |_,_,_=>none
 |_=>none
def aop(P:Program)(o:Op)(ρ:Operand->D)(m:Mem)(nx:Nat):Option Eff:=
 match o with
 | .move x=>some { pre:=True,val:=ρ x }
 | .assign x=>some { pre:=True,val:=ρ x }
 | .pick c a b=>match (ρ c).core.bool? with
  |some t=>some { pre:=(t=true->(ρ a).ask/\(ρ a).core.bool?.isSome=true)/\(t=false->(ρ b).ask/\(ρ b).core.bool?.isSome=true),val:=.s (.bool (if t then(ρ a).core.bool?.getD false else(ρ b).core.bool?.getD false)) }
  |none=>none
 | .alloc t=>some { pre:=tyOk P t=true,val:=.rp nx 0,ups:=[(nx,some (.cells (zeroP P t) t))],new:=1 }
 | .box t x=>some { pre:=(ρ x).cells.all D.one=true,val:=.rp nx 0,ups:=[(nx,some (.cells (ρ x).cells t))],new:=1 }
 | .build t ps=>match P.underlying t with
  |some (.struct fs)=>(fillD (fun i=>(fs[i]?).map fun f=>(f.offset,P.cellsOf f.type)) (zeroP P t) (ps.toList.map fun q=>(q.1,ρ q.2))).map fun cs=>{ pre:=tyOk P t=true/\fs.toList.all (fun f=>(P.info? f.type).isSome)=true,val:=.agg cs }
  |some (.array _ e)=>(fillD (fun i=>some (i*P.cellsOf e,P.cellsOf e)) (zeroP P t) (ps.toList.map fun q=>(q.1,ρ q.2))).map fun cs=>{ pre:=tyOk P t=true/\tyOk P e=true,val:=.agg cs }
  |_=>none
 | .buildSlice t n ps=>(fillD (fun i=>some (i*P.cellsOf (elemP P t),P.cellsOf (elemP P t))) (replD n (zeroP P (elemP P t))) (ps.toList.map fun q=>(q.1,ρ q.2))).map fun cs=>
   { pre:=cs.all D.one=true/\n*P.cellsOf (elemP P t)<=2 ^ 24/\slT P t=true/\n<=maxLen,val:=.rs nx 0 n,ups:=[(nx,some (.cells cs (elemP P t)))],new:=1 }
 | .load t a=>match ρ a with
  | .pt cs=>some { pre:=tyOk P t=true/\P.cellsOf t<=cs.length,val:=takeV P t cs }
  | .rp i off=>match m i with
   |some (.cells cs _)=>some { pre:=tyOk P t=true/\off+P.cellsOf t<=cs.length,val:=takeV P t (cs.drop off),rd:=[i] }
   |_=>none
  |_=>none
 | .store t a x=>match ρ a with
  | .rp i off=>match m i with
   |some (.cells cs e)=>some { pre:=tyOk P t=true/\(ρ x).cells.length=P.cellsOf t/\off+P.cellsOf t<=cs.length/\(ρ x).cells.all D.one=true,val:=.tup [],ups:=[(i,some (.cells (splice cs off (ρ x).cells) e))],rd:=[i] }
   |_=>none
  |_=>none
 | .nilCheck x=>match ρ x with
  | .pt cs=>some { pre:=True,val:=.pt cs }
  | .rp i off=>match m i with
   |some _=>some { pre:=True,val:=.rp i off,rd:=[i] }
   |none=>none
  |_=>none
 | .binOp op t x y _=>match nilD P m op t (ρ x) y with
  |some e=>some e
  |none=>(binD P op t (ρ x) (ρ y)).map fun r=>{ pre:=r.1,val:=r.2 }
 | .unOp op _ x=>match ρ x with
  | .s v=>(unV op v).map fun r=>{ pre:=True,val:=.s r }
  |_=>none
 | .convert src dst x=>match P.underlying dst,ρ x with
  |some (.int k),.s (.int _ n)=>some { pre:=tyOk P src=true,val:=.s (.int k (k.wrap n)) }
  |some (.slice e),.s (.string b)=>match P.underlying e with
   |some (.int .u8)=>some { pre:=stT P src=true/\b.size<=maxLen,val:=.sl (b.data.toList.map fun c=>.s (.int .u8 c.toNat)) b.size }
   |_=>none
  |_,_=>none
 | .makeFunc f fs cs=>some { pre:=True,val:=.fn f (fs.toList.map ρ) (cs.toList.map ρ) }
 | .makeMap _ r=>match r with
  |none=>some { pre:=True,val:=.mp nx,ups:=[(nx,some (.map []))],new:=1 }
  |some _=>none
 | .makeSlice t l c=>match ρ l,ρ c with
  | .s (.int .i64 n),.s (.int .i64 k)=>some { pre:=0<=n/\n=k/\n<=9223372036854775807/\P.bytesOf (elemP P t)*n<=281474976710656/\slT P t=true,val:=.rs nx 0 n.toNat,ups:=[(nx,some (.cells (replD n.toNat (zeroP P (elemP P t))) (elemP P t)))],new:=1 }
  |_,_=>none
 | .lookup t x k ok=>lookupD P m t (ρ x) (ρ k) ok
 | .mapUpdate t x k v=>mapPutD P m t (ρ x) (ρ k) (ρ v)
 | .insert t x k v=>mapPutD P m t (ρ x) (ρ k) (ρ v)
 | .slice t x lo hi C=>sliceD P m t (ρ x) (lo.map ρ) (hi.map ρ) (C.map ρ)
 | .fieldAddr t x k=>match fieldP P t k,ρ x with
  |some (off,ft),.pt cs=>some { pre:=0<P.cellsOf ft,val:=.pt (cs.drop off) }
  |some (off,ft),.rp i o=>match m i with
   |some _=>some { pre:=0<P.cellsOf ft,val:=.rp i (o+off),rd:=[i] }
   |none=>none
  |_,_=>none
 | .field t x k=>match fieldP P t k,ρ x with
  |some (off,ft),.agg cs=>some { pre:=tyOk P ft=true/\off+P.cellsOf ft<=cs.length,val:=takeV P ft (cs.drop off) }
  |_,_=>none
 | .indexAddr t x i=>match ρ x,ρ i with
  | .sl es n,.s (.int _ k)=>some { pre:=slT P t=true/\0<=k/\k<n/\(k.toNat+1)*P.cellsOf (elemP P t)<=es.length,val:=.pt (es.drop (k.toNat*P.cellsOf (elemP P t))) }
  | .rs j off n,.s (.int _ k)=>match m j with
   |some _=>some { pre:=slT P t=true/\0<=k/\k<n,val:=.rp j (off+k.toNat*P.cellsOf (elemP P t)),rd:=[j] }
   |none=>none
  | .rp j off,.s (.int _ k)=>match m j with
   |some _=>some { pre:=arT P t=true/\0<=k/\k<lenP P t,val:=.rp j (off+k.toNat*P.cellsOf (elemP P t)),rd:=[j] }
   |none=>none
  |_,_=>none
 | .index t x i=>match ρ x,ρ i with
  | .s (.string b),.s (.int _ k)=>some { pre:=stT P t=true/\0<=k/\k<b.size,val:=.s (.int .u8 (b.data.toList.getD k.toNat 0).toNat) }
  | .agg cs,.s (.int _ k)=>some { pre:=arT P t=true/\0<=k/\k<lenP P t/\(k.toNat+1)*P.cellsOf (elemP P t)<=cs.length,val:=takeV P (elemP P t) (cs.drop (k.toNat*P.cellsOf (elemP P t))) }
  |_,_=>none
 | .extract x k=>match ρ x with
  | .tup cs=>some { pre:=k<cs.length,val:=cs.getD k .u }
  |_=>none
 | .call c=>match c.callee with
  | .builtin b=>if c.argTypes.size=c.args.size then builtinD P m nx b c.argTypes (c.args.toList.map ρ) else none
  |_=>none
 |_=>none
def callD(ρ:Operand->D):Op->Option (FuncId×List D)
 | .call c=>match c.callee with
  | .value f=>match ρ f with
   | .fn (.func k) fs cs=>some (k,fs++c.args.toList.map ρ++cs)
   |_=>none
  |_=>none
 |_=>none
def Rs(F:Nat->Prop)(β:Pla)(w:World)(ds:List D)(vs:Array Value):Prop:=
 vs.size=ds.length/\∀ (k:Nat) (d:D) (v:Value),ds[k]? =some d->vs[k]? =some v->R F β w d v
def noRows:Pla:=fun _=>none
def owned(F:Nat->Prop)(β:Pla):Nat->Prop:=fun b=>F b\/¬ β.free b
def Tr(d:D):Prop:=∀ F β w v,R F β w d v->R (owned F β) noRows w d v
def D.scal:D->Bool
 | .s _=>true
 | .ub=>true
 | .tup [.s _,.s _]=>true
 | .tup [.s _]=>true
 | .tup []=>true
 |_=>false
def Kept(w w':World):Prop:=w.heap.size<=w'.heap.size/\(∀ b,b<w.heap.size->w'.heap[b]? =w.heap[b]?)/\Out w w'
def enterOk(P:Program)(f:FuncId):Bool:=match P.funcs[f]? with
 |some fn=> !(fn.name=="runtime.NumGoroutine")&&fn.body.isSome
 |none=>false
def PCall(P:Program)(f:FuncId)(args:List D)(r:D):Prop:=
 enterOk P f=true/\(∀ a∈args,Tr a)/\∀ F w vs,(∀ b,F b->b<w.heap.size)->Rs F noRows w args vs->
  Calls P f vs w fun e w'=>∃ v,e=.returned v/\R F noRows w' r v/\Kept w w'
def OCall(P:Program)(f:FuncId)(args:List D)(es:List D)(n:Nat)(t:TypeId):Prop:=
 enterOk P f=true/\(∀ a∈args,Tr a)/\∀ F w vs,(∀ b,F b->b<w.heap.size)->Rs F noRows w args vs->
  Calls P f vs w fun e w'=>∃ v p,e=.returned v/\p≠ .dead/\(∀ b,p.blk=some b->w.heap.size<=b/\b<w'.heap.size)/\
   RowR P (fun x=>F x\/p.blk=some x) noRows w' (.cells es t) p/\R F (up noRows 0 (some p)) w' (.rs 0 0 n) v/\Kept w w'
def ACalls(P:Program)(f:FuncId)(args:List D)(m:Mem)(nx:Nat)(cN:D->Mem->Nat->Prop):Prop:=
 enterOk P f=true/\∀ F β w vs,MSim P F m β w->(∀ i,nx<=i->β i=none)->Rs F β w args vs->
  Calls P f vs w fun e w'=>∃ v d m' nx' β',e=.returned v/\cN d m' nx'/\MSim P F m' β' w'/\(∀ i,nx'<=i->β' i=none)/\R F β' w' d v/\Step β w β' w'/\nx<=nx'/\∀ i,i<nx->β i=none->β' i=none
def YCall(P:Program)(F:Nat->Prop)(J:Pla)(C:World)(l:Nat)(args:List D)(m:Mem)(nx:Nat)(cN:D->Mem->Nat->Prop):Prop:=
 ∀ β w us,Step J C β w->MSim P F m β w->(∀ i,nx<=i->β i=none)->Rs F β w args us->
  ∃ f tmps assign body,(Instr.yield l us).run P w=.ok (.round l f tmps assign body) w/\∀ n,RoundIn Fence.wide n P l f tmps assign body w fun e w'=>
   ∃ v d m' nx' β',e=.returned v/\cN d m' nx'/\MSim P F m' β' w'/\(∀ i,nx'<=i->β' i=none)/\R F β' w' d v/\Step β w β' w'/\nx<=nx'/\∀ i,i<nx->β i=none->β' i=none
def Closed(I:Mem->Nat->Prop):Prop:=∀ m nx m' nx',I m nx->nx<=nx'->(∀ i,i<nx->m' i=m i)->I m' nx'
def SeqPost(I:Nat->Mem->Nat->Prop)(Stop:Mem->Nat->Prop)(k:Nat)(d:D)(m:Mem)(nx:Nat):Prop:=
 (d=.s (.bool true)/\I (k+1) m nx)\/(d=.s (.bool false)/\Stop m nx)
def SeqA(P:Program)(f:FuncId)(fs cs:List D)(xs:List (List D)):Prop:=
 enterOk P f=true/\∀ (F:Nat->Prop) (l:Nat) (I:Nat->Mem->Nat->Prop) (Stop:Mem->Nat->Prop) (m:Mem) (nx:Nat) (β:Pla) (w:World) (vs:Array Value),(∀ k,Closed (I k))->Closed Stop->
  MSim P F m β w->(∀ i,nx<=i->β i=none)->Rs F β w (fs++[.fn (.yield l) [] []]++cs) vs->
  (∀ k x m nx,xs[k]? =some x->I k m nx->YCall P F β w l x m nx (SeqPost I Stop k))->I 0 m nx->
  Calls P f vs w fun e w'=>∃ v d m' nx' β',e=.returned v/\(I xs.length m' nx'\/Stop m' nx')/\MSim P F m' β' w'/\(∀ i,nx'<=i->β' i=none)/\R F β' w' d v/\Step β w β' w'/\nx<=nx'/\∀ i,i<nx->β i=none->β' i=none
abbrev YSpec:=Nat->List D->Mem->Nat->(D->Mem->Nat->Prop)->Prop
def noY:YSpec:=fun _ _ _ _ _=>False
def yieldD(ρ:Operand->D):Op->Option (Nat×List D)
 | .call c=>match c.callee with
  | .value f=>match ρ f with
   | .fn (.yield l) [] []=>some (l,c.args.toList.map ρ)
   |_=>none
  |_=>none
 |_=>none
def Sn(P:Program)(rds:List Nat)(m:Mem)(a a':D):Prop:=
 ∀ F β w v,(∀ i∈rds,∀ r,m i=some r->∃ p,β i=some p/\RowR P F β w r p/\∀ b,p.blk=some b->¬ F b)->R F β w a v->R F noRows w a' v
def Sns(P:Program)(rds:List Nat)(m:Mem):List D->List D->Prop
 |[],[]=>True
 |a::aS,b::bs=>Sn P rds m a b/\Sns P rds m aS bs
 |_,_=>False
def ScalRow(r:Row):Prop:=∃ cs e,r=.cells cs e/\∀ d∈cs,d.scal=true
def FrameOk(m:Mem)(rds:List Nat)(ups:List (Nat×Option Row))(args:List D):Prop:=
 (∀ i∈rds,∃ r,m i=some r/\ScalRow r)/\(∀ x∈ups,x.1∈rds/\∀ r,x.2=some r->ScalRow r)/\∀ a∈args,Tr a\/∃ i off n,i∈rds/\a=.rs i off n
def only(rds:List Nat)(m:Mem):Mem:=fun i=>if i∈rds then m i else none
def CallOp(P:Program)(dr:Bool)(st:St)(f:FuncId)(args:List D)(K:D->Mem->Nat->List Nat->List Nat->Prop):Prop:=
 (∃ r,PCall P f args r/\K r st.mem st.nx [] [])\/
 (∃ args' rds r,Sns P rds st.mem args args'/\PCall P f args' r/\r.scal=true/\K r st.mem st.nx rds [])\/
 (∃ es n t,OCall P f args es n t/\K (.rs st.nx 0 n) (up st.mem st.nx (some (.cells es t))) (st.nx+1) [] [st.nx])\/
 (dr=false/\ACalls P f args st.mem st.nx fun r m nx=>K r m nx [] [])\/
 (∃ r ups rds,(∀ C cI,(∀ i∈rds,st.mem i≠none->C i=st.mem i)->ACalls P f args C cI fun r' m' nx'=>r'=r/\m'=upds C ups/\nx'=cI)/\(∀ i∈ups.map (·.1),i∈rds/\st.mem i≠none)/\K r (upds st.mem ups) st.nx rds (ups.map (·.1)))\/
 (∃ es n t ups rds,FrameOk st.mem rds ups args/\(∀ d∈es,d.scal=true)/\(∀ cI,ACalls P f args (only rds st.mem) cI fun r' m' _=>∃ q,cI<=q/\r'=.rs q 0 n/\m' q=some (.cells es t)/\∀ i∈rds,m' i=upds st.mem ups i)/\
  K (.rs st.nx 0 n) (up (upds st.mem ups) st.nx (some (.cells es t))) (st.nx+1) rds (ups.map (·.1)++[st.nx]))
def asks(env:Env)(o:Op):Prop:=match o with
 | .pick c _ _=>(opd env c).ask
 |o=>∀ x∈o.operands.toList,(opd env x).ask
def rho(env:Env)(o:Op):Operand->D:=match o with
 | .pick _ _ _=>opd env
 |_=>fun x=>(opd env x).core
def guardC:D->Bool->Option Bool
 | .s (.bool g),b=>some (g==b)
 | .opt c d,b=>match d with
  | .s (.bool g)=>some (c&&(g==b))
  |_=>bif c then none else some false
 |_,_=>none
abbrev Tra:=List (List Nat×List Nat)
def apartT(tr:Tra)(i j:Nat):Prop:=
 let a:=tr.getD i ([],[])
 let b:=tr.getD j ([],[])
 (∀ x∈a.2,x∉b.1/\x∉b.2)/\∀ x∈b.2,x∉a.1
def skipD:D:=.opt false .u
def AOp(P:Program)(Y:YSpec)(ops:Array Oper)(dr:Bool)(o:Oper)(st:St)(K:St->List Nat->List Nat->Prop):Prop:=
 match o.guard with
  |none=>asks st.env o.op/\match callD (rho st.env o.op) o.op with
   |some (f,args)=>CallOp P dr st f args fun r m nx rd wr=>K (St.put ⟨st.env,m,nx⟩ o.dst r) rd wr
   |none=>match yieldD (rho st.env o.op) o.op with
    |some (l,args)=>dr=false/\Y l args st.mem st.nx fun r m nx=>K (St.put ⟨st.env,m,nx⟩ o.dst r) [] []
    |none=>match aop P o.op (rho st.env o.op) st.mem st.nx with
     |some e=>e.pre/\K (St.put ⟨st.env,upds st.mem e.ups,st.nx+e.new⟩ o.dst e.val) e.rd (e.ups.map (·.1))
     |none=>False
  |some (j,b)=>match ((ops[j]?).bind (·.dst)).bind fun t=>guardC (st.env t) b with
   |none=>False
   |some c=>match callD (rho st.env o.op) o.op with
    |some (f,args)=>
     (∃ r,(c=true->asks st.env o.op/\PCall P f args r)/\K (st.put o.dst (.opt c r)) [] [])\/
     ((c=true->asks st.env o.op/\CallOp P dr st f args fun r m nx rd wr=>K (St.put ⟨st.env,m,nx⟩ o.dst r) rd wr)/\
      (c=false->K (st.put o.dst skipD) [] []))
    |none=>match yieldD (rho st.env o.op) o.op with
     |some (l,args)=>(c=true->asks st.env o.op/\dr=false/\Y l args st.mem st.nx fun r m nx=>K (St.put ⟨st.env,m,nx⟩ o.dst r) [] [])/\(c=false->K (st.put o.dst skipD) [] [])
     |none=>match aop P o.op (rho st.env o.op) st.mem st.nx with
      |some e=>if e.ups.isEmpty&&e.new==0 then(c=true->asks st.env o.op/\e.pre)/\K (st.put o.dst (.opt c e.val)) e.rd []
       else(c=true->asks st.env o.op/\e.pre/\K (St.put ⟨st.env,upds st.mem e.ups,st.nx+e.new⟩ o.dst e.val) e.rd (e.ups.map (·.1)))/\
        (c=false->K (st.put o.dst skipD) [] [])
      |none=>c=false/\K (st.put o.dst skipD) [] []
def AOps(P:Program)(Y:YSpec)(ops:Array Oper)(dr:Bool)(cf:List (Nat×Nat))(Q:Exit->St->Prop):List Oper->St->Tra->Prop
 |[],st,tr=>(∀ q∈cf,apartT tr q.1 q.2)/\Q .normal st
 |o::rest,st,tr=>AOp P Y ops dr o st fun st' rd wr=>AOps P Y ops dr cf Q rest st' (tr++[(rd,wr)])
def kindO:Op->Nat
 | .call { callee:=.builtin .len,.. }=>1
 | .call { callee:=.builtin .min,.. }=>0
 | .store .. | .mapUpdate .. | .insert .. | .call _=>2
 | .load .. | .lookup .. | .fieldAddr .. | .indexAddr .. | .slice .. | .nilCheck _=>1
 | .alloc _ | .box .. | .buildSlice .. | .makeSlice .. | .makeMap .. =>3
 | .binOp .eql .. | .binOp .neq .. =>1
 | .move _ | .assign _ | .pick .. | .build .. | .binOp .. | .unOp .. | .makeFunc .. | .field .. | .index .. | .extract .. | .convert .. =>0
 |_=>2
def befOf(C:List Nat)(o:Oper):Nat:=o.after.toList.foldl (fun s e=>if Region.binds .any e then s||| 2 ^ e.on||| C.getD e.on 0 else s) 0
def befs:List Oper->List Nat->List Nat
 |[],acc=>acc
 |o::r,acc=>befs r (acc++[befOf acc o])
def unordered(bs:List Nat)(n:Nat):List (Nat×Nat):=
 (List.range n).flatMap fun j=>((List.range j).filter fun i=> !(bs.getD j 0).testBit i).map fun i=>(i,j)
def tmpsApart(ops:Array Oper)(i j:Nat):Bool:=match ops[i]?,ops[j]? with
 |some x,some y=>x.apart ops y
 |_,_=>true
def mayMeet(ops:Array Oper)(i j:Nat):Bool:=match ops[i]?,ops[j]? with
 |some x,some y=>(kindO y.op==1||kindO y.op==2)&&kindO x.op !=0&& !(kindO x.op==1&&kindO y.op==1)
 |_,_=>false
def drawInfo(ops:Array Oper):Option (List (Nat×Nat)):=
 let u:=unordered (befs ops.toList []) ops.size
 if(ops.toList.zipIdx.all fun(o,i)=>o.after.toList.all fun e=> !Region.binds .any e||Nat.blt e.on i)&&u.all fun q=>tmpsApart ops q.1 q.2 then
  some (u.filter fun q=>mayMeet ops q.1 q.2)
 else none
def seqQ(K:St->Prop)(Q:Exit->St->Prop):Exit->St->Prop
 | .normal,st=>K st
 |e,st=>Q e st
def blockQ(id:Nat)(Q:Exit->St->Prop):Exit->St->Prop
 | .exit i,st=>if i=id then Q .normal st else Q (.exit i) st
 |e,st=>Q e st
def scopeQ(Q:Exit->St->Prop):Exit->St->Prop
 | .goto _,_=>False
 |e,st=>Q e st
def fz0(i:Nat)(cs:List D)(sz:Nat):D->D
 | .rs j off n=>if j=i then .sl ((cs.drop off).take (n*sz)) n else .rs j off n
 | .rp j off=>if j=i then .pt (cs.drop off) else .rp j off
 |d=>d
def fm0(i:Nat)(es:List (Value×D)):D->D
 | .mp j=>if j=i then .im es else .mp j
 |d=>d
def sub1(σ:D->D):D->D
 | .agg ds=>.agg (ds.map σ)
 | .opt c d=>.opt c (σ d)
 |d=>σ d
def sub(σ:D->D):D->D
 | .tup ds=>.tup (ds.map (sub1 σ))
 | .fn f fs ds=>.fn f (fs.map (sub1 σ)) (ds.map (sub1 σ))
 |d=>sub1 σ d
def Row.sub(σ:D->D):Row->Row
 | .cells ds e=>.cells (ds.map (Abs.sub σ)) e
 | .map es=>.map (es.map fun x=>(x.1,Abs.sub σ x.2))
 |r=>r
def Wk(d d':D):Prop:=∀ F β w v,R F β w d v->R F β w d' v
inductive Ghost(P:Program):St->St->Prop
 |refl (st:St):Ghost P st st
 |trans {a b c:St} (h:Ghost P a b) (k:Ghost P b c):Ghost P a c
 |forget (env env':Env) (m:Mem) (nx:Nat) (h:∀ t,env' t=env t\/env' t=.u):Ghost P ⟨env,m,nx⟩ ⟨env',m,nx⟩
 |drop (env:Env) (m m':Mem) (nx:Nat) (h:∀ i,m' i=m i\/m' i=none):Ghost P ⟨env,m,nx⟩ ⟨env,m',nx⟩
 |freeze (env:Env) (m:Mem) (nx i:Nat) (cs:List D) (e:TypeId) (h:m i=some (.cells cs e)):
  Ghost P ⟨env,m,nx⟩ ⟨fun t=>sub (fz0 i cs (P.cellsOf e)) (env t),fun j=>if j=i then none else(m j).map (Row.sub (fz0 i cs (P.cellsOf e))),nx⟩
 |freezeM (env:Env) (m:Mem) (nx i:Nat) (es:List (Value×D)) (h:m i=some (.map es)):
  Ghost P ⟨env,m,nx⟩ ⟨fun t=>sub (fm0 i es) (env t),fun j=>if j=i then none else(m j).map (Row.sub (fm0 i es)),nx⟩
 |nilrow (env:Env) (m:Mem) (nx t:Nat) (e:TypeId) (h:env t=.z):Ghost P ⟨env,m,nx⟩ ⟨up env t (.rs nx 0 0),up m nx (some (.cells [] e)),nx+1⟩
 |weak (env env':Env) (m m':Mem) (nx:Nat) (h:∀ t,Wk (env t) (env' t)) (hm:∀ i,m' i=m i\/∃ cs cs' e,m i=some (.cells cs e)/\m' i=some (.cells cs' e)/\cs'.length=cs.length/\∀ (k:Nat) (d d':D),cs[k]? =some d->cs'[k]? =some d'->Wk d d'):
  Ghost P ⟨env,m,nx⟩ ⟨env',m',nx⟩
def setAll(env:Env):List Tmp->List D->Env
 |t::ts,d::ds=>setAll (up env t d) ts ds
 |_,_=>env
def assignQ(K:St->Prop):Exit->St->Prop
 | .normal,st=>K st
 |_,_=>False
def roundQ(env:Env)(C:Mem->Nat->Prop)(Q:Exit->St->Prop):Exit->St->Prop
 | .normal,st=>C st.mem st.nx
 | .ret,st=>Q .ret ⟨env,st.mem,st.nx⟩
 | .exit id,st=>Q (.exit id) ⟨env,st.mem,st.nx⟩
 |_,_=>False
def AW(P:Program)(Y:YSpec)(rf:Bool):Code->(Exit->St->Prop)->St->Prop
 | .skip,Q,st=>Q .normal st
 | .region _ ops false,Q,st=>AOps P Y ops false [] Q ops.toList st []
 | .region _ ops true,Q,st=>match drawInfo ops with
  |some cf=>AOps P Y ops true cf Q ops.toList st []
  |none=>False
 | .seq a b,Q,st=>AW P Y rf a (seqQ (fun st'=>∃ C,Ghost P st' C/\AW P Y rf b Q C) Q) st
 | .cond c a b,Q,st=>(opd st.env c).ask/\match (opd st.env c).core with
  | .s (.bool t)=>(t=true->AW P Y rf a Q st)/\(t=false->AW P Y rf b Q st)
  | .ub=>AW P Y rf a Q st/\AW P Y rf b Q st
  |_=>False
 | .block id b,Q,st=>AW P Y rf b (blockQ id Q) st
 | .scope b,Q,st=>AW P Y rf b (scopeQ Q) st
 | .loop b,Q,st=>∃ (I:St->Prop) (μ:St->Nat),I st/\∀ st',I st'->AW P Y rf b (seqQ (fun C=>∃ J,Ghost P C J/\I J/\μ J<μ st') Q) st'
 | .rangeFunc g ps assign body,Q,st=>rf=true/\(opd st.env g).ask/\∃ f fs cs xs,∃ I:Nat->Mem->Nat->Prop,(opd st.env g).core=.fn (.func f) fs cs/\SeqA P f fs cs xs/\(∀ x∈xs,x.length=ps.size/\∀ d∈x,Tr d)/\I 0 st.mem st.nx/\
   (∀ k m nx x,xs[k]? =some x->I k m nx->AW P noY false assign (assignQ fun s=>AW P noY false body (roundQ st.env (I (k+1)) Q) s) ⟨setAll st.env ps.toList x,m,nx⟩)/\
   ∀ m nx,I xs.length m nx->Q .normal ⟨st.env,m,nx⟩
 | .exit id,Q,st=>Q (.exit id) st
 | .label _,Q,st=>Q .normal st
 | .ret,Q,st=>Q .ret st
 |_,_,_=>False
def resD(P:Program)(st:St):ResultVar->Option (Prop×D)
 | .tmp t=>some (True,st.env t)
 | .cell a t=>match st.env a with
  | .rp i off=>match st.mem i with
   |some (.cells cs _)=>some (tyOk P t=true/\off+P.cellsOf t<=cs.length,takeV P t (cs.drop off))
   |_=>none
  | .pt cs=>some (tyOk P t=true/\P.cellsOf t<=cs.length,takeV P t cs)
  |_=>none
def retL(P:Program)(st:St):List ResultVar->List D->(List D->Prop)->Prop
 |[],acc,K=>K acc
 |r::rs,acc,K=>match resD P st r with
  |some (p,d)=>p/\retL P st rs (acc++[d]) K
  |none=>False
def one1:List D->D
 |[d]=>d
 |ds=>.tup ds
def retQ(P:Program)(rs:List ResultVar)(K:D->St->Prop):Exit->St->Prop
 | .normal,st=>retL P st rs [] fun ds=>K (one1 ds) st
 | .ret,st=>retL P st rs [] fun ds=>K (one1 ds) st
 |_,_=>False
def envOf(args:List D):Env:=fun t=>args.getD t .u
section inv
variable{F:Nat->Prop}{β:Pla}{w:World}{v:Value}
theorem R.s_inv{x:Value}(h:R F β w (.s x) v):v=x/\plain x=true:=by cases h;exact⟨rfl,‹_›⟩
theorem R.ub_inv(h:R F β w .ub v):∃ b,v=.bool b:=by cases h;exact⟨_,rfl⟩
theorem R.z_inv(h:R F β w .z v):∃ a,v=.slice a 0 0:=by cases h;exact⟨_,rfl⟩
theorem R.agg_inv{cs:List D}(h:R F β w (.agg cs) v):∃ vs:List Value,v=.agg vs.toArray/\vs.length=cs.length/\∀ (k:Nat) (d:D) (u:Value),cs[k]? =some d->vs[k]? =some u->R F β w d u:=by
 cases h with|agg _ vs hl h=>exact⟨vs,rfl,hl,h⟩
theorem R.tup_inv{cs:List D}(h:R F β w (.tup cs) v):∃ vs:List Value,v=.tuple vs.toArray/\vs.length=cs.length/\∀ (k:Nat) (d:D) (u:Value),cs[k]? =some d->vs[k]? =some u->R F β w d u:=by
 cases h with|tup _ vs hl h=>exact⟨vs,rfl,hl,h⟩
theorem R.core_of(d:D)(h:R F β w d v)(ha:d.ask):R F β w d.core v:=by
 cases h with
 |opt c d v h h'=>exact h ha
 |u v=>exact .u _
 |s v h=>exact .s _ h
 |ub b=>exact .ub _
 |agg cs vs h h'=>exact .agg _ _ h h'
 |tup cs vs h h'=>exact .tup _ _ h h'
 |z a=>exact .z _
 |sln a c=>exact .sln _ _
 |sl es n b o cap us h1 h2 h3 h4 h5 C J=>exact .sl _ _ _ _ _ _ h1 h2 h3 h4 h5 C J
 |pt cs b o us h1 h2 h3 h4 h5=>exact .pt _ _ _ _ h1 h2 h3 h4 h5
 |rsd i off n v h hv=>exact .rsd _ _ _ _ h hv
 |rsn i a h=>exact .rsn _ _ h
 |rsz i off a b o len room sz h=>exact .rsz _ _ _ _ _ _ _ _ h
 |rs i off n cap b o len room sz h h1 h2 h3 h4=>exact .rs _ _ _ _ _ _ _ _ _ h h1 h2 h3 h4
 |rpd i off v h hv=>exact .rpd _ _ _ h hv
 |rp i off b o len room sz h=>exact .rp _ _ _ _ _ _ _ h
 |mpd i v h hv=>exact .mpd _ _ h hv
 |mp i r h=>exact .mp _ _ h
 |im es r ms c h1 h2 h3 h4 h5 C J=>exact .im _ _ _ _ h1 h2 h3 h4 h5 C J
 |fn f fs cs us vs h1 h2 h3 h4=>exact .fn _ _ _ _ _ h1 h2 h3 h4
theorem plain_one{x:Value}(h:plain x=true):x.oneCell'=true:=by cases x<;>simp_all[plain,Value.oneCell']
theorem R.one{d:D}(h:R F β w d v)(hd:d.one=true):v.oneCell'=true:=by
 cases h<;>first|rfl|assumption|(simp[D.one] at hd;done)|(exact plain_one ‹_›)
theorem R.cells{d:D}(h:R F β w d v)(hd:d.cells.all D.one=true):v.cells.size=d.cells.length/\(∀ (k:Nat) (e:D) (u:Value),d.cells[k]? =some e->v.cells[k]? =some u->R F β w e u/\u.oneCell'=true)/\(∀ u∈v.cells.toList,u.oneCell'=true):=by
 have single:d.cells=[d]->v.cells.size=d.cells.length/\(∀ (k:Nat) (e:D) (u:Value),d.cells[k]? =some e->v.cells[k]? =some u->R F β w e u/\u.oneCell'=true)/\(∀ u∈v.cells.toList,u.oneCell'=true):=fun hs=>by
  have h1:d.one=true:=by simpa[hs] using hd
  have h2:=h.one h1;have h3:v.cells= #[v]:=by cases v<;>first|rfl|(simp[Value.oneCell'] at h2;done)
  rw[h3,hs];refine⟨rfl,fun k e u hk C=>?_,fun u C=>?_⟩
  .cases k with
   |zero=>simp at hk C;subst hk;subst C;exact⟨h,h2⟩
   |succ k=>simp at hk
  .simp at C;subst C;exact h2
 cases d with
 |agg cs=>
  obtain⟨vs,rfl,hl,hr⟩:=h.agg_inv
  have J:∀ (k:Nat) (u:Value),vs[k]? =some u->u.oneCell'=true:=fun k u C=>by
   have hk:k<cs.length:=by
    have:=(bw.1 C).1;omega
   have h1:=hr k cs[k] u (by simp[hk]) C;exact h1.one (bj.1 hd _ (cy hk))
  refine⟨by simpa[Value.cells,D.cells] using hl,fun k e u hk C=>?_,fun u C=>?_⟩
  .simp[Value.cells] at C;exact⟨hr k e u hk C,J k u C⟩
  .simp[Value.cells] at C;obtain⟨k,hk⟩:=cC C;exact J k u hk
 |_=>exact single rfl
end inv
section opd
variable{F:Nat->Prop}{β:Pla}{w:World}
theorem toD1_R(v:Value):R F β w (toD1 v) v:=by
 unfold toD1;split<;>first|exact .u _|exact .s _ rfl|exact .z _
theorem toD_R(v:Value):R F β w (toD v) v:=by
 unfold toD;split
 .rename_i cs
  have:=R.agg (F:=F) (β:=β) (w:=w) (cs.toList.map toD1) cs.toList oS (fun k d u hk C=>by
   simp only[List.getElem?_map,C,Option.map_some,aV] at hk;subst hk
   exact toD1_R u)
  simpa using this
 all_goals first|exact .u _|exact .s _ rfl|exact .z _
def ESim(F:Nat->Prop)(β:Pla)(w:World)(env:Env)(a:Act):Prop:=∀ t,R F β w (env t) (a.tmps.getD t undef)
theorem ESim.opd{env:Env}{a:Act}(h:ESim F β w env a)(x:Operand):R F β w (opd env x) (a.eval x):=by
 cases x with
 |tmp t=>exact h t
 |const v=>exact toD_R v
 |global g=>exact .u _
 |func f=>exact .fn (.func f) [] [] [] [] rfl rfl oS oS
theorem ESim.step{β':Pla}{w':World}{env:Env}{a:Act}(h:ESim F β w env a)(hs:Step β w β' w'):ESim F β' w' env a:=fun t=>(h t).step hs
theorem ESim.put{env:Env}{a:Act}(h:ESim F β w env a)(dst:Option Nat)(d:D)(v:Value)(hr:R F β w d v)(hd:∀ t,dst=some t->t<a.tmps.size):
 ESim F β w (match dst with|some t=>up env t d|none=>env) (a.put dst v):=by
 cases dst with
 |none=>exact h
 |some t=>
  intro j;have ht:=hd t rfl;by_cases hj:j=t
  .subst hj;simp only[up_same,Act.put];simpa[Array.getD_eq_getD_getElem?,ht] using hr
  .simp only[up_ne _ _ hj,Act.put];have:=h j;simpa[Array.getD_eq_getD_getElem?,Array.getElem?_setIfInBounds_ne (Ne.symm hj)] using this
end opd
section types
variable{P:Program}(w:World)
theorem tyOk_spec{t:TypeId}(h:tyOk P t=true):∃ i d z,P.info? t=some i/\P.underlying t=some d/\i.zero=some z/\(aggP P t=false->P.cellsOf t=1)/\z.cells.size=P.cellsOf t/\
 zeroP P t=z.cells.toList.map toD1/\i.size=P.cellsOf t/\i.bytes=P.bytesOf t/\(∀ u∈z.cells.toList,(toD1 u).one=true):=by
 unfold tyOk at h;simp only[aM,Bool.or_eq_true,beq_iff_eq] at h;obtain⟨⟨h1,h2⟩,h3⟩:=h;obtain⟨d,hd⟩:=Option.isSome_iff_exists.1 h1;cases hi:P.info? t with
 |none=>simp[hi] at h3
 |some i=>
  cases C:i.zero with
  |none=>simp[hi,C] at h3
  |some z=>
   simp only[hi,C,Option.bind_some,aM,beq_iff_eq,bj] at h3;refine⟨i,d,z,rfl,hd,C,fun ha=>?_,h3.2,?_,?_,?_,h3.1⟩
   .rcases h2 with h2|h2
    .rw[h2] at ha;cases ha
    .exact h2
   .simp[zeroP,hi,C]
   .simp[Program.cellsOf,hi]
   .simp[Program.bytesOf,hi]
theorem run_isAgg'{t:TypeId}(h:(P.underlying t).isSome=true):(isAgg t).run P w=.ok (aggP P t) w:=by
 obtain⟨d,hd⟩:=Option.isSome_iff_exists.1 h;simp only[isAgg,Sem.run_bind,run_underlying hd,Result.andThen_ok,aggP,hd];cases d<;>rfl
theorem run_sizeOf'{t:TypeId}(h:(P.info? t).isSome=true):(sizeOf t).run P w=.ok (P.cellsOf t) w:=by
 obtain⟨i,hi⟩:=Option.isSome_iff_exists.1 h;simp[sizeOf,typeInfo,Program.cellsOf,hi]
theorem tyOk_info{t:TypeId}(h:tyOk P t=true):(P.info? t).isSome=true:=by
 obtain⟨i,_,_,hi,_⟩:=tyOk_spec h;simp[hi]
theorem tyOk_und{t:TypeId}(h:tyOk P t=true):(P.underlying t).isSome=true:=by
 obtain⟨_,d,_,_,hd,_⟩:=tyOk_spec h;simp[hd]
theorem run_zeroValue'{t:TypeId}(h:tyOk P t=true):∃ z,(zeroValue t).run P w=.ok z w/\z.cells.size=P.cellsOf t/\zeroP P t=z.cells.toList.map toD1/\(∀ u∈z.cells.toList,(toD1 u).one=true):=by
 obtain⟨i,d,z,hi,_,C,_,h1,h2,_,_,h3⟩:=tyOk_spec h;exact⟨z,by simp[zeroValue,typeInfo,hi,C],h1,h2,h3⟩
theorem slT_spec{t:TypeId}(h:slT P t=true):P.underlying t=some (.slice (elemP P t))/\tyOk P (elemP P t)=true:=by
 unfold slT at h;unfold elemP;split at h
 .rename_i e he;rw[he];exact⟨rfl,h⟩
 .cases h
theorem arT_spec{t:TypeId}(h:arT P t=true):P.underlying t=some (.array (lenP P t) (elemP P t))/\tyOk P (elemP P t)=true:=by
 unfold arT at h;unfold elemP lenP;split at h
 .rename_i e he;rw[he];exact⟨rfl,h⟩
 .cases h
theorem stT_spec{t:TypeId}(h:stT P t=true):P.underlying t=some .string:=by
 unfold stT at h;split at h
 .assumption
 .cases h
end types
def OpS(P:Program)(F:Nat->Prop)(m:Mem)(nx:Nat)(β:Pla)(w:World)(e:Eff)(s:Sem Next):Prop:=
 ∃ n v w' β',s.run P w=.ok n w'/\(n=.value v\/(n=.skip/\v=undef))/\R F β' w' e.val v/\MSim P F (upds m e.ups) β' w'/\Step β w β' w'/\∀ i,β i=none->(i<nx\/nx+e.new<=i)->β' i=none
section
variable{P:Program}{F:Nat->Prop}{m:Mem}{nx:Nat}{β:Pla}{w:World}
theorem OpS.pure(hm:MSim P F m β w){pre:Prop}{d:D}{rd:List Nat}{s:Sem Value}{v:Value}(hr:s.run P w=.ok v w)(h:R F β w d v):
 OpS P F m nx β w { pre:=pre,val:=d,rd:=rd } (do Pure.pure (Next.value (<- s))):=
 ⟨.value v,v,w,β,by simp[hr],.inl rfl,h,hm,Step.refl β w,fun _ h _=>h⟩
def Rd(F:Nat->Prop)(β:Pla)(w:World)(b o:Nat)(cs:List D):Prop:=
 ∃ us:Nat->Value,(∀ k:Nat,k<cs.length->w.cell? ⟨b,o+k,none⟩=some (us k)/\(us k).oneCell'=true)/\∀ (k:Nat) (d:D),cs[k]? =some d->R F β w d (us k)
theorem Rd.drop{b o:Nat}{cs:List D}(h:Rd F β w b o cs)(k:Nat):Rd F β w b (o+k) (cs.drop k):=by
 obtain⟨us,h1,h2⟩:=h;refine⟨fun j=>us (k+j),fun j hj=>?_,fun j d hj=>?_⟩
 .have:=h1 (k+j) (by simp at hj;omega);rw[<- Nat.add_assoc] at this;exact this
 .exact h2 (k+j) d (by simpa[List.getElem?_drop] using hj)
theorem Rd.take{b o:Nat}{cs:List D}(h:Rd F β w b o cs)(k:Nat):Rd F β w b o (cs.take k):=by
 obtain⟨us,h1,h2⟩:=h;refine⟨us,fun j hj=>h1 j (by simp at hj;omega),fun j d hj=>h2 j d ?_⟩;rw[List.getElem?_take] at hj;split at hj
 .exact hj
 .cases hj
theorem RowR.rd{cs:List D}{e:TypeId}{b o len room sz:Nat}(h:RowR P F β w (.cells cs e) (.cells b o len room sz)):Rd F β w b o cs/\len=cs.length/\sz=P.cellsOf e/\len<=room:=by
 cases h with
 |cells _ _ _ _ _ _ c hc hr hlen cE C=>
  refine⟨⟨fun k=>(c[o+k]?).getD undef,fun k hk=>?_,fun k d hk=>?_⟩,rfl,cE,hlen⟩
  .have:o+k<c.size:=by omega
   obtain⟨v,h1,_,h3⟩:=C k cs[k] (by simp[hk]);exact⟨by simp[World.cell?,hc,h1],by simpa[h1] using h3⟩
  .obtain⟨v,h1,h2,_⟩:=C k d hk;simpa[h1] using h2
theorem R.pt_inv{cs:List D}{v:Value}(h:R F β w (.pt cs) v):∃ b o,v=.pointer (some ⟨b,o,none⟩)/\¬ F b/\β.free b/\b<w.heap.size/\Rd F β w b o cs:=by
 cases h with|pt _ b o us h1 h2 h3 h4 h5=>exact⟨b,o,rfl,h1,h2,h3,us,h4,h5⟩
theorem R.pt_mk{cs:List D}{b o:Nat}(h1:¬ F b)(h2:β.free b)(h3:b<w.heap.size)(h:Rd F β w b o cs):R F β w (.pt cs) (.pointer (some ⟨b,o,none⟩)):=by
 obtain⟨us,h4,h5⟩:=h;exact .pt cs b o us h1 h2 h3 h4 h5
theorem R.rp_inv(hm:MSim P F m β w){i off:Nat}{cs:List D}{e:TypeId}{v:Value}(h:R F β w (.rp i off) v)(hi:m i=some (.cells cs e)):
 ∃ b o room sz,β i=some (.cells b o cs.length room sz)/\v=.pointer (some ⟨b,o+off,none⟩)/\RowR P F β w (.cells cs e) (.cells b o cs.length room sz):=by
 obtain⟨p,hp,ax⟩:=hm.row i _ hi;cases h with
 |rpd _ _ _ h _=>
  rw[h] at hp;cases hp;cases ax
 |rp _ _ b o len room sz h=>
  rw[h] at hp;cases hp;obtain⟨_,h2,_,_⟩:=ax.rd;subst h2;exact⟨b,o,room,sz,h,rfl,ax⟩
theorem run_load_rd{t:TypeId}(ht:tyOk P t=true){b o:Nat}{cs:List D}(h:Rd F β w b o cs)(hl:P.cellsOf t<=cs.length):
 ∃ v,(loadVar t ⟨b,o,none⟩).run P w=.ok v w/\R F β w (takeV P t cs) v:=by
 obtain⟨us,h1,h2⟩:=h;obtain⟨i,d,z,hi,hd,J,C,_⟩:=tyOk_spec ht;unfold loadVar takeV;simp only[Sem.run_bind,run_isAgg' w (tyOk_und ht),Result.andThen_ok];cases ha:aggP P t with
 |true=>
  have hc:=run_loadCells (P:=P) w ⟨b,o,none⟩ (P.cellsOf t) us (fun j hj=>by rw[Addr.add_lit];exact(h1 j oG).1);refine⟨_,by simp[run_sizeOf' w (tyOk_info ht),hc];rfl,?_⟩;refine .agg _ _ oP fun k d v hk hv=>?_;simp only[List.getElem?_map] at hv;rw[List.getElem?_take] at hk;split at hk
  .rename_i ao;have:(List.range (P.cellsOf t))[k]? =some k:=by simp[ao]
   rw[this] at hv;simp at hv;subst hv;exact h2 k d hk
  .cases hk
 |false=>
  have M:=C ha;have h0:=(h1 0 oG).1;rw[Nat.add_zero] at h0;refine⟨us 0,by simp[h0],?_⟩;cases cs with
  |nil=>simp at hl;omega
  |cons d ds=>exact h2 0 d rfl
theorem ops_load_pt(hm:MSim P F m β w){t:TypeId}{cs:List D}{v:Value}{pre:Prop}(h:R F β w (.pt cs) v)(ht:tyOk P t=true)(hl:P.cellsOf t<=cs.length):
 OpS P F m nx β w { pre:=pre,val:=takeV P t cs } (do Pure.pure (Next.value (<- Instr.loadAt t v))):=by
 obtain⟨b,o,rfl,_,_,_,C⟩:=h.pt_inv;obtain⟨u,J,hr⟩:=run_load_rd ht C hl;exact OpS.pure hm (by simp[Instr.loadAt,Instr.sureAddr,J]) hr
theorem ops_load_rp(hm:MSim P F m β w){t:TypeId}{i off:Nat}{cs:List D}{e:TypeId}{v:Value}{pre:Prop}{rd:List Nat}(h:R F β w (.rp i off) v)(hi:m i=some (.cells cs e))
 (ht:tyOk P t=true) (hl:off+P.cellsOf t<=cs.length):
 OpS P F m nx β w { pre:=pre,val:=takeV P t (cs.drop off),rd:=rd } (do Pure.pure (Next.value (<- Instr.loadAt t v))):=by
 obtain⟨b,o,room,sz,J,rfl,ax⟩:=h.rp_inv hm hi;obtain⟨u,C,hr⟩:=run_load_rd ht (ax.rd.1.drop off) oP;exact OpS.pure hm (by simp[Instr.loadAt,Instr.sureAddr,C]) hr
theorem splice_eq{cs:List D}{off:Nat}{xs:List D}(h:off+xs.length<=cs.length):splice cs off xs=cs.take off++xs++cs.drop (off+xs.length):=by
 unfold splice;split
 .rename_i x;simp at h;rw[List.set_eq_take_append_cons_drop,if_pos oG];simp
 .rfl
theorem splice_length{cs:List D}{off:Nat}{xs:List D}(h:off+xs.length<=cs.length):(splice cs off xs).length=cs.length:=by
 rw[splice_eq h];simp;omega
theorem splice_get{cs:List D}{off:Nat}{xs:List D}(h:off+xs.length<=cs.length)(k:Nat):(splice cs off xs)[k]? =if k<off then cs[k]? else if k<off+xs.length then xs[k - off]? else cs[k]? :=by
 rw[splice_eq h];by_cases h1:k<off
 .rw[if_pos h1,List.append_assoc,List.getElem?_append_left oP,List.getElem?_take,if_pos h1]
 .rw[if_neg h1];by_cases h2:k<off+xs.length
  .rw[if_pos h2,List.append_assoc,List.getElem?_append_right oP,List.length_take,Nat.min_eq_left oG,List.getElem?_append_left oG]
  .rw[if_neg h2,List.getElem?_append_right oP,List.length_append,List.length_take,Nat.min_eq_left oG,List.getElem?_drop];congr 1;omega
theorem vsplice_get(c:List Value)(off:Nat)(xs:List Value)(h:off+xs.length<=c.length)(k:Nat):(c.take off++xs++c.drop (off+xs.length))[k]? =if k<off then c[k]? else if k<off+xs.length then xs[k - off]? else c[k]? :=by
 by_cases h1:k<off
 .rw[if_pos h1,List.append_assoc,List.getElem?_append_left oP,List.getElem?_take,if_pos h1]
 .rw[if_neg h1];by_cases h2:k<off+xs.length
  .rw[if_pos h2,List.append_assoc,List.getElem?_append_right oP,List.length_take,Nat.min_eq_left oG,List.getElem?_append_left oG]
  .rw[if_neg h2,List.getElem?_append_right oP,List.length_append,List.length_take,Nat.min_eq_left oG,List.getElem?_drop];congr 1;omega
theorem write_cells(hm:MSim P F m β w){i off:Nat}{cs:List D}{e:TypeId}{b o room sz:Nat}(hβ:β i=some (.cells b o cs.length room sz))(ax:RowR P F β w (.cells cs e) (.cells b o cs.length room sz))
 {ds:List D} {vs:List Value} (hlen:vs.length=ds.length) (o6:off+ds.length<=cs.length) (h1:∀ u∈vs,u.oneCell'=true) (hr:∀ (k:Nat) (d:D) (u:Value),ds[k]? =some d->vs[k]? =some u->R F β w d u):
 ∃ w',(storeCells ⟨b,o+off,none⟩ vs).run P w=.ok () w'/\MSim P F (up m i (some (.cells (splice cs off ds) e))) β w'/\Step β w β w':=by
 cases ax with
 |cells _ _ _ _ _ _ c hc HP hle cE hh=>
 have X:=run_storeCells_at P b (o+off) e vs 0 c w hc oG h1;simp only[Nat.add_zero] at X;have Cb:=setRow_heap w b c (c.toList.take (o+off)++vs++c.toList.drop (o+off+vs.length)).toArray e (0,0) hc
 have hs:Step β w β (w.setRow b (c.toList.take (o+off)++vs++c.toList.drop (o+off+vs.length)).toArray):=
  step_write hm hβ rfl oS fun k hk=>setRow_other w b k _ hk
 refine⟨_,X,hm.write hβ rfl oS (fun k hk=>setRow_other w b k _ hk) _ ?_,hs⟩;have hl:=splice_length (cs:=cs) (off:=off) (xs:=ds) oG
 have HQ:(c.toList.take (o+off)++vs++c.toList.drop (o+off+vs.length)).toArray.size=c.size:=by
  simp only[List.size_toArray,List.length_append,List.length_take,List.length_drop,Array.length_toList];omega
 have key:=RowR.cells (P:=P) (F:=F) (β:=β) (w:=w.setRow b (c.toList.take (o+off)++vs++c.toList.drop (o+off+vs.length)).toArray) (splice cs off ds) e b o room sz _ Cb (by rw[HQ];exact HP) oG cE (fun k d hk=>by
  rw[splice_get oG] at hk;have hv:=vsplice_get c.toList (o+off) vs oP (o+k);simp only[List.getElem?_toArray];by_cases h2:k<off
  .rw[if_pos h2] at hk;rw[if_pos oG] at hv;obtain⟨u,J,M,C⟩:=hh k d hk;exact⟨u,by rw[hv];simpa using J,M.step hs,C⟩
  .rw[if_neg h2] at hk;rw[if_neg oG] at hv;by_cases h3:k<off+ds.length
   .rw[if_pos h3] at hk;rw[if_pos oG] at hv;have ao:k - off<vs.length:=by omega
    refine⟨vs[k - off],by rw[hv,show o+k - (o+off)=k - off from by omega];simp[ao],?_,h1 _ (cy ao)⟩;exact(hr (k - off) d vs[k - off] hk (by simp[ao])).step hs
   .rw[if_neg h3] at hk;rw[if_neg oG] at hv;obtain⟨u,J,M,C⟩:=hh k d hk
    exact⟨u,by rw[hv];simpa using J,M.step hs,C⟩)
 rw[hl] at key;exact key
theorem ops_store(hm:MSim P F m β w){t:TypeId}{i off:Nat}{cs:List D}{e:TypeId}{a x:Value}{d:D}{pre:Prop}{rd:List Nat}(h:R F β w (.rp i off) a)(hx:R F β w d x)(hi:m i=some (.cells cs e))
 (ht:tyOk P t=true) (hlen:d.cells.length=P.cellsOf t) (hl:off+P.cellsOf t<=cs.length) (h1:d.cells.all D.one=true):
 OpS P F m nx β w { pre:=pre,val:=.tup [],ups:=[(i,some (.cells (splice cs off d.cells) e))],rd:=rd } (do Instr.storeAt t a x;Pure.pure Next.skip):=by
 obtain⟨b,o,room,sz,hβ,rfl,ax⟩:=h.rp_inv hm hi;obtain⟨J,M,c3⟩:=hx.cells h1;obtain⟨w',C,jd,hs⟩:=write_cells (P:=P) hm hβ ax (off:=off) (ds:=d.cells) (vs:=x.cells.toList) (by simpa using J) oG c3 (fun k d' u hk X=>(M k d' u hk (by simpa using X)).1);refine⟨.skip,undef,w',β,?_,.inr ⟨rfl,rfl⟩,.tup [] [] rfl oS,jd,hs,fun _ h _=>h⟩;have cE:x.cells.size=P.cellsOf t:=by omega
 simp[Instr.storeAt,Instr.sureAddr,storeVar,run_sizeOf' w (tyOk_info ht),cE,C]
theorem new_row(hm:MSim P F m β w)(hn:β nx=none){cs:List D}{c:List Value}{e:TypeId}(hl:c.length=cs.length)(h1:∀ (k:Nat) (d:D) (u:Value),cs[k]? =some d->c[k]? =some u->R F β w d u/\u.oneCell'=true)(C:List Value):
 MSim P F (up m nx (some (.cells cs e))) (up β nx (some (.cells w.heap.size 0 cs.length (cs.length+C.length) (P.cellsOf e)))) (w.alloc (.cells (c++C).toArray e))/\
 Step β w (up β nx (some (.cells w.heap.size 0 cs.length (cs.length+C.length) (P.cellsOf e)))) (w.alloc (.cells (c++C).toArray e)):=by
 have hs:=step_alloc hm (.cells (c++C).toArray e) hn (.cells w.heap.size 0 cs.length (cs.length+C.length) (P.cellsOf e)) (fun b hb=>by simp[Pl.blk] at hb;exact hb.symm);refine⟨hm.alloc hn _ _ _ (fun b hb=>by simp[Pl.blk] at hb;exact hb.symm) ?_,hs⟩;refine .cells cs e w.heap.size 0 _ _ (c++C).toArray (heap_alloc_new w _) oP oG rfl fun k d hk=>?_;have M:k<cs.length:=(bw.1 hk).1;have J:k<c.length:=by omega
 obtain⟨h2,h3⟩:=h1 k d c[k] hk (by simp[J]);refine⟨c[k],?_,h2.step hs,h3⟩;rw[Nat.zero_add,List.getElem?_toArray,List.getElem?_append_left J];simp[J]
theorem fresh_up{p:Pl}:∀ i,β i=none->(i<nx\/nx+1<=i)->up β nx (some p) i=none:=fun i h hi=>by
 rw[up_ne _ _ oG];exact h
theorem newVar_run(t:TypeId)(v:Value):(newVar t v).run P w=.ok ⟨w.heap.size,0,none⟩ (w.alloc (.cells v.cells t)):=by
 simp[newVar,newRow]
theorem ops_box(hm:MSim P F m β w)(hn:β nx=none){t:TypeId}{d:D}{v:Value}{pre:Prop}(h:R F β w d v)(h1:d.cells.all D.one=true):
 OpS P F m nx β w { pre:=pre,val:=.rp nx 0,ups:=[(nx,some (.cells d.cells t))],new:=1 } (do Pure.pure (Next.value (<- Instr.box t v))):=by
 obtain⟨C,J,c3⟩:=h.cells h1;obtain⟨h2,h3⟩:=new_row hm hn (cs:=d.cells) (c:=v.cells.toList) (e:=t) (by simpa using C) (fun k e u hk M=>J k e u hk (by simpa using M)) [];simp only[List.append_nil,Array.toArray_toList] at h2 h3;refine⟨_,_,_,_,by simp[Instr.box,newVar_run];rfl,.inl rfl,?_,h2,h3,fresh_up⟩;exact .rp nx 0 w.heap.size 0 _ _ _ (up_same _ _ _)
theorem zero_R{z:Value}{t:TypeId}(J:zeroP P t=z.cells.toList.map toD1)(M:∀ u∈z.cells.toList,(toD1 u).one=true):
 z.cells.toList.length=(zeroP P t).length/\∀ (k:Nat) (d:D) (u:Value),(zeroP P t)[k]? =some d->z.cells.toList[k]? =some u->R F β w d u/\u.oneCell'=true:=by
 rw[J];refine⟨oS,fun k d u hk C=>?_⟩;rw[List.getElem?_map,C] at hk;simp only[Option.map_some,aV] at hk;subst hk;have:=toD1_R (F:=F) (β:=β) (w:=w) u;exact⟨this,this.one (M u (bU C))⟩
theorem ops_alloc(hm:MSim P F m β w)(hn:β nx=none){t:TypeId}{pre:Prop}(ht:tyOk P t=true):
 OpS P F m nx β w { pre:=pre,val:=.rp nx 0,ups:=[(nx,some (.cells (zeroP P t) t))],new:=1 } (do Pure.pure (Next.value (<- Instr.alloc t true (.tuple #[])))):=by
 obtain⟨z,X,_,h3,h4⟩:=run_zeroValue' (P:=P) w ht;obtain⟨J,M⟩:=zero_R (F:=F) (β:=β) (w:=w) h3 h4;obtain⟨h5,C⟩:=new_row hm hn (cs:=zeroP P t) (c:=z.cells.toList) (e:=t) J M [];simp only[List.append_nil,Array.toArray_toList] at h5 C;refine⟨_,_,_,_,by simp[Instr.alloc,X,newVar_run];rfl,.inl rfl,?_,h5,C,fresh_up⟩;exact .rp nx 0 w.heap.size 0 _ _ _ (up_same _ _ _)
end
section
variable{P:Program}{F:Nat->Prop}{m:Mem}{nx:Nat}{β:Pla}{w:World}
def Rl(F:Nat->Prop)(β:Pla)(w:World)(cs:List D)(c:List Value):Prop:=
 c.length=cs.length/\∀ (k:Nat) (d:D) (u:Value),cs[k]? =some d->c[k]? =some u->R F β w d u/\u.oneCell'=true
theorem foldl_get(off:Nat):∀ (l:List Value) (j:Nat) (cells:Array Value) (k:Nat),off+j+l.length<=cells.size->
 ((l.zipIdx j).foldl (fun cs (c,j)=>cs.setIfInBounds (off+j) c) cells)[k]? =if k<off+j then cells[k]? else if k<off+j+l.length then l[k - (off+j)]? else cells[k]?
 |[],j,cells,k,_=>by
  simp only[List.zipIdx_nil,List.foldl_nil,List.length_nil,Nat.add_zero];split
  .rfl
  .rfl
 |v::l,j,cells,k,h=>by
  simp only[List.zipIdx_cons,List.foldl_cons];simp at h;rw[foldl_get off l (j+1) _ k oP];simp only[List.length_cons];by_cases h1:k<off+j
  .rw[if_pos oG,if_pos h1,Array.getElem?_setIfInBounds_ne oG]
  .rw[if_neg h1];by_cases h2:k=off+j
   .subst h2;rw[if_pos oG,if_pos oG];have:off+j<cells.size:=by omega
    simp[this]
   .rw[if_neg oG];by_cases h3:k<off+(j+1)+l.length
    .rw[if_pos h3,if_pos oG,show k - (off+j)=(k - (off+(j+1)))+1 from by omega];simp
    .rw[if_neg h3,if_neg oG,Array.getElem?_setIfInBounds_ne oG]
theorem foldl_cells(off:Nat)(l:List Value)(cells:Array Value)(h:off+l.length<=cells.size):
 (l.zipIdx.foldl (fun cs (c,j)=>cs.setIfInBounds (off+j) c) cells).toList=cells.toList.take off++l++cells.toList.drop (off+l.length):=by
 apply List.ext_getElem?;intro k;rw[vsplice_get _ _ _ (by simpa using h) k];have:=foldl_get off l 0 cells k (by simpa using h);simpa using this
theorem fill_R(place:Nat->Option (Nat×Nat)):∀ (ps:List (Nat×D)) (J:List (Nat×Value)) (cs:List D) (c:Array Value) (cs':List D),Rl F β w cs c.toList->ps.length=J.length->
 (∀ (k:Nat) (p:Nat×D) (q:Nat×Value),ps[k]? =some p->J[k]? =some q->p.1=q.1/\R F β w p.2 q.2)->fillD place cs ps=some cs'->∃ c',Instr.fill place c J=some c'/\Rl F β w cs' c'.toList
 |[],[],cs,c,cs',h,_,_,hf=>by
  simp only[fillD,aV] at hf;subst hf;exact⟨c,rfl,h⟩
 |[],_::_,_,_,_,_,hl,_,_=>by simp at hl
 |_::_,[],_,_,_,_,hl,_,_=>by simp at hl
 |(i,d)::ps,(i',v)::J,cs,c,cs',h,hl,hp,hf=>by
  obtain⟨h1,h2⟩:=hp 0 _ _ rfl rfl;simp only at h1 h2;subst h1;simp only[fillD] at hf;cases iO:place i with
  |none=>simp[iO] at hf
  |some q=>
   obtain⟨off,size⟩:=q;simp only[iO] at hf;split at hf
   .rename_i hc;obtain⟨gg,qq,X⟩:=hc;obtain⟨k1,k2,k3⟩:=h2.cells X;have cJ:=h.1;simp at cJ
    have LZ:¬ (v.cells.size≠size||off+v.cells.size>c.size)=true:=by
     simp;omega
    simp only[Instr.fill,iO];rw[if_neg LZ];have M:=foldl_cells off v.cells.toList c oP
    have nZ:v.cells.zipIdx.foldl (fun cs (c,j)=>cs.setIfInBounds (off+j) c) c=(v.cells.toList.zipIdx.foldl (fun cs (c,j)=>cs.setIfInBounds (off+j) c) c):=by
     rw[<- Array.foldl_toList];simp
    rw[nZ];refine fill_R place ps J (splice cs off d.cells) _ cs' ?_ (by simpa using hl) (fun k p q hk hq=>hp (k+1) p q hk hq) hf;rw[M];refine⟨?_,fun k e u hk C=>?_⟩
    .rw[splice_length oG];simp;omega
    .rw[splice_get oG] at hk;rw[vsplice_get _ _ _ oP] at C;simp only[Array.length_toList] at C;by_cases g1:k<off
     .rw[if_pos g1] at hk C;exact h.2 k e u hk C
     .rw[if_neg g1] at hk C;by_cases g2:k<off+d.cells.length
      .rw[if_pos g2] at hk;rw[if_pos oG] at C;exact k2 (k - off) e u hk (by simpa using C)
      .rw[if_neg g2] at hk;rw[if_neg oG] at C;exact h.2 k e u hk C
   .cases hf
theorem repl_get(z:List D)(C:0<z.length):∀ (n k:Nat),k<n*z.length->(replD n z)[k]? =z[k % z.length]?
 |0,k,h=>by simp at h
 |n+1,k,h=>by
  have e:replD (n+1) z=z++replD n z:=by simp[replD,List.replicate_succ]
  rw[e];by_cases hk:k<z.length
  .rw[List.getElem?_append_left hk,Nat.mod_eq_of_lt hk]
  .rw[List.getElem?_append_right oG,repl_get z C n (k - z.length) (by rw[Nat.add_mul] at h;omega)];rw[<- Nat.mod_eq_sub_mod oG]
theorem repl_length(n:Nat)(z:List D):(replD n z).length=n*z.length:=by
 simp[replD,List.length_flatten]
theorem zeros_R{t:TypeId}{z:Value}(hs:z.cells.size=P.cellsOf t)(hz:zeroP P t=z.cells.toList.map toD1)(qh:∀ u∈z.cells.toList,(toD1 u).one=true)(n N:Nat)(J:N=n*P.cellsOf t)(zero:Array Value)(hzero:0<N->zero=z.cells):
 Rl F β w (replD n (zeroP P t)) ((Array.range N).map (zero[· % zero.size]!)).toList:=by
 obtain⟨X,c2⟩:=zero_R (F:=F) (β:=β) (w:=w) hz qh;have hlen:(zeroP P t).length=P.cellsOf t:=by rw[<- X];simpa using hs
 refine⟨by simp[repl_length,hlen,J],fun k d u hk M=>?_⟩
 have ao:k<N:=by
  have:=(bw.1 hk).1;rw[repl_length,hlen] at this;omega
 have iM:0<N:=by omega
 have C:=hzero iM;subst C
 have h0:0<P.cellsOf t:=by
  rcases Nat.eq_zero_or_pos (P.cellsOf t) with h|h
  .rw[h] at J;omega
  .exact h
 rw[repl_get _ oG n k (by rw[hlen];omega),hlen] at hk;simp[ao] at M;have hm:k % P.cellsOf t<z.cells.size:=by rw[hs];exact Nat.mod_lt _ h0
 refine c2 (k % P.cellsOf t) d u hk ?_;rw[<- M,hs];simp[hm]
theorem ops_build_struct(hm:MSim P F m β w){t:TypeId}{fs:Array Field}{ps:List (Nat×D)}{C:Array (Nat×Value)}{cs':List D}{pre:Prop}(ht:tyOk P t=true)(hu:P.underlying t=some (.struct fs))(vT:fs.toList.all (fun f=>(P.info? f.type).isSome)=true)
 (hl:ps.length=C.size) (hp:∀ (k:Nat) (p:Nat×D) (q:Nat×Value),ps[k]? =some p->C[k]? =some q->p.1=q.1/\R F β w p.2 q.2)
 (hf:fillD (fun i=>(fs[i]?).map fun f=>(f.offset,P.cellsOf f.type)) (zeroP P t) ps=some cs'):
 OpS P F m nx β w { pre:=pre,val:=.agg cs' } (do Pure.pure (Next.value (<- Instr.build t C))):=by
 obtain⟨z,hz,mz,h3,h4⟩:=run_zeroValue' (P:=P) w ht;obtain⟨X,c2⟩:=zero_R (F:=F) (β:=β) (w:=w) h3 h4
 have J:(fs.mapM fun f=>(do pure (f.offset, <- sizeOf f.type):Sem (Nat×Nat))).run P w=.ok (fs.map fun f=>(f.offset,P.cellsOf f.type)) w:=by
  rw[Array.mapM_eq_mapM_toList]
  have key:∀ l:List Field,l.all (fun f=>(P.info? f.type).isSome)=true->(l.mapM fun f=>(Prod.mk f.offset<$>sizeOf f.type:Sem (Nat×Nat))).run P w=.ok (l.map fun f=>(f.offset,P.cellsOf f.type)) w:=by
   intro l
   induction l with
   |nil=>intro _;simp
   |cons f l ih=>
    intro hl;simp only[List.all_cons,aM] at hl;simp[List.mapM_cons,run_sizeOf' w hl.1,ih hl.2]
  simp[key fs.toList vT, <- Array.toList_map]
 obtain⟨M,yU,hR⟩:=fill_R (F:=F) (β:=β) (w:=w) (fun i=>(fs.map fun f=>(f.offset,P.cellsOf f.type))[i]?) ps C.toList (zeroP P t) z.cells cs' ⟨X,c2⟩ (by simpa using hl) (fun k p q hk hq=>hp k p q hk (by simpa using hq)) (by
  rw[<- hf];congr 1;funext i
  simp[Array.getElem?_map])
 refine OpS.pure hm (v:=.agg M) ?_ ?_
 .simp only[Instr.build,Sem.run_bind,hz,Result.andThen_ok,run_underlying hu,J,yU,Sem.run_pure]
 .have:=R.agg (F:=F) (β:=β) (w:=w) cs' M.toList hR.1 (fun k d v hk hv=>(hR.2 k d v hk hv).1);simpa using this
theorem ops_build_array(hm:MSim P F m β w){t e:TypeId}{n:Nat}{ps:List (Nat×D)}{C:Array (Nat×Value)}{cs':List D}{pre:Prop}(ht:tyOk P t=true)(hu:P.underlying t=some (.array n e))(he:tyOk P e=true)
 (hl:ps.length=C.size) (hp:∀ (k:Nat) (p:Nat×D) (q:Nat×Value),ps[k]? =some p->C[k]? =some q->p.1=q.1/\R F β w p.2 q.2)
 (hf:fillD (fun i=>some (i*P.cellsOf e,P.cellsOf e)) (zeroP P t) ps=some cs'):
 OpS P F m nx β w { pre:=pre,val:=.agg cs' } (do Pure.pure (Next.value (<- Instr.build t C))):=by
 obtain⟨z,hz,mz,h3,h4⟩:=run_zeroValue' (P:=P) w ht;obtain⟨M,X⟩:=zero_R (F:=F) (β:=β) (w:=w) h3 h4;obtain⟨J,yU,hR⟩:=fill_R (F:=F) (β:=β) (w:=w) _ ps C.toList (zeroP P t) z.cells cs' ⟨M,X⟩ (by simpa using hl) (fun k p q hk hq=>hp k p q hk (by simpa using hq)) hf;refine OpS.pure hm (v:=.agg J) ?_ ?_
 .simp only[Instr.build,Sem.run_bind,hz,Result.andThen_ok,run_underlying hu,run_sizeOf' w (tyOk_info he),yU,Sem.run_pure]
 .have:=R.agg (F:=F) (β:=β) (w:=w) cs' J.toList hR.1 (fun k d v hk hv=>(hR.2 k d v hk hv).1);simpa using this
theorem ops_buildSlice(hm:MSim P F m β w)(hn:β nx=none){t:TypeId}{n:Nat}{ps:List (Nat×D)}{C:Array (Nat×Value)}{cs':List D}{pre:Prop}(ht:slT P t=true)(h24:n*P.cellsOf (elemP P t)<=2 ^ 24)(fV:n<=maxLen)
 (hl:ps.length=C.size) (hp:∀ (k:Nat) (p:Nat×D) (q:Nat×Value),ps[k]? =some p->C[k]? =some q->p.1=q.1/\R F β w p.2 q.2)
 (hf:fillD (fun i=>some (i*P.cellsOf (elemP P t),P.cellsOf (elemP P t))) (replD n (zeroP P (elemP P t))) ps=some cs'):
 OpS P F m nx β w { pre:=pre,val:=.rs nx 0 n,ups:=[(nx,some (.cells cs' (elemP P t)))],new:=1 } (do Pure.pure (Next.value (<- Instr.buildSlice t n C))):=by
 obtain⟨hu,he⟩:=slT_spec ht;obtain⟨z,hz,mz,h3,h4⟩:=run_zeroValue' (P:=P) w he;have xJ:=zeros_R (F:=F) (β:=β) (w:=w) (P:=P) mz h3 h4 n (n*P.cellsOf (elemP P t)) rfl (if n*P.cellsOf (elemP P t)=0 then #[] else z.cells) (fun h=>by rw[if_neg oG]);obtain⟨M,J,hR⟩:=fill_R (F:=F) (β:=β) (w:=w) _ ps C.toList _ _ cs' xJ (by simpa using hl) (fun k p q hk hq=>hp k p q hk (by simpa using hq)) hf;obtain⟨h5,X⟩:=new_row hm hn (cs:=cs') (c:=M.toList) (e:=elemP P t) hR.1 hR.2 [];simp only[List.append_nil,Array.toArray_toList,List.length_nil,Nat.add_zero] at h5 X
 have vQ:(if n*P.cellsOf (elemP P t)=0 then Result.ok #[] w else Result.ok z.cells w)=.ok (if n*P.cellsOf (elemP P t)=0 then #[] else z.cells) w:=by
  split<;>rfl
 have gL:(Instr.buildSlice t n C).run P w=.ok (.slice (some ⟨w.heap.size,0,none⟩) n n) (w.alloc (.cells M (elemP P t))):=by
  unfold Instr.buildSlice;simp only[Sem.run_bind,run_underlying hu,Result.andThen_ok,run_sizeOf' w (tyOk_info he),Sem.run_ite,if_neg (show ¬ n*P.cellsOf (elemP P t)>2 ^ 24 by omega)];by_cases qt:n*P.cellsOf (elemP P t)=0
  .simp only[qt,↓reduceIte] at J ⊢;simp only[Sem.run_bind,Sem.run_pure,Result.andThen_ok,J];simp[newRow]
  .simp only[qt,↓reduceIte] at J ⊢;simp[J,newRow,hz]
 have cJ:cs'.length=n*P.cellsOf (elemP P t):=by
  have xK:∀ (place:Nat->Option (Nat×Nat)) (ps:List (Nat×D)) (cs cs':List D),fillD place cs ps=some cs'->cs'.length=cs.length:=by
   intro place ps
   induction ps with
   |nil=>intro cs cs' h;simp only[fillD,aV] at h;rw[h]
   |cons p ps ih=>
    intro cs cs' h;obtain⟨i,d⟩:=p;simp only[fillD] at h;split at h
    .cases h
    .split at h
     .rename_i hc;rw[ih _ _ h,splice_length oG]
     .cases h
  rw[xK _ _ _ _ hf,repl_length,h3];simp[mz]
 refine⟨_,_,_,_,by simp only[Sem.run_bind,gL,Result.andThen_ok,Sem.run_pure];rfl,.inl rfl,?_,h5,X,fresh_up⟩;exact .rs nx 0 n n w.heap.size 0 _ _ _ (up_same _ _ _) (bF _) fV oG oG
theorem ops_makeSlice(hm:MSim P F m β w)(hn:β nx=none){t:TypeId}{n:Int}{pre:Prop}(h0:0<=n)(h1:n<=9223372036854775807)(h2:P.bytesOf (elemP P t)*n<=281474976710656)(ht:slT P t=true):
 OpS P F m nx β w { pre:=pre,val:=.rs nx 0 n.toNat,ups:=[(nx,some (.cells (replD n.toNat (zeroP P (elemP P t))) (elemP P t)))],new:=1 } (do Pure.pure (Next.value (<- Instr.makeSlice t (.int .i64 n) (.int .i64 n)))):=by
 obtain⟨hu,he⟩:=slT_spec ht;obtain⟨i,d,z,hi,hd,hz,_,mz,h3,cE,zz,h4⟩:=tyOk_spec he;have NF:(zeroValue (elemP P t)).run P w=.ok z w:=by simp[zeroValue,typeInfo,hi,hz]
 have X:=zeros_R (F:=F) (β:=β) (w:=w) (P:=P) mz h3 h4 n.toNat (n.toNat*P.cellsOf (elemP P t)) rfl (if n.toNat*P.cellsOf (elemP P t)=0 then #[] else z.cells) (fun h=>by rw[if_neg oG]);generalize hc:((Array.range (n.toNat*P.cellsOf (elemP P t))).map ((if n.toNat*P.cellsOf (elemP P t)=0 then #[] else z.cells)[· % (if n.toNat*P.cellsOf (elemP P t)=0 then #[] else z.cells).size]!))=c at X;obtain⟨h5,h6⟩:=new_row hm hn (cs:=replD n.toNat (zeroP P (elemP P t))) (c:=c.toList) (e:=elemP P t) X.1 X.2 [];simp only[List.append_nil,Array.toArray_toList,List.length_nil,Nat.add_zero] at h5 h6
 have vQ:(if n.toNat*P.cellsOf (elemP P t)=0 then Result.ok #[] w else Result.ok z.cells w)=.ok (if n.toNat*P.cellsOf (elemP P t)=0 then #[] else z.cells) w:=by
  split<;>rfl
 have C:IntKind.i64.wrap n=n:=Go.IntWalk.i64_in n ⟨oG,h1⟩;have M:¬ n<0:=by omega
 have J:¬ (P.bytesOf (elemP P t):Int)*n>2 ^ 48:=by omega
 have gL:(Instr.makeSlice t (.int .i64 n) (.int .i64 n)).run P w=.ok (.slice (some ⟨w.heap.size,0,none⟩) n.toNat n.toNat) (w.alloc (.cells c (elemP P t))):=by
  unfold Instr.makeSlice
  simp only[Sem.run_bind,run_underlying hu,Result.andThen_ok,asInt,asIntOf,Sem.run_pure,typeInfo,run_program,hi,C,zz,M,J,decide_false,Bool.or_false,Bool.false_or,Bool.false_eq_true,if_false,Sem.run_ite,run_askRoom,run_sizeOf' w (tyOk_info he),
   show ¬ n>n from by omega]
  by_cases qt:n.toNat*P.cellsOf (elemP P t)=0
  .simp only[qt,↓reduceIte] at hc ⊢;simp only[Sem.run_bind,Sem.run_pure,Result.andThen_ok,hc];simp[newRow]
  .simp only[qt,↓reduceIte] at hc ⊢;simp only[Sem.run_bind,Sem.run_pure,NF,Result.andThen_ok,hc];simp[newRow]
 have hlen:(replD n.toNat (zeroP P (elemP P t))).length=n.toNat*P.cellsOf (elemP P t):=by rw[repl_length,h3];simp[mz]
 refine⟨_,_,_,_,by simp only[Sem.run_bind,gL,Result.andThen_ok,Sem.run_pure];rfl,.inl rfl,?_,h5,h6,fresh_up⟩;exact .rs nx 0 n.toNat n.toNat w.heap.size 0 _ _ _ (up_same _ _ _) (bF _) (by simp only[maxLen];omega) oG oG
end
section
variable{P:Program}{F:Nat->Prop}{m:Mem}{nx:Nat}{β:Pla}{w:World}
theorem OpS.val(hm:MSim P F m β w){pre:Prop}{d:D}{rd:List Nat}{s:Sem Next}{v:Value}(hr:s.run P w=.ok (.value v) w)(h:R F β w d v):OpS P F m nx β w { pre:=pre,val:=d,rd:=rd } s:=
 ⟨.value v,v,w,β,hr,.inl rfl,h,hm,Step.refl β w,fun _ h _=>h⟩
theorem eqGuard_plain(op:BinOp)(t:TypeId)(x y:Operand)(a b:Value)(h1:∀ u,a≠ .agg u)(h2:a≠ .nilIface):(eqGuard op t x y a b).run P w=.ok () w:=by
 unfold eqGuard;generalize (!(op matches .eql | .neq))=c;cases c
 .cases a<;>first|rfl|exact absurd rfl h2|exact absurd rfl (h1 _)
 .rfl
theorem run_equal{t:TypeId}{x y:Value}{b:Bool}(h:∀ d,(Op.equalIn (d+1) t x y).run P w=.ok b w):(Op.equal t x y).run P w=.ok b w:=h 9999
theorem run_eqlD{t:TypeId}{x y:Value}{b:Bool}(h:(Op.equal t x y).run P w=.ok b w):
 (do pure (Value.bool (<- Op.equal t x y)):Sem Value).run P w=.ok (.bool b) w/\(do pure (Value.bool (!(<- Op.equal t x y))):Sem Value).run P w=.ok (.bool !b) w:=by
 constructor<;>simp only[Sem.run_bind,h,Result.andThen_ok,Sem.run_pure]
theorem run_binV(op:BinOp)(t:TypeId)(x y v:Value)(p:Prop)(h:binV op x y=some (p,v))(hp:p):(binOp op t x y).run P w=.ok v w:=by
 cases x<;>cases y<;>cases op<;>simp only[binV,aV,bQ,reduceCtorEq] at h<;>
  (obtain⟨rfl,rfl⟩:=h)<;>
  first
  |(subst hp;simp[binOp,Op.intArith,Op.intCmp,Op.intBits,intBitsV];done)
  |(obtain⟨rfl,hb⟩:=hp;simp[binOp,Op.intDiv,hb];done)
  |(simp[binOp,Op.shift,show ¬ _<(0:Int) from Int.not_lt.2 hp];done)
  |(simp[binOp,Op.stringOp];done)
theorem binV_shape{op:BinOp}{x y v:Value}{p:Prop}(h:binV op x y=some (p,v)):plain v=true/\(∀ u,x≠ .agg u)/\x≠ .nilIface:=by
 cases x<;>cases y<;>cases op<;>simp only[binV,aV,bQ,reduceCtorEq] at h<;>(obtain⟨rfl,rfl⟩:=h)<;>simp[plain]
theorem ops_binV(hm:MSim P F m β w)(op:BinOp)(t:TypeId)(C J:Operand){a b x y v:Value}{p pre:Prop}(hx:R F β w (.s a) x)(hy:R F β w (.s b) y)(h:binV op a b=some (p,v))(hp:p):
 OpS P F m nx β w { pre:=pre,val:=.s v } ((do eqGuard op t C J x y;binOp op t x y)>>=fun r=>Pure.pure (Next.value r)):=by
 obtain⟨rfl,_⟩:=hx.s_inv;obtain⟨rfl,_⟩:=hy.s_inv;obtain⟨h1,h2,h3⟩:=binV_shape h;refine OpS.val hm (v:=v) ?_ (.s v h1);simp only[Sem.run_bind,eqGuard_plain op t C J x y h2 h3,Result.andThen_ok,run_binV op t x y v p h hp,Sem.run_pure]
theorem boT_spec{t:TypeId}(h:boT P t=true):P.underlying t=some .bool:=by
 unfold boT at h;split at h
 .assumption
 .cases h
theorem ptT_spec{t:TypeId}(h:ptT P t=true):∃ e,P.underlying t=some (.pointer e):=by
 unfold ptT at h;split at h
 .exact⟨_,‹_›⟩
 .cases h
theorem run_eq_bool{t:TypeId}(h:boT P t=true)(a b:Bool):(binOp .eql t (.bool a) (.bool b)).run P w=.ok (.bool (a==b)) w/\(binOp .neq t (.bool a) (.bool b)).run P w=.ok (.bool !(a==b)) w:=by
 have C:=boT_spec h;exact run_eqlD (run_equal fun d=>by simp[Op.equalIn,run_underlying C])
theorem run_eq_ptr{t:TypeId}(h:ptT P t=true)(a:Addr):(binOp .eql t (.pointer (some a)) (.pointer none)).run P w=.ok (.bool false) w/\(binOp .neq t (.pointer (some a)) (.pointer none)).run P w=.ok (.bool true) w:=by
 obtain⟨e,C⟩:=ptT_spec h;exact run_eqlD (run_equal fun d=>by simp[Op.equalIn,run_underlying C])
theorem run_eq_nil{t:TypeId}(h:slT P t=true)(a:Option Addr)(l c:Nat):(binOp .eql t (.slice a l c) (.slice none 0 0)).run P w=.ok (.bool a.isNone) w:=by
 obtain⟨C,_⟩:=slT_spec h;exact(run_eqlD (run_equal fun d=>by cases a<;>simp[Op.equalIn,run_underlying C])).1
theorem ops_eq_bool(hm:MSim P F m β w)(op:BinOp)(t:TypeId)(C J:Operand){a b:Bool}{x y:Value}{d:D}{pre:Prop}(hx:R F β w (.s (.bool a)) x)(hy:R F β w (.s (.bool b)) y)(ht:boT P t=true)
 (h:(op=.eql/\d=.s (.bool (a==b)))\/(op=.neq/\d=.s (.bool !(a==b)))):
 OpS P F m nx β w { pre:=pre,val:=d } ((do eqGuard op t C J x y;binOp op t x y)>>=fun r=>Pure.pure (Next.value r)):=by
 obtain⟨rfl,_⟩:=hx.s_inv;obtain⟨rfl,_⟩:=hy.s_inv;rcases h with⟨rfl,rfl⟩|⟨rfl,rfl⟩
 .refine OpS.val hm (v:=.bool (a==b)) ?_ (.s _ rfl);simp only[Sem.run_bind,eqGuard_plain _ t C J (.bool a) _ oS oS,Result.andThen_ok,(run_eq_bool ht a b).1,Sem.run_pure]
 .refine OpS.val hm (v:=.bool !(a==b)) ?_ (.s _ rfl);simp only[Sem.run_bind,eqGuard_plain _ t C J (.bool a) _ oS oS,Result.andThen_ok,(run_eq_bool ht a b).2,Sem.run_pure]
theorem R.rp_ptr{i off:Nat}{v:Value}(h:R F β w (.rp i off) v)(hl:β i≠some .dead):∃ a,v=.pointer (some a):=by
 cases h with
 |rpd _ _ _ h _=>exact absurd h hl
 |rp=>exact⟨_,rfl⟩
theorem ops_nil_rp(hm:MSim P F m β w)(op:BinOp)(t:TypeId)(C J:Operand){i off:Nat}{x y:Value}{d:D}{pre:Prop}{rd:List Nat}{r:Row}(hx:R F β w (.rp i off) x)(hi:m i=some r)(hy:R F β w (.s (.pointer none)) y)(ht:ptT P t=true)
 (h:(op=.eql/\d=.s (.bool false))\/(op=.neq/\d=.s (.bool true))):
 OpS P F m nx β w { pre:=pre,val:=d,rd:=rd } ((do eqGuard op t C J x y;binOp op t x y)>>=fun r=>Pure.pure (Next.value r)):=by
 obtain⟨p,hp,ax⟩:=hm.row i _ hi;obtain⟨a,rfl⟩:=hx.rp_ptr (fun e=>by rw[e] at hp;cases hp;exact ax.live rfl);obtain⟨rfl,_⟩:=hy.s_inv;rcases h with⟨rfl,rfl⟩|⟨rfl,rfl⟩
 .refine OpS.val hm (v:=.bool false) ?_ (.s _ rfl);simp only[Sem.run_bind,eqGuard_plain _ t C J (.pointer (some a)) _ oS oS,Result.andThen_ok,(run_eq_ptr ht a).1,Sem.run_pure]
 .refine OpS.val hm (v:=.bool true) ?_ (.s _ rfl);simp only[Sem.run_bind,eqGuard_plain _ t C J (.pointer (some a)) _ oS oS,Result.andThen_ok,(run_eq_ptr ht a).2,Sem.run_pure]
theorem ops_nil_sl(hm:MSim P F m β w)(t:TypeId)(C J:Operand){es:List D}{n:Nat}{x:Value}{pre:Prop}(hx:R F β w (.sl es n) x)(ht:slT P t=true):
 OpS P F m nx β w { pre:=pre,val:=if n=0 then .ub else .s (.bool false) } ((do eqGuard .eql t C J x (.slice none 0 0);binOp .eql t x (.slice none 0 0))>>=fun r=>Pure.pure (Next.value r)):=by
 have M:=fun a l c=>run_eq_nil (P:=P) (w:=w) ht a l c;cases hx with
 |sln a cap=>
  refine OpS.val hm (v:=.bool a.isNone) ?_ (by simpa using R.ub _);simp only[Sem.run_bind,eqGuard_plain _ t C J (.slice a 0 cap) _ oS oS,Result.andThen_ok,M,Sem.run_pure]
 |sl _ _ b o cap us h1 h2 h3 h4 h5 X h7=>
  refine OpS.val hm (v:=.bool false) ?_ ?_
  .simp only[Sem.run_bind,eqGuard_plain _ t C J (.slice (some ⟨b,o,none⟩) n cap) _ oS oS,Result.andThen_ok,M,Sem.run_pure];rfl
  .split
   .exact .ub _
   .exact .s _ rfl
theorem ops_unV(hm:MSim P F m β w)(op:UnOp){a x v:Value}{pre:Prop}(hx:R F β w (.s a) x)(h:unV op a=some v):
 OpS P F m nx β w { pre:=pre,val:=.s v } (do Pure.pure (Next.value (<- Op.unary op x))):=by
 obtain⟨rfl,_⟩:=hx.s_inv
 have:(Op.unary op x).run P w=.ok v w/\plain v=true:=by
  cases x<;>cases op<;>simp only[unV,aV,reduceCtorEq] at h<;>subst h<;>simp[Op.unary,Op.intArith,Op.intBits,intBitsV,plain]
 exact OpS.val hm (by simp[this.1]) (.s _ this.2)
theorem ops_conv_int(hm:MSim P F m β w)(src dst:TypeId){k C:IntKind}{n:Int}{x:Value}{pre:Prop}(hx:R F β w (.s (.int C n)) x)(hd:P.underlying dst=some (.int k))(hs:(P.underlying src).isSome=true):
 OpS P F m nx β w { pre:=pre,val:=.s (.int k (k.wrap n)) } (do Pure.pure (Next.value (<- convert src dst x))):=by
 obtain⟨rfl,_⟩:=hx.s_inv;obtain⟨d,hs⟩:=Option.isSome_iff_exists.1 hs;refine OpS.val hm (v:=.int k (k.wrap n)) ?_ (.s _ rfl);cases d<;>simp[convert,run_underlying hd,run_underlying hs,Conv.intToInt]
theorem cells_info{t:TypeId}(h:0<P.cellsOf t):(P.info? t).isSome=true:=by
 cases hi:P.info? t with
 |none=>simp[Program.cellsOf,hi] at h
 |some i=>rfl
theorem ops_fieldAddr_pt(hm:MSim P F m β w){t:TypeId}{cs:List D}{x:Value}{k off:Nat}{C:TypeId}{pre:Prop}(hx:R F β w (.pt cs) x)(hf:fieldP P t k=some (off,C))(h0:0<P.cellsOf C):
 OpS P F m nx β w { pre:=pre,val:=.pt (cs.drop off) } (do Pure.pure (Next.value (<- Instr.fieldAt t x k))):=by
 obtain⟨b,o,rfl,h1,h2,h3,J⟩:=hx.pt_inv;unfold fieldP at hf;split at hf
 .rename_i fs M;cases hk:fs[k]? with
  |none=>simp[hk] at hf
  |some f=>
   simp[hk] at hf;obtain⟨rfl,rfl⟩:=hf;refine OpS.val hm (v:=.pointer (some ⟨b,o+f.offset,none⟩)) ?_ (R.pt_mk h1 h2 h3 (J.drop _));simp[Instr.fieldAt,run_underlying M,hk,Instr.sureAddr,fieldPlace,run_sizeOf' w (cells_info h0),Nat.ne_of_gt h0,Addr.add_lit]
 .cases hf
end
section
variable{P:Program}{F:Nat->Prop}{m:Mem}{nx:Nat}{β:Pla}{w:World}
theorem R.rp_any{i off:Nat}{v:Value}(h:R F β w (.rp i off) v){r:Row}{p:Pl}(hp:β i=some p)(ax:RowR P F β w r p):
 ∃ b o len room sz,β i=some (.cells b o len room sz)/\v=.pointer (some ⟨b,o+off,none⟩):=by
 cases h with
 |rpd _ _ _ h _=>rw[h] at hp;cases hp;exact absurd rfl ax.live
 |rp _ _ b o len room sz h=>exact⟨b,o,len,room,sz,h,rfl⟩
theorem ops_fieldAddr_rp(hm:MSim P F m β w){t:TypeId}{i o:Nat}{x:Value}{k off:Nat}{C:TypeId}{pre:Prop}{rd:List Nat}{r:Row}(hx:R F β w (.rp i o) x)(hi:m i=some r)(hf:fieldP P t k=some (off,C))(h0:0<P.cellsOf C):
 OpS P F m nx β w { pre:=pre,val:=.rp i (o+off),rd:=rd } (do Pure.pure (Next.value (<- Instr.fieldAt t x k))):=by
 obtain⟨p,hp,ax⟩:=hm.row i _ hi;obtain⟨b,bo,len,room,sz,M,rfl⟩:=hx.rp_any hp ax;unfold fieldP at hf;split at hf
 .rename_i fs J;cases hk:fs[k]? with
  |none=>simp[hk] at hf
  |some f=>
   simp[hk] at hf;obtain⟨rfl,rfl⟩:=hf;refine OpS.val hm (v:=.pointer (some ⟨b,bo+(o+f.offset),none⟩)) ?_ (.rp i (o+f.offset) b bo len room sz M);simp[Instr.fieldAt,run_underlying J,hk,Instr.sureAddr,fieldPlace,run_sizeOf' w (cells_info h0),Nat.ne_of_gt h0,Addr.add_lit,Nat.add_assoc]
 .cases hf
theorem run_part{t:TypeId}(ht:tyOk P t=true){cs:List D}{vs:List Value}{off:Nat}(hl:vs.length=cs.length)(h:∀ (k:Nat) (d:D) (u:Value),cs[k]? =some d->vs[k]? =some u->R F β w d u)(X:off+P.cellsOf t<=cs.length):
 ∃ v,(part t vs.toArray off).run P w=.ok v w/\R F β w (takeV P t (cs.drop off)) v:=by
 obtain⟨i,d,z,hi,hd,M,J,_⟩:=tyOk_spec ht;unfold part takeV;simp only[Sem.run_bind,run_isAgg' w (tyOk_und ht),Result.andThen_ok];cases ha:aggP P t with
 |true=>
  refine⟨.agg ((vs.drop off).take (P.cellsOf t)).toArray,?_,?_⟩
  .simp[run_sizeOf' w (tyOk_info ht)]
  .refine .agg _ _ oP fun k d v hk hv=>?_;rw[List.getElem?_take] at hk hv;split at hk
   .rename_i ao;rw[if_pos ao] at hv;rw[List.getElem?_drop] at hk hv;exact h _ d v hk hv
   .cases hk
 |false=>
  have:=J ha;have ao:off<vs.length:=by omega
  refine⟨vs[off],by simp[ao],?_⟩;have C:off<cs.length:=by omega
  have e:(cs.drop off).headD .u=cs[off]:=by simp[List.headD_eq_head?_getD,List.head?_drop,C]
  simp only[Bool.false_eq_true,if_false,e];exact h off _ _ (by simp[C]) (by simp[ao])
theorem ops_field(hm:MSim P F m β w){t:TypeId}{cs:List D}{x:Value}{k off:Nat}{C:TypeId}{pre:Prop}(hx:R F β w (.agg cs) x)(hf:fieldP P t k=some (off,C))(ht:tyOk P C=true)(M:off+P.cellsOf C<=cs.length):
 OpS P F m nx β w { pre:=pre,val:=takeV P C (cs.drop off) } (do Pure.pure (Next.value (<- Instr.field t x k))):=by
 obtain⟨vs,rfl,hl,h⟩:=hx.agg_inv;obtain⟨v,hr,hR⟩:=run_part (P:=P) ht hl h M;unfold fieldP at hf;split at hf
 .rename_i fs J;cases hk:fs[k]? with
  |none=>simp[hk] at hf
  |some f=>
   simp[hk] at hf;obtain⟨rfl,rfl⟩:=hf;exact OpS.val hm (v:=v) (by simp[Instr.field,run_underlying J,hk,asAgg,hr]) hR
 .cases hf
theorem ops_extract(hm:MSim P F m β w){cs:List D}{x:Value}{k:Nat}{pre:Prop}(hx:R F β w (.tup cs) x)(hk:k<cs.length):
 OpS P F m nx β w { pre:=pre,val:=cs.getD k .u } (do Pure.pure (Next.value (<- Instr.extract x k))):=by
 obtain⟨vs,rfl,hl,h⟩:=hx.tup_inv;have C:k<vs.length:=by omega
 refine OpS.val hm (v:=vs[k]) (by simp[Instr.extract,C]) ?_;have e:cs.getD k .u=cs[k]:=by simp[bl,hk]
 rw[e];exact h k _ _ (by simp[hk]) (by simp[C])
theorem R.sl_inv{es:List D}{n:Nat}{v:Value}(h:R F β w (.sl es n) v):(es=[]/\n=0/\∃ a cap,v=.slice a 0 cap)\/
 ∃ b o cap,v=.slice (some ⟨b,o,none⟩) n cap/\n<=cap/\cap<=maxLen/\¬ F b/\β.free b/\b<w.heap.size/\Rd F β w b o es:=by
 cases h with
 |sln a cap=>exact .inl ⟨rfl,rfl,a,cap,rfl⟩
 |sl _ _ b o cap us h1 h2 h3 h4 h5 C J=>exact .inr ⟨b,o,cap,rfl,h4,h5,h1,h2,h3,us,C,J⟩
theorem ops_indexAddr_sl(hm:MSim P F m β w){t:TypeId}{es:List D}{n:Nat}{x y:Value}{X:IntKind}{k:Int}{pre:Prop}(hx:R F β w (.sl es n) x)(hy:R F β w (.s (.int X k)) y)(ht:slT P t=true)(h0:0<=k)(h1:k<n):
 OpS P F m nx β w { pre:=pre,val:=.pt (es.drop (k.toNat*P.cellsOf (elemP P t))) } (do Pure.pure (Next.value (<- Instr.indexAt t x y))):=by
 obtain⟨M,he⟩:=slT_spec ht;obtain⟨rfl,_⟩:=hy.s_inv;rcases hx.sl_inv with⟨_,rfl,_⟩|⟨b,o,cap,rfl,h2,h3,h4,h5,J,C⟩
 .omega
 .refine OpS.val hm (v:=.pointer (some ⟨b,o+k.toNat*P.cellsOf (elemP P t),none⟩)) ?_ (R.pt_mk h4 h5 J (C.drop _));simp[Instr.indexAt,asIntOf,run_underlying M,h0,h1,run_sizeOf' w (tyOk_info he),Addr.add_lit]
theorem R.rs_inv{i off n:Nat}{v:Value}(h:R F β w (.rs i off n) v){cs:List D}{e:TypeId}(hm:MSim P F m β w)(hi:m i=some (.cells cs e)):
 (cs=[]/\off=0/\n=0/\β i=some .nil/\∃ a,v=.slice a 0 0)\/
 ∃ b o room,β i=some (.cells b o cs.length room (P.cellsOf e))/\RowR P F β w (.cells cs e) (.cells b o cs.length room (P.cellsOf e))/\
  ((n=0/\∃ a,v=.slice a 0 0)\/∃ cap,v=.slice (some ⟨b,o+off,none⟩) n cap/\n<=cap/\cap<=maxLen/\cs.length<=off+cap*P.cellsOf e/\off+cap*P.cellsOf e<=room):=by
 obtain⟨p,hp,ax⟩:=hm.row i _ hi;cases h with
 |rsd _ _ _ _ h _=>rw[h] at hp;cases hp;cases ax
 |rsn _ a h=>
  rw[h] at hp;cases hp;cases ax;exact .inl ⟨rfl,rfl,rfl,h,a,rfl⟩
 |rsz _ _ a b o len room sz h=>
  rw[h] at hp;cases hp;obtain⟨_,h2,h3,_⟩:=ax.rd;subst h2;subst h3;exact .inr ⟨b,o,room,h,ax,.inl ⟨rfl,a,rfl⟩⟩
 |rs _ _ _ cap b o len room sz h hn fV h1 h2=>
  rw[h] at hp;cases hp;obtain⟨_,h3,h4,_⟩:=ax.rd;subst h3;subst h4;exact .inr ⟨b,o,room,h,ax,.inr ⟨cap,rfl,hn,fV,h1,h2⟩⟩
theorem R.rs_shape{i off n:Nat}{v:Value}(h:R F β w (.rs i off n) v)(hl:∃ p,β i=some p/\p≠ .dead):∃ a cap,v=.slice a n cap:=by
 cases h with
 |rsd _ _ _ _ h _=>obtain⟨p,h1,h2⟩:=hl;rw[h] at h1;cases h1;exact absurd rfl h2
 |rsn _ a h=>exact⟨a,0,rfl⟩
 |rsz _ _ a=>exact⟨a,0,rfl⟩
 |rs=>exact⟨_,_,rfl⟩
theorem row_live{r:Row}{p:Pl}(h:RowR P F β w r p):p≠ .dead:=h.live
theorem ops_indexAddr_rs(hm:MSim P F m β w){t:TypeId}{i off n:Nat}{x y:Value}{J:IntKind}{k:Int}{pre:Prop}{rd:List Nat}{r:Row}(hx:R F β w (.rs i off n) x)(hi:m i=some r)(hy:R F β w (.s (.int J k)) y)(ht:slT P t=true)(h0:0<=k)(h1:k<n):
 OpS P F m nx β w { pre:=pre,val:=.rp i (off+k.toNat*P.cellsOf (elemP P t)),rd:=rd } (do Pure.pure (Next.value (<- Instr.indexAt t x y))):=by
 obtain⟨C,he⟩:=slT_spec ht;obtain⟨rfl,_⟩:=hy.s_inv;obtain⟨p,hp,ax⟩:=hm.row i _ hi;cases hx with
 |rsd _ _ _ _ h _=>rw[h] at hp;cases hp;exact absurd rfl (row_live ax)
 |rsn _ a h=>omega
 |rsz _ _ a b o len room sz h=>omega
 |rs _ _ _ cap b o len room sz h hn fV M X=>
  refine OpS.val hm (v:=.pointer (some ⟨b,o+(off+k.toNat*P.cellsOf (elemP P t)),none⟩)) ?_ (.rp i _ b o len room sz h);simp[Instr.indexAt,asIntOf,run_underlying C,h0,h1,run_sizeOf' w (tyOk_info he),Addr.add_lit,Nat.add_assoc]
theorem ops_indexAddr_arr(hm:MSim P F m β w){t:TypeId}{i off:Nat}{x y:Value}{M:IntKind}{k:Int}{pre:Prop}{rd:List Nat}{r:Row}(hx:R F β w (.rp i off) x)(hi:m i=some r)(hy:R F β w (.s (.int M k)) y)(ht:arT P t=true)(h0:0<=k)(h1:k<lenP P t):
 OpS P F m nx β w { pre:=pre,val:=.rp i (off+k.toNat*P.cellsOf (elemP P t)),rd:=rd } (do Pure.pure (Next.value (<- Instr.indexAt t x y))):=by
 obtain⟨C,he⟩:=arT_spec ht;obtain⟨rfl,_⟩:=hy.s_inv;obtain⟨p,hp,ax⟩:=hm.row i _ hi;obtain⟨b,bo,len,room,sz,J,rfl⟩:=hx.rp_any hp ax;refine OpS.val hm (v:=.pointer (some ⟨b,bo+(off+k.toNat*P.cellsOf (elemP P t)),none⟩)) ?_ (.rp i _ b bo len room sz J);simp[Instr.indexAt,asIntOf,run_underlying C,h0,h1,run_sizeOf' w (tyOk_info he),Addr.add_lit,Nat.add_assoc,Instr.sureAddr]
theorem ops_index_str(hm:MSim P F m β w){t:TypeId}{b:ByteArray}{x y:Value}{M:IntKind}{k:Int}{pre:Prop}(hx:R F β w (.s (.string b)) x)(hy:R F β w (.s (.int M k)) y)(ht:stT P t=true)(h0:0<=k)(h1:k<b.size):
 OpS P F m nx β w { pre:=pre,val:=.s (.int .u8 (b.data.toList.getD k.toNat 0).toNat) } (do Pure.pure (Next.value (<- Instr.index t x y))):=by
 have C:=stT_spec ht;obtain⟨rfl,_⟩:=hy.s_inv;obtain⟨rfl,_⟩:=hx.s_inv;have hk:k.toNat<b.size:=by omega
 have J:k.toNat<b.data.size:=hk;refine OpS.val hm (v:=.int .u8 (b.data.toList.getD k.toNat 0).toNat) ?_ (.s _ rfl)
 have e:b[k.toNat]? =some (b.data.toList.getD k.toNat 0):=by
  have e1:b[k.toNat]? =some b[k.toNat]:=getElem?_pos b k.toNat hk;rw[e1];congr 1;show b.data[k.toNat]=_;rw[bl,Array.getElem?_toList,Array.getElem?_eq_getElem J];rfl
 simp only[Instr.index,Sem.run_bind,asIntOf,Sem.run_pure,Result.andThen_ok,run_underlying C,h0,if_true,e]
theorem ops_index_agg(hm:MSim P F m β w){t:TypeId}{cs:List D}{x y:Value}{J:IntKind}{k:Int}{pre:Prop}(hx:R F β w (.agg cs) x)(hy:R F β w (.s (.int J k)) y)(ht:arT P t=true)(h0:0<=k)(h1:k<lenP P t)
 (jX:(k.toNat+1)*P.cellsOf (elemP P t)<=cs.length):
 OpS P F m nx β w { pre:=pre,val:=takeV P (elemP P t) (cs.drop (k.toNat*P.cellsOf (elemP P t))) } (do Pure.pure (Next.value (<- Instr.index t x y))):=by
 obtain⟨C,he⟩:=arT_spec ht;obtain⟨rfl,_⟩:=hy.s_inv;obtain⟨vs,rfl,hl,h⟩:=hx.agg_inv;obtain⟨v,hr,hR⟩:=run_part (P:=P) he hl h (off:=k.toNat*P.cellsOf (elemP P t)) (by rw[Nat.add_mul] at jX;omega);exact OpS.val hm (v:=v) (by simp[Instr.index,asIntOf,run_underlying C,h0,h1,run_sizeOf' w (tyOk_info he),hr]) hR
theorem ops_makeFunc(hm:MSim P F m β w)(f:Fn){fs cs:List D}{us vs:List Value}{pre:Prop}(hl:us.length=fs.length)(jX:vs.length=cs.length)(h:∀ (k:Nat) (d:D) (v:Value),fs[k]? =some d->us[k]? =some v->R F β w d v)
 (h':∀ (k:Nat) (d:D) (v:Value),cs[k]? =some d->vs[k]? =some v->R F β w d v):
 OpS P F m nx β w { pre:=pre,val:=.fn f fs cs } (do Pure.pure (Next.value (<- Instr.makeFunc f us.toArray vs.toArray))):=
 OpS.val hm (v:=.func f us.toArray vs.toArray) (by simp[Instr.makeFunc]) (.fn f fs cs us vs hl jX h h')
theorem sliceBound_run(b:Int)(C:IntKind)(y:Nat)(code:BoundsCode)(h0:0<=b)(h1:b<=y):(Instr.sliceBound (.int C b) y code).run P w=.ok b.toNat w:=by
 simp[Instr.sliceBound,asIntOf,h0,h1]
theorem slice2_run(isSlice:Bool)(len cap:Nat){lo hi:Option Value}{l h:Int}(M:(lo=none/\l=0)\/∃ C,lo=some (.int C l))(J:(hi=none/\h=len)\/∃ C,hi=some (.int C h))(h0:0<=l)(h1:l<=h)(h2:h<=cap):
 (Instr.sliceBounds isSlice len cap lo hi none).run P w=.ok (l.toNat,h.toNat,cap) w:=by
 unfold Instr.sliceBounds;simp only[Sem.run_bind,Sem.run_pure,Result.andThen_ok];rcases J with⟨rfl,rfl⟩|⟨C,rfl⟩<;>rcases M with⟨rfl,rfl⟩|⟨kl,rfl⟩
 .simp
 .simp[sliceBound_run (P:=P) (w:=w) l kl len _ h0 oG]
 .simp[sliceBound_run (P:=P) (w:=w) h C cap _ oG oG]
 .have:=sliceBound_run (P:=P) (w:=w) h C cap (if isSlice then .sliceAcap else .sliceAlen) oG oG;simp[this,sliceBound_run (P:=P) (w:=w) l kl h.toNat _ h0 oG]
theorem slice3_run(len cap:Nat){lo:Option Value}{kh km:IntKind}{l h k:Int}(M:(lo=none/\l=0)\/∃ C,lo=some (.int C l))(h0:0<=l)(h1:l<=h)(h2:h<=k)(h3:k<=cap):
 (Instr.sliceBounds true len cap lo (some (.int kh h)) (some (.int km k))).run P w=.ok (l.toNat,h.toNat,k.toNat) w:=by
 unfold Instr.sliceBounds;have e1:=sliceBound_run (P:=P) (w:=w) k km cap .slice3Acap oG h3;have e2:=sliceBound_run (P:=P) (w:=w) h kh k.toNat .slice3B oG oG;simp only[Sem.run_bind,e1,e2,Result.andThen_ok,if_true];rcases M with⟨rfl,rfl⟩|⟨J,rfl⟩
 .simp
 .simp[sliceBound_run (P:=P) (w:=w) l J h.toNat _ h0 oG]
theorem D.int_inv{d:D}{b:Int}(h:d.int? =some b):∃ C,d=.s (.int C b):=by
 unfold D.int? at h;split at h
 .cases h;exact⟨_,rfl⟩
 .cases h
def Ro(F:Nat->Prop)(β:Pla)(w:World)(d:Option D)(v:Option Value):Prop:=
 (d=none/\v=none)\/∃ q u,d=some q/\v=some u/\R F β w q u
theorem Ro.bnd{d:Option D}{v:Option Value}{C b:Int}(h:Ro F β w d v)(hb:bndD d C=some b):(v=none/\b=C/\d=none)\/∃ J,v=some (.int J b)/\d.isSome=true:=by
 rcases h with⟨rfl,rfl⟩|⟨q,u,rfl,rfl,hR⟩
 .simp[bndD] at hb;exact .inl ⟨rfl,hb.symm,rfl⟩
 .simp only[bndD] at hb;obtain⟨J,rfl⟩:=D.int_inv hb;obtain⟨rfl,_⟩:=hR.s_inv;exact .inr ⟨_,rfl,rfl⟩
theorem sliceAt_slice{t e:TypeId}(J:P.underlying t=some (.slice e))(v:Value)(lo hi C:Option Value):(Instr.sliceAt t v lo hi C).run P w=(Instr.slice t v lo hi C).run P w:=by
 simp[Instr.sliceAt,run_underlying J]
theorem sl_slice{es:List D}{n l h sz:Nat}{a:Option Addr}{b o cap m':Nat}(h1:¬ F b)(h2:β.free b)(h3:b<w.heap.size)(C:Rd F β w b o es)(X:l<=h)(hn:h<=n)(hm:h<=m')(sD:m'<=cap)(fV:cap<=maxLen)
 (ha:a=(if m'=l then some ⟨b,o,none⟩ else some ⟨b,o+l*sz,none⟩)):R F β w (.sl ((es.drop (l*sz)).take ((h - l)*sz)) (h - l)) (.slice a (h - l) (m' - l)):=by
 subst ha;by_cases om:m'=l
 .have:h=l:=by omega
  subst this;simp only[Nat.sub_self,Nat.zero_mul,List.take_zero];exact .sln _ _
 .rw[if_neg om];obtain⟨us,J,M⟩:=(C.drop (l*sz)).take ((h - l)*sz);exact .sl _ _ _ _ _ us h1 h2 h3 oG oG J M
theorem ops_slice(hm:MSim P F m β w){t:TypeId}{x:D}{v:Value}{lo hi mx:Option D}{zA xL XV:Option Value}{e:Eff}(hx:R F β w x v)(np:Ro F β w lo zA)(C':Ro F β w hi xL)(zB:Ro F β w mx XV)
 (hs:sliceD P m t x lo hi mx=some e) (hp:e.pre):e.ups=[]/\e.new=0/\OpS P F m nx β w e (do Pure.pure (Next.value (<- Instr.sliceAt t v zA xL XV))):=by
 cases x with
 |sl es n=>
  simp only[sliceD] at hs;cases M:bndD lo 0 with
  |none=>simp[M] at hs
  |some l=>
  cases X:bndD hi n with
  |none=>simp[M,X] at hs
  |some h=>
  have vn:(zA=none/\l=0)\/∃ C,zA=some (.int C l):=by
   rcases np.bnd M with⟨a,b,_⟩|⟨C,a,_⟩
   .exact .inl ⟨a,b⟩
   .exact .inr ⟨C,a⟩
  rcases zB with⟨rfl,rfl⟩|⟨q,u,rfl,rfl,hq⟩
  .simp only[M,X,aV] at hs;subst hs;obtain⟨ht,h0,h1,h2⟩:=hp;obtain⟨J,he⟩:=slT_spec ht
   have za:(xL=none/\h=(n:Int))\/∃ C,xL=some (.int C h):=by
    rcases C'.bnd X with⟨a,b,_⟩|⟨C,a,_⟩
    .exact .inl ⟨a,b⟩
    .exact .inr ⟨C,a⟩
   refine⟨rfl,rfl,?_⟩;rcases hx.sl_inv with⟨rfl,rfl,a,cap,rfl⟩|⟨b,o,cap,rfl,g1,g2,g3,g4,g5,dK⟩
   .have hb:=slice2_run (P:=P) (w:=w) true 0 cap vn (by simpa using za) h0 h1 oG;have rH:l=0:=by omega
    have A4:h=0:=by omega
    subst rH;subst A4;refine OpS.val hm (v:=.slice (if cap=0 then a else a.map (·.add (0*P.cellsOf (elemP P t)))) 0 cap) ?_ (by simpa using R.sln _ _);simp[sliceAt_slice J,Instr.slice,run_underlying J,hb,run_sizeOf' w (tyOk_info he)]
   .have hb:=slice2_run (P:=P) (w:=w) true n cap vn za h0 h1 oG;refine OpS.val hm (v:=.slice (if cap=l.toNat then some ⟨b,o,none⟩ else some ⟨b,o+l.toNat*P.cellsOf (elemP P t),none⟩) (h.toNat - l.toNat) (cap - l.toNat)) ?_ ?_
    .simp[sliceAt_slice J,Instr.slice,run_underlying J,hb,run_sizeOf' w (tyOk_info he),Addr.add_lit]
    .have:=sl_slice (F:=F) (β:=β) (w:=w) (es:=es) (n:=n) (l:=l.toNat) (h:=h.toNat) (sz:=P.cellsOf (elemP P t)) (cap:=cap) (m':=cap) g3 g4 g5 dK oG oG oG (bF _) g2 rfl;rw[show(h - l).toNat=h.toNat - l.toNat from by omega];exact this
  .simp only[M,X] at hs;cases nq:q.int? with
   |none=>simp[nq] at hs
   |some k=>
   simp only[nq,aV] at hs;subst hs;obtain⟨ht,HR,h0,h1,h2,h3⟩:=hp;obtain⟨J,he⟩:=slT_spec ht;obtain⟨km,rfl⟩:=D.int_inv nq;obtain⟨rfl,_⟩:=hq.s_inv
   obtain⟨kh,rfl⟩:∃ C,xL=some (.int C h):=by
    rcases C'.bnd X with⟨_,_,c⟩|⟨C,a,_⟩
    .rw[c] at HR;cases HR
    .exact⟨C,a⟩
   refine⟨rfl,rfl,?_⟩;rcases hx.sl_inv with⟨rfl,rfl,a,cap,rfl⟩|⟨b,o,cap,rfl,g1,g2,g3,g4,g5,dK⟩
   .have hb:=slice3_run (P:=P) (w:=w) 0 cap (kh:=kh) (km:=km) vn h0 h1 h2 oG;have rH:l=0:=by omega
    have A4:h=0:=by omega
    have dT:k=0:=by omega
    subst rH;subst A4;subst dT;refine OpS.val hm (v:=.slice a 0 0) ?_ (by simpa using R.sln _ _);simp[sliceAt_slice J,Instr.slice,run_underlying J,hb,run_sizeOf' w (tyOk_info he)]
   .have hb:=slice3_run (P:=P) (w:=w) n cap (kh:=kh) (km:=km) vn h0 h1 h2 oG;refine OpS.val hm (v:=.slice (if k.toNat=l.toNat then some ⟨b,o,none⟩ else some ⟨b,o+l.toNat*P.cellsOf (elemP P t),none⟩) (h.toNat - l.toNat) (k.toNat - l.toNat)) ?_ ?_
    .simp[sliceAt_slice J,Instr.slice,run_underlying J,hb,run_sizeOf' w (tyOk_info he),Addr.add_lit]
    .have:=sl_slice (F:=F) (β:=β) (w:=w) (es:=es) (n:=n) (l:=l.toNat) (h:=h.toNat) (sz:=P.cellsOf (elemP P t)) (cap:=cap) (m':=k.toNat) g3 g4 g5 dK oG oG oG oG g2 rfl;rw[show(h - l).toNat=h.toNat - l.toNat from by omega];exact this
 |rs i off n=>
  simp only[sliceD] at hs;cases eE:m i with
  |none=>simp[eE] at hs
  |some r=>
  cases r with
  |map es=>simp[eE] at hs
  |raw es=>simp[eE] at hs
  |ren f r=>simp[eE] at hs
  |cells cs ee=>
  cases M:bndD lo 0 with
  |none=>simp[eE,M] at hs
  |some l=>
  cases X:bndD hi n with
  |none=>simp[eE,M,X] at hs
  |some h=>
  rcases zB with⟨rfl,rfl⟩|⟨q,u,rfl,rfl,hq⟩
  .simp only[eE,M,X,aV] at hs;subst hs;obtain⟨⟨ht,cE⟩,h0,h1,h2⟩:=hp;obtain⟨J,he⟩:=slT_spec ht
   have vn:(zA=none/\l=0)\/∃ C,zA=some (.int C l):=by
    rcases np.bnd M with⟨a,b,_⟩|⟨C,a,_⟩
    .exact .inl ⟨a,b⟩
    .exact .inr ⟨C,a⟩
   have za:(xL=none/\h=(n:Int))\/∃ C,xL=some (.int C h):=by
    rcases C'.bnd X with⟨a,b,_⟩|⟨C,a,_⟩
    .exact .inl ⟨a,b⟩
    .exact .inr ⟨C,a⟩
   refine⟨rfl,rfl,?_⟩;rcases hx.rs_inv hm eE with⟨_,rfl,rfl,kQ,a,rfl⟩|⟨b,o,room,hβ,ax,nU⟩
   .have hb:=slice2_run (P:=P) (w:=w) true 0 0 vn (by simpa using za) h0 h1 oG;have rH:l=0:=by omega
    have A4:h=0:=by omega
    subst rH;subst A4;refine OpS.val hm (v:=.slice a 0 0) ?_ (by simpa using R.rsn i a kQ);simp[sliceAt_slice J,Instr.slice,run_underlying J,hb,run_sizeOf' w (tyOk_info he)]
   .rcases nU with⟨rfl,a,rfl⟩|⟨cap,rfl,g1,g2,g3,g4⟩
    .have hb:=slice2_run (P:=P) (w:=w) true 0 0 vn (by simpa using za) h0 h1 oG;have rH:l=0:=by omega
     have A4:h=0:=by omega
     subst rH;subst A4;refine OpS.val hm (v:=.slice a 0 0) ?_ (by simpa using R.rsz i off a b o _ room _ hβ);simp[sliceAt_slice J,Instr.slice,run_underlying J,hb,run_sizeOf' w (tyOk_info he)]
    .have hb:=slice2_run (P:=P) (w:=w) true n cap vn za h0 h1 oG;refine OpS.val hm (v:=.slice (if cap=l.toNat then some ⟨b,o+off,none⟩ else some ⟨b,o+off+l.toNat*P.cellsOf (elemP P t),none⟩) (h.toNat - l.toNat) (cap - l.toNat)) ?_ ?_
     .simp[sliceAt_slice J,Instr.slice,run_underlying J,hb,run_sizeOf' w (tyOk_info he),Addr.add_lit]
     .rw[show(h - l).toNat=h.toNat - l.toNat from by omega];by_cases cJ:cap=l.toNat
      .have:h.toNat=l.toNat:=by omega
       rw[this,cJ,Nat.sub_self];exact .rsz i _ _ b o _ room _ hβ
      .rw[if_neg cJ,Nat.add_assoc];have hmul:(cap - l.toNat)*P.cellsOf ee+l.toNat*P.cellsOf ee=cap*P.cellsOf ee:=by rw[<- Nat.add_mul];congr 1;omega
       exact .rs i _ _ _ b o _ room _ hβ oG oG (by rw[<- cE];omega) (by rw[<- cE];omega)
  .simp only[eE,M,X,reduceCtorEq] at hs
 |s x=>
  cases x with
  |string b=>
   simp only[sliceD] at hs;cases M:bndD lo 0 with
   |none=>simp[M] at hs
   |some l=>
   cases X:bndD hi b.size with
   |none=>simp[M,X] at hs
   |some h=>
   rcases zB with⟨rfl,rfl⟩|⟨q,u,rfl,rfl,hq⟩
   .simp only[M,X,aV] at hs;subst hs;obtain⟨ht,h0,h1,h2⟩:=hp;have J:=stT_spec ht;obtain⟨rfl,_⟩:=hx.s_inv
    have vn:(zA=none/\l=0)\/∃ C,zA=some (.int C l):=by
     rcases np.bnd M with⟨a,b,_⟩|⟨C,a,_⟩
     .exact .inl ⟨a,b⟩
     .exact .inr ⟨C,a⟩
    have za:(xL=none/\h=(b.size:Int))\/∃ C,xL=some (.int C h):=by
     rcases C'.bnd X with⟨a,b,_⟩|⟨C,a,_⟩
     .exact .inl ⟨a,b⟩
     .exact .inr ⟨C,a⟩
    have hb:=slice2_run (P:=P) (w:=w) false b.size b.size vn za h0 h1 oG;refine⟨rfl,rfl,OpS.val hm (v:=.string (b.extract l.toNat h.toNat)) ?_ (.s _ rfl)⟩;simp[Instr.sliceAt,Instr.slice,run_underlying J,hb]
   .simp only[M,X,reduceCtorEq] at hs
  |_=>simp[sliceD] at hs
 |_=>simp[sliceD] at hs
end
section
variable{P:Program}{F:Nat->Prop}{m:Mem}{nx:Nat}{β:Pla}{w w':World}
theorem step_ext(hs:w.heap.size<=w'.heap.size)(h:∀ b,b<w.heap.size->w'.heap[b]? =w.heap[b]?)(C:Out w w':=by first|exact⟨rfl,rfl⟩|assumption):Step β w β w':=
 ⟨hs,fun b hb hf=>⟨h b hb,hf⟩,fun _ _ hp=>.inl hp,C⟩
theorem MSim.ext(hm:MSim P F m β w)(hs:w.heap.size<=w'.heap.size)(h:∀ b,b<w.heap.size->w'.heap[b]? =w.heap[b]?)(C:Out w w':=by first|exact⟨rfl,rfl⟩|assumption):MSim P F m β w':=
 ⟨fun i r hi=>by
  obtain⟨p,hp,ax⟩:=hm.row i r hi;exact⟨p,hp,ax.step (step_ext hs h) fun b hb=>h b (hm.lt i p b hp hb)⟩,
  hm.inj,fun i p b hp hb=>Nat.lt_of_lt_of_le (hm.lt i p b hp hb) hs,hm.nf,fun b hb=>Nat.lt_of_lt_of_le (hm.fb b hb) hs⟩
theorem MSim.drew(hm:MSim P F m β w):MSim P F m β w.drew:=hm.ext (bF _) (fun _ _=>rfl)
theorem step_drew:Step β w β w.drew:=step_ext (bF _) (fun _ _=>rfl)
theorem ops_bytes(hm:MSim P F m β w){src dst e:TypeId}{b:ByteArray}{x:Value}{pre:Prop}(hx:R F β w (.s (.string b)) x)(hs:stT P src=true)(hd:P.underlying dst=some (.slice e))(he:P.underlying e=some (.int .u8))(fV:b.size<=maxLen):
 OpS P F m nx β w { pre:=pre,val:=.sl (b.data.toList.map fun c=>.s (.int .u8 c.toNat)) b.size } (do Pure.pure (Next.value (<- convert src dst x))):=by
 obtain⟨rfl,_⟩:=hx.s_inv;have hu:=stT_spec hs;generalize sD:(Question.appendCap b.size 0 e).cut (w.tape w.drawn (.appendCap b.size 0 e))=cap
 have J:b.size<=cap/\cap<=maxLen:=by
  have h1:=grownCap_ge w b.size 0 e;have h2:=grownCap_le_maxLen w b.size 0 e fV;unfold grownCap at h1 h2;rw[sD] at h1 h2;exact⟨h1,h2⟩
 generalize hc:b.data.map (fun c=>Value.int .u8 c.toNat)++Array.replicate (cap - b.size) (Value.int .u8 0)=cells
 have X:(convert src dst (.string b)).run P w=.ok (.slice (some ⟨w.heap.size,0,none⟩) b.size cap) ((w.drew.alloc (.cells cells e)).freeze ⟨w.heap.size,cells.size,none⟩ 1):=by
  simp only[convert,Sem.run_bind,run_underlying hu,run_underlying hd,run_underlying he,Result.andThen_ok];unfold Conv.stringToBytes;simp only[Sem.run_bind,run_choose,Question.forced,Bool.false_eq_true,if_false,Result.andThen_ok,sD,hc];simp only[newRow,Sem.run_bind,run_newObj,Result.andThen_ok,Sem.run_pure,markStringish];simp[World.shape?,freeze,Sem.run];rfl
 have HQ:((w.drew.alloc (.cells cells e)).freeze ⟨w.heap.size,cells.size,none⟩ 1).heap.size=w.heap.size+1:=by simp[World.freeze]
 have hold:∀ k,k<w.heap.size->((w.drew.alloc (.cells cells e)).freeze ⟨w.heap.size,cells.size,none⟩ 1).heap[k]? =w.heap[k]? :=fun k hk=>by
  simp only[World.freeze,Nat.one_ne_zero,if_false,Array.getElem?_modify,if_neg (show ¬ w.heap.size=k by omega)];exact heap_alloc_old w.drew _ hk
 have M:∀ k:Nat,((w.drew.alloc (.cells cells e)).freeze ⟨w.heap.size,cells.size,none⟩ 1).cell? ⟨w.heap.size,k,none⟩=cells[k]? :=fun k=>by
  have:=heap_alloc_new w.drew (.cells cells e);simp only[World.size_drew] at this;simp only[World.cell?,World.freeze,Nat.one_ne_zero,if_false,Array.getElem?_modify,if_true,this,Option.map_some,Option.isSome_none,Bool.false_eq_true]
 refine⟨_,_,_,β,by simp only[Sem.run_bind,X,Result.andThen_ok,Sem.run_pure];rfl,.inl rfl,?_,hm.ext oG hold,step_ext oG hold,fun _ h _=>h⟩;have hlen:b.data.toList.length=b.size:=by simp
 refine .sl _ _ _ _ _ (fun k=>.int .u8 (b.data.toList.getD k 0).toNat) (fun hF=>?_) (fun i p hp e=>?_) oG J.1 J.2 (fun k hk=>?_) (fun k d hk=>?_)
 .have:=hm.fb _ hF;omega
 .have:=hm.lt i p _ hp e;omega
 .rw[Nat.zero_add,M];simp at hk;refine⟨?_,rfl⟩;rw[<- hc,Array.getElem?_append_left (by simpa using hk)];simp[hk]
 .rw[List.getElem?_map] at hk;cases C:b.data.toList[k]? with
  |none=>simp[C] at hk
  |some c=>
   simp[C] at hk;subst hk;have:b.data.toList.getD k 0=c:=by simp only[bl,C,Option.getD_some]
   simp only[this];exact .s _ rfl
theorem ops_len(hm:MSim P F m β w){ts:Array TypeId}{d:D}{x:Value}{e:Eff}{ty:TypeId}(M:ts.size≠0)(hx:R F β w d x)(h:lenD P m (ts.getD 0 0) d=some e)(hp:e.pre):
 e.ups=[]/\e.new=0/\OpS P F m nx β w e (do Pure.pure (Next.value (<- Builtin.len_ ts ty #[x]))):=by
 obtain⟨t,C⟩:∃ t,ts[0]? =some t:=⟨ts[0]'oG,oS⟩
 have ht:ts.getD 0 0=t:=by simp[Array.getD_eq_getD_getElem?,C]
 rw[ht] at h
 have sl:∀ {a:Option Addr} {k c:Nat},slT P t=true->x=.slice a k c->(Builtin.len_ ts ty #[x]).run P w=.ok (.int .i64 k) w:=by
  rintro a k c hs rfl;simp[Builtin.len_,C,run_underlying (slT_spec hs).1,goInt]
 cases d with
 |sl es n=>
  simp only[lenD,aV] at h;subst h;refine⟨rfl,rfl,OpS.val hm (v:=.int .i64 n) ?_ (.s _ rfl)⟩;rcases hx.sl_inv with⟨_,rfl,a,cap,hv⟩|⟨b,o,cap,hv,_⟩<;>simp only[Sem.run_bind,sl hp hv,Result.andThen_ok,Sem.run_pure]
 |z=>
  simp only[lenD,aV] at h;subst h;refine⟨rfl,rfl,OpS.val hm (v:=.int .i64 0) ?_ (.s _ rfl)⟩;obtain⟨a,hv⟩:=hx.z_inv;simp only[Sem.run_bind,sl hp hv,Result.andThen_ok,Sem.run_pure];rfl
 |rs i off n=>
  simp only[lenD] at h;cases hi:m i with
  |none=>simp[hi] at h
  |some r=>
  simp only[hi,aV] at h;subst h;obtain⟨p,J,ax⟩:=hm.row i _ hi;obtain⟨a,cap,hv⟩:=hx.rs_shape ⟨p,J,row_live ax⟩;refine⟨rfl,rfl,OpS.val hm (v:=.int .i64 n) ?_ (.s _ rfl)⟩;simp only[Sem.run_bind,sl hp hv,Result.andThen_ok,Sem.run_pure]
 |agg cs=>
  simp only[lenD,aV] at h;subst h;refine⟨rfl,rfl,OpS.val hm (v:=.int .i64 (lenP P t)) ?_ (.s _ rfl)⟩;simp[Builtin.len_,C,run_underlying (arT_spec hp).1,goInt]
 |s v=>
  cases v with
  |string b=>
   simp only[lenD,aV] at h;subst h;obtain⟨rfl,_⟩:=hx.s_inv;refine⟨rfl,rfl,OpS.val hm (v:=.int .i64 b.size) ?_ (.s _ rfl)⟩;simp[Builtin.len_,C,run_underlying (stT_spec hp),goInt]
  |_=>simp[lenD] at h
 |_=>simp[lenD] at h
theorem ops_min(hm:MSim P F m β w){ts:Array TypeId}{ty:TypeId}{k:IntKind}{a b:Int}{x y:Value}{pre:Prop}(hx:R F β w (.s (.int k a)) x)(hy:R F β w (.s (.int k b)) y):
 OpS P F m nx β w { pre:=pre,val:=.s (.int k (if b<a then b else a)) } (do Pure.pure (Next.value (<- Builtin.min_ ts ty #[x,y]))):=by
 obtain⟨rfl,_⟩:=hx.s_inv;obtain⟨rfl,_⟩:=hy.s_inv;exact OpS.val hm (v:=.int k (if b<a then b else a)) (by simp[Builtin.min_,Builtin.min2]) (.s _ rfl)
theorem ops_clear(hm:MSim P F m β w){ts:Array TypeId}{ty:TypeId}{i off n:Nat}{x:Value}{cs:List D}{e:TypeId}{pre:Prop}{rd:List Nat}(my:ts.size≠0)(hx:R F β w (.rs i off n) x)(hi:m i=some (.cells cs e))(ht:slT P (ts.getD 0 0)=true)
 (hl:off+n*P.cellsOf e<=cs.length) (he:e=elemP P (ts.getD 0 0)):
 OpS P F m nx β w { pre:=pre,val:=.tup [],ups:=[(i,some (.cells (splice cs off (replD n (zeroP P e))) e))],rd:=rd } (do Pure.pure (Next.value (<- Builtin.clear_ ts ty #[x]))):=by
 obtain⟨t,X⟩:∃ t,ts[0]? =some t:=⟨ts[0]'oG,oS⟩
 have xM:ts.getD 0 0=t:=by simp[Array.getD_eq_getD_getElem?,X]
 rw[xM] at ht he;obtain⟨C,bZ⟩:=slT_spec ht;rw[<- he] at C bZ;obtain⟨z,hz,J,h3,h4⟩:=run_zeroValue' (P:=P) w bZ;have A6:(zeroP P e).length=P.cellsOf e:=by rw[h3];simp[J]
 have self:splice cs off (replD 0 (zeroP P e))=cs:=by
  rw[splice_eq (by simp[replD];omega)];simp[replD]
 have HL:up m i (some (.cells cs e))=m:=by
  funext j;by_cases hj:j=i
  .subst hj;rw[up_same,hi]
  .rw[up_ne _ _ hj]
 have zero:n=0->(∃ a c,x=.slice a 0 c)->OpS P F m nx β w { pre:=pre,val:=.tup [],ups:=[(i,some (.cells (splice cs off (replD n (zeroP P e))) e))],rd:=rd } (do Pure.pure (Next.value (<- Builtin.clear_ ts ty #[x]))):=by
  rintro rfl ⟨a,c,rfl⟩;refine⟨.value (.tuple #[]),.tuple #[],w,β,?_,.inl rfl,.tup [] [] rfl oS,?_,Step.refl β w,fun _ h _=>h⟩
  .cases a<;>simp[Builtin.clear_,X,run_underlying C]
  .simp only[upds,self,HL];exact hm
 rcases hx.rs_inv hm hi with⟨_,rfl,rfl,kQ,a,rfl⟩|⟨b,o,room,hβ,ax,nU⟩
 .exact zero rfl ⟨a,0,rfl⟩
 .rcases nU with⟨rfl,a,rfl⟩|⟨cap,rfl,g1,g2,g3,g4⟩
  .exact zero rfl ⟨a,0,rfl⟩
  .cases n with
   |zero=>exact zero rfl ⟨_,cap,rfl⟩
   |succ n=>
    have M:=zeros_R (F:=F) (β:=β) (w:=w) (P:=P) J h3 h4 (n+1) ((n+1)*P.cellsOf e) rfl z.cells (fun _=>rfl)
    obtain⟨w',aF,jd,hs⟩:=write_cells (P:=P) hm hβ ax (off:=off) (ds:=replD (n+1) (zeroP P e)) (vs:=(Builtin.zeroCells z.cells (n+1)).toList) (by
     have:=M.1
     simpa[Builtin.zeroCells,J] using this) (by rw[repl_length,A6];exact hl) (fun u C=>by
     have h5:(Builtin.zeroCells z.cells (n+1)).toList=((Array.range ((n+1)*P.cellsOf e)).map (z.cells[· % z.cells.size]!)).toList:=by simp[Builtin.zeroCells,J]
     rw[h5] at C;obtain⟨k,hk⟩:=cC C;have ao:=(bw.1 hk).1;have:k<(replD (n+1) (zeroP P e)).length:=by rw[<- M.1];exact ao
     exact(M.2 k _ u (by simp[this];rfl) hk).2) (fun k d u hk C=>by
     have h5:(Builtin.zeroCells z.cells (n+1)).toList=((Array.range ((n+1)*P.cellsOf e)).map (z.cells[· % z.cells.size]!)).toList:=by simp[Builtin.zeroCells,J]
     rw[h5] at C
     exact(M.2 k d u hk C).1)
    refine⟨.value (.tuple #[]),.tuple #[],w',β,?_,.inl rfl,.tup [] [] rfl oS,jd,hs,fun _ h _=>h⟩;simp[Builtin.clear_,X,run_underlying C,hz,aF]
theorem ops_nilCheck_pt(hm:MSim P F m β w){cs:List D}{x:Value}{pre:Prop}(hx:R F β w (.pt cs) x):∃ a,x=.pointer (some a)/\OpS P F m nx β w { pre:=pre,val:=.pt cs } (Pure.pure (Next.value x)):=by
 obtain⟨b,o,rfl,_⟩:=hx.pt_inv;exact⟨_,rfl,OpS.val hm rfl hx⟩
theorem ops_nilCheck_rp(hm:MSim P F m β w){i off:Nat}{x:Value}{pre:Prop}{rd:List Nat}{r:Row}(hx:R F β w (.rp i off) x)(hi:m i=some r):∃ a,x=.pointer (some a)/\OpS P F m nx β w { pre:=pre,val:=.rp i off,rd:=rd } (Pure.pure (Next.value x)):=by
 obtain⟨p,hp,ax⟩:=hm.row i _ hi;obtain⟨b,bo,len,room,sz,C,rfl⟩:=hx.rp_any hp ax;exact⟨_,rfl,OpS.val hm rfl hx⟩
theorem ops_makeMap(hm:MSim P F m β w)(hn:β nx=none){t:TypeId}{pre:Prop}:
 OpS P F m nx β w { pre:=pre,val:=.mp nx,ups:=[(nx,some (.map []))],new:=1 } (do Pure.pure (Next.value (<- Instr.makeMap t none))):=by
 have hp:∀ b,(Pl.map w.heap.size).blk=some b->b=w.heap.size:=fun b hb=>by simp[Pl.blk] at hb;exact hb.symm
 refine⟨.value (.map (some w.heap.size)),_,w.alloc (.map #[] 0),up β nx (some (.map w.heap.size)),?_,.inl rfl,.mp nx _ (up_same _ _ _),hm.alloc hn _ _ _ hp ?_,step_alloc hm _ hn _ hp,fresh_up⟩
 .simp[Instr.makeMap]
 .exact .map [] w.heap.size #[] 0 (heap_alloc_new w _) rfl oS oS
theorem ops_pick(hm:MSim P F m β w){t:Bool}{vc M X:Value}{C J:D}{pre:Prop}(hc:vc=.bool t)(ha:R F β w C M)(hb:R F β w J X)(h1:t=true->C.ask/\C.core.bool?.isSome=true)(h2:t=false->J.ask/\J.core.bool?.isSome=true):
 OpS P F m nx β w { pre:=pre,val:=.s (.bool (if t then C.core.bool?.getD false else J.core.bool?.getD false)) } (do Pure.pure (Next.value (if<- asBool vc then M else X))):=by
 subst hc
 have inv:∀ {d:D} {v:Value},R F β w d v->d.ask/\d.core.bool?.isSome=true->v=.bool (d.core.bool?.getD false):=fun {d v} h hk=>by
  have:=h.core_of d hk.1;have hb:=hk.2;unfold D.bool? at hb ⊢;split at hb
  .rename_i b he;rw[he] at this;rw[this.s_inv.1];rfl
  .cases hb
 cases t with
 |true=>
  have:=inv ha (h1 rfl);rw[this];exact OpS.val hm (v:=.bool (C.core.bool?.getD false)) (by simp[asBool]) (.s _ rfl)
 |false=>
  have:=inv hb (h2 rfl);rw[this];exact OpS.val hm (v:=.bool (J.core.bool?.getD false)) (by simp[asBool]) (.s _ rfl)
end
section
variable{P:Program}{F:Nat->Prop}{m:Mem}{nx:Nat}{β:Pla}{w w':World}
theorem Rd.vals{b o:Nat}{cs:List D}(h:Rd F β w b o cs):∃ c:List Value,Rl F β w cs c/\∀ (j:Nat) (u:Value),c[j]? =some u->w.cell? ((⟨b,o,none⟩:Addr).add j)=some u:=by
 obtain⟨us,h1,h2⟩:=h;refine⟨(List.range cs.length).map us,⟨oS,fun k d u hk C=>?_⟩,fun j u C=>?_⟩
 .have ao:k<cs.length:=(bw.1 hk).1;simp[ao] at C;subst C;exact⟨h2 k d hk,(h1 k ao).2⟩
 .have ao:j<cs.length:=by
   have:=(bw.1 C).1;simpa using this
  simp[ao] at C;subst C;rw[Addr.add_lit];exact(h1 j ao).1
theorem slice_vals(hm:MSim P F m β w){sz:Nat}{x:D}{v:Value}{p:Prop}{rd:List Nat}{k:Nat}{news:List D}(hx:R F β w x v)(h:sliceCells m sz x=some (p,rd,k,news))(hp:p)
 (M:∀ i off n cs e,x=.rs i off n->m i=some (.cells cs e)->n=0\/True):
 ∃ a cap c,v=.slice a k cap/\Rl F β w news c/\c.length=k*sz/\(∀ C,a=some C->∀ (j:Nat) (u:Value),c[j]? =some u->w.cell? (C.add j)=some u)/\(a=none->c=[]/\k*sz=0):=by
 cases x with
 |sl es n=>
  simp only[sliceCells,aV,bQ] at h;obtain⟨rfl,rfl,rfl,rfl⟩:=h;rcases hx.sl_inv with⟨rfl,rfl,a,cap,rfl⟩|⟨b,o,cap,rfl,_,_,_,_,_,X⟩
  .exact⟨a,cap,[],rfl,⟨oS,oS⟩,oS,oS,oS⟩
  .obtain⟨c,h1,h2⟩:=(X.take (n*sz)).vals;refine⟨_,cap,c,rfl,h1,?_,fun C J=>by cases J;exact h2,oS⟩;rw[h1.1,List.length_take];exact Nat.min_eq_left hp
 |z=>
  simp only[sliceCells,aV,bQ] at h;obtain⟨rfl,rfl,rfl,rfl⟩:=h;obtain⟨a,rfl⟩:=hx.z_inv;exact⟨a,0,[],rfl,⟨oS,oS⟩,oS,oS,oS⟩
 |rs i off n=>
  simp only[sliceCells] at h;cases hi:m i with
  |none=>simp[hi] at h
  |some r=>
  cases r with
  |map es=>simp[hi] at h
  |raw es=>simp[hi] at h
  |ren f r=>simp[hi] at h
  |cells cs e=>
  simp only[hi,aV,bQ] at h;obtain⟨rfl,rfl,rfl,rfl⟩:=h;rcases hx.rs_inv hm hi with⟨rfl,rfl,rfl,kQ,a,rfl⟩|⟨b,o,room,hβ,ax,nU⟩
  .exact⟨a,0,[],rfl,⟨oS,oS⟩,oS,oS,oS⟩
  .rcases nU with⟨rfl,a,rfl⟩|⟨cap,rfl,g1,g2,g3,g4⟩
   .exact⟨a,0,[],rfl,⟨oS,oS⟩,oS,oS,oS⟩
   .obtain⟨c,h1,h2⟩:=((ax.rd.1.drop off).take (n*sz)).vals;refine⟨_,cap,c,rfl,h1,?_,fun C J=>by cases J;exact h2,oS⟩;rw[h1.1];simp;omega
 |_=>simp[sliceCells] at h
theorem run_append_zero(t ty e:TypeId)(i:TypeInfo)(ht:P.underlying t=some (.slice e))(hi:P.info? e=some i)(C a:Option Addr)(n cap c:Nat)(J:n<=cap):
 (Builtin.append_ #[t,t] ty #[.slice C n cap,.slice a 0 c]).run P w=.ok (.slice C n cap) w:=by
 cases C<;>cases a<;>simp[Builtin.append_,run_underlying ht,sizeOf,typeInfo,hi,Builtin.lenOf,J,Builtin.firstCells,loadCells,loadCellsFrom,storeCells]
theorem run_append_fit(t ty e:TypeId)(i:TypeInfo)(ht:P.underlying t=some (.slice e))(hi:P.info? e=some i)(g o n cap:Nat)(C:Array Value)(hg:w.heap[g]? =some (.cells C e (0,0)))
 (a:Addr) (k c:Nat) (news:List Value) (hl:news.length=k*i.size) (vf:∀ j u,news[j]? =some u->w.cell? (a.add j)=some u) (h1:∀ u∈news,u.oneCell'=true) (X:n+k<=cap) (J:o+n*i.size+news.length<=C.size):
 (Builtin.append_ #[t,t] ty #[.slice (some ⟨g,o,none⟩) n cap,.slice (some a) k c]).run P w=
  .ok (.slice (some ⟨g,o,none⟩) (n+k) cap) (w.setRow g (C.toList.take (o+n*i.size)++news++C.toList.drop (o+n*i.size+news.length)).toArray):=by
 have hf:=run_firstCells_some (P:=P) w i.size k a k c news hl vf;have M:=run_storeCells_at P g (o+n*i.size) e news 0 C w hg (by simpa using J) h1;simp only[Nat.add_zero] at M;simp[Builtin.append_,run_underlying ht,sizeOf,typeInfo,hi,Builtin.lenOf,X,hf,Addr.add_lit,M]
theorem run_append_new(t ty e:TypeId)(i:TypeInfo)(z:Value)(ht:P.underlying t=some (.slice e))(hi:P.info? e=some i)(hz:i.zero=some z)(J:Option Addr)(n cap:Nat)(C:List Value)(np:C.length=n*i.size)
 (holds:∀ X,J=some X->∀ j v,C[j]? =some v->w.cell? (X.add j)=some v) (h0:J=none->n=0/\cap=0) (mn:n<=cap)
 (a:Addr) (k c:Nat) (news:List Value) (hl:news.length=k*i.size) (vf:∀ j v,news[j]? =some v->w.cell? (a.add j)=some v) (hg:cap<n+k) (M:n+k<=maxLen) (hb:(n+k)*i.bytes<=140737488355328):
 (Builtin.append_ #[t,t] ty #[.slice J n cap,.slice (some a) k c]).run P w=
  .ok (.slice (some ⟨w.heap.size,0,none⟩) (n+k) (grownCap w (n+k) cap e)) (w.drew.alloc (.cells (C.toArray++news.toArray++Builtin.zeroCells z.cells (grownCap w (n+k) cap e - (n+k))) e)):=by
 simp only[maxLen] at M;cases J with
 |some b=>exact run_append_grow w t ty e i z ht hi hz b n cap C np (holds b rfl) a k c news hl vf hg oG (growslice_fits oG hb)
 |none=>
  obtain⟨rfl,rfl⟩:=h0 rfl;have:C=[]:=List.eq_nil_of_length_eq_zero (by simpa using np);subst this;have:=run_append_nil (P:=P) w t ty e i z ht hi hz a k c news hl vf oG oG (by simp at hb;omega);simpa using this
theorem zeroCells_len(z:Array Value)(n:Nat):(Builtin.zeroCells z n).toList.length=n*z.size:=by simp[Builtin.zeroCells]
theorem Rl.append{J M:List D}{X v2:List Value}(h1:Rl F β w J X)(h2:Rl F β w M v2):Rl F β w (J++M) (X++v2):=by
 refine⟨by simp[h1.1,h2.1],fun k d u hk C=>?_⟩;by_cases ao:k<J.length
 .rw[List.getElem?_append_left ao] at hk;rw[List.getElem?_append_left (by rw[h1.1];exact ao)] at C;exact h1.2 k d u hk C
 .rw[List.getElem?_append_right oG] at hk;rw[List.getElem?_append_right (by rw[h1.1];omega),h1.1] at C;exact h2.2 _ d u hk C
theorem Rl.step{cs:List D}{c:List Value}{β':Pla}(h:Rl F β w cs c)(hs:Step β w β' w'):Rl F β' w' cs c:=⟨h.1,fun k d u hk C=>⟨(h.2 k d u hk C).1.step hs,(h.2 k d u hk C).2⟩⟩
theorem grown_row(hm:MSim P F m β w)(hn:β nx=none){e:TypeId}{z:Value}(J:z.cells.size=P.cellsOf e){cs:List D}{c:List Value}(hc:Rl F β w cs c){n N:Nat}(hlen:cs.length=n*P.cellsOf e)(C:n<=N)(fV:N<=maxLen):
 ∃ β',MSim P F (up m nx (some (.cells cs e))) β' (w.alloc (.cells (c.toArray++Builtin.zeroCells z.cells (N - n)) e))/\Step β w β' (w.alloc (.cells (c.toArray++Builtin.zeroCells z.cells (N - n)) e))/\
  R F β' (w.alloc (.cells (c.toArray++Builtin.zeroCells z.cells (N - n)) e)) (.rs nx 0 n) (.slice (some ⟨w.heap.size,0,none⟩) n N)/\∀ i,i≠nx->β' i=β i:=by
 obtain⟨h2,h3⟩:=new_row hm hn (cs:=cs) (c:=c) (e:=e) hc.1 hc.2 (Builtin.zeroCells z.cells (N - n)).toList
 have e1:(c++(Builtin.zeroCells z.cells (N - n)).toList).toArray=c.toArray++Builtin.zeroCells z.cells (N - n):=by
  apply Array.ext';simp
 rw[e1] at h2 h3;have e2:n*P.cellsOf e+(N - n)*P.cellsOf e=N*P.cellsOf e:=by rw[<- Nat.add_mul];congr 1;omega
 have e3:=zeroCells_len z.cells (N - n);rw[J] at e3;refine⟨_,h2,h3,?_,fun i hi=>up_ne _ _ hi⟩;exact .rs nx 0 n N w.heap.size 0 _ _ _ (up_same _ _ _) C fV oG oG
theorem nil_row(hm:MSim P F m β w)(hn:β nx=none)(e:TypeId):MSim P F (up m nx (some (.cells [] e))) (up β nx (some .nil)) w/\Step β w (up β nx (some .nil)) w:=by
 have hs:Step β w (up β nx (some .nil)) w:=by
  refine⟨bF _,fun b hb hf=>⟨rfl,fun i q hq=>?_⟩,fun i q hq=>.inl ?_,rfl,rfl⟩
  .by_cases hi:i=nx
   .subst hi;rw[up_same] at hq;cases hq;simp[Pl.blk]
   .rw[up_ne _ _ hi] at hq;exact hf i q hq
  .rw[up_ne _ _ (fun e=>by rw[e,hn] at hq;cases hq)];exact hq
 have sub:∀ i q b,up β nx (some .nil) i=some q->q.blk=some b->β i=some q:=fun i q b hq e=>by
  by_cases hi:i=nx
  .subst hi;rw[up_same] at hq;cases hq;simp[Pl.blk] at e
  .rw[up_ne _ _ hi] at hq;exact hq
 refine⟨⟨fun i r hi=>?_,fun i j p q b hp hq e J=>hm.inj i j p q b (sub i p b hp e) (sub j q b hq J) e J,fun i p b hp e=>hm.lt i p b (sub i p b hp e) e,fun i p b hp e=>hm.nf i p b (sub i p b hp e) e,hm.fb⟩,hs⟩;by_cases C:i=nx
 .subst C;rw[up_same] at hi;cases hi;exact⟨.nil,up_same _ _ _,.nil e⟩
 .rw[up_ne _ _ C] at hi;obtain⟨p,hp,ax⟩:=hm.row i r hi;exact⟨p,by rw[up_ne _ _ C];exact hp,ax.step hs fun _ _=>rfl⟩
theorem ops_append(hm:MSim P F m β w)(hn:β nx=none){t ty:TypeId}{s x:D}{vs vx:Value}{e:Eff}(hs:R F β w s vs)(hx:R F β w x vx)(h:appendD P m nx t s x=some e)(hp:e.pre):
 OpS P F m nx β w e (do Pure.pure (Next.value (<- Builtin.append_ #[t,t] ty #[vs,vx]))):=by
 unfold appendD at h;simp only at h;cases A7:sliceCells m (P.cellsOf (elemP P t)) x with
 |none=>simp[A7] at h
 |some q=>
 obtain⟨p,rd,k,news⟩:=q;simp only[A7] at h;generalize hE:elemP P t=E at*
 have grow:∀ (β0:Pla) (m0:Mem),MSim P F m0 β0 w->Step β w β0 w->β0 nx=none->(∀ i,β i=none->β0 i=none)->∀ (C:Option Addr) (n cap:Nat) (Ic:List D) (ng:List Value),Rl F β0 w Ic ng->ng.length=n*P.cellsOf E->
  (∀ ad,C=some ad->∀ j v,ng[j]? =some v->w.cell? (ad.add j)=some v)->(C=none->n=0/\cap=0)->n<=cap->slT P t=true->p->n+k<=maxLen->(n+k)*P.bytesOf E<=140737488355328->0<k->cap<n+k->0<P.cellsOf E->
  ∃ v w' β',(Builtin.append_ #[t,t] ty #[.slice C n cap,vx]).run P w=.ok v w'/\R F β' w' (.rs nx 0 (n+k)) v/\MSim P F (up m0 nx (some (.cells (Ic++news) E))) β' w'/\Step β w β' w'/\∀ i,β i=none->(i<nx\/nx+1<=i)->β' i=none:=by
  intro β0 m0 xC zt jZ jB C n cap Ic ng hold oi aeL h0 mn ht jH fV zz hk hg iM;obtain⟨hu,bZ⟩:=slT_spec ht;rw[hE] at hu bZ;obtain⟨i,d,z,hi,hd,hz,_,mz,_,cE,hb,_⟩:=tyOk_spec bZ;obtain⟨a,c',c,rfl,X,kF,xN,NG⟩:=slice_vals hm hx A7 jH (fun _ _ _ _ _ _ _=>.inr trivial);cases a with
  |none=>
   have:=(NG rfl).2;have:=Nat.mul_pos hk iM;omega
  |some ad=>
  have gL:=run_append_new (P:=P) (w:=w) t ty E i z hu hi hz C n cap ng (by rw[cE];exact oi) aeL h0 mn ad k c' c (by rw[cE];exact kF) (xN ad rfl) hg fV (by rw[hb];exact zz);have kZ:Rl F β0 w.drew (Ic++news) (ng++c):=(hold.append (X.step zt)).step step_drew;obtain⟨β',J,M,g3,g4⟩:=grown_row (P:=P) (nx:=nx) (e:=E) (z:=z) xC.drew jZ mz kZ (n:=n+k) (N:=grownCap w (n+k) cap E) (by rw[<- kZ.1,List.length_append,oi,kF,Nat.add_mul]) (grownCap_ge w _ _ _) (grownCap_le_maxLen w _ _ _ fV);have e1:(ng++c).toArray=ng.toArray++c.toArray:=by simp
  rw[e1] at J M g3;refine⟨_,_,β',gL,g3,J,(zt.trans step_drew).trans M,fun j hj uh=>?_⟩;rw[g4 j oG];exact jB j hj
 cases s with
 |z=>
  simp only[aV] at h;subst h;obtain⟨ht,jH,iM,fV,zz⟩:=hp;obtain⟨C,rfl⟩:=hs.z_inv;obtain⟨hu,bZ⟩:=slT_spec ht;rw[hE] at hu bZ;obtain⟨i,d,z,hi,_⟩:=tyOk_spec bZ;rcases Nat.eq_zero_or_pos k with rfl|hk
  .obtain⟨a,c',c,rfl,X,kF,_,_⟩:=slice_vals hm hx A7 jH (fun _ _ _ _ _ _ _=>.inr trivial);have vf:news=[]:=List.eq_nil_of_length_eq_zero (by rw[<- X.1,kF];simp);subst vf;obtain⟨J,M⟩:=nil_row hm hn E;refine⟨.value (.slice C 0 0),.slice C 0 0,w,up β nx (some .nil),by simp[run_append_zero (P:=P) (w:=w) t ty E i hu hi C a 0 0 c' (bF _)],.inl rfl,.rsn nx C (up_same _ _ _),J,M,fresh_up⟩
  .obtain⟨v,w',β',gL,J,M,g3,g4⟩:=grow β m hm (Step.refl β w) hn (fun _ h=>h) C 0 0 [] [] ⟨rfl,oS⟩ oS oS (fun _=>⟨rfl,rfl⟩) (bF _) ht jH oG (by simpa using zz) hk oG iM;refine⟨.value v,v,w',β',by simp[gL],.inl rfl,?_,?_,g3,g4⟩
   .simpa using J
   .simpa[upds] using M
 |rs i off n=>
  simp only at h;cases eE:m i with
  |none=>simp[eE] at h
  |some r=>
  cases r with
  |map es=>simp[eE] at h
  |raw es=>simp[eE] at h
  |ren f r=>simp[eE] at h
  |cells cs e'=>
  simp only[eE,aV] at h;subst h;obtain⟨ht,XW,jH,iM,aox,fV,zz,dK⟩:=hp;rw[XW] at eE;clear XW;obtain⟨hu,bZ⟩:=slT_spec ht;rw[hE] at hu bZ;obtain⟨ii,d,z,hi,_,_,_,_,_,ME,_⟩:=tyOk_spec bZ
  have bm:i≠nx:=fun e=>by
   obtain⟨p',A5,_⟩:=hm.row i _ eE;rw[e,hn] at A5;cases A5
  have NH:=hm.dead i;have IV:=step_dead β w i;have dn:up β i (some .dead) nx=none:=by rw[up_ne _ _ (Ne.symm bm)];exact hn
  have jB:∀ j,β j=none->up β i (some .dead) j=none:=fun j hj=>by
   by_cases dm:j=i
   .subst dm;obtain⟨p',A5,_⟩:=hm.row j _ eE;rw[hj] at A5;cases A5
   .rw[up_ne _ _ dm];exact hj
  have small:∀ C:Option Addr,n=0->cs.length=off->vs=.slice C 0 0->OpS P F m nx β w { pre:=True,val:=.rs nx 0 (n+k),ups:=[(i,none),(nx,some (.cells (cs.drop off++news) E))],rd:=i::rd,new:=1 } (do Pure.pure (Next.value (<- Builtin.append_ #[t,t] ty #[vs,vx]))):=by
   rintro C rfl o6 rfl;have Uq:cs.drop off=[]:=by simp;omega
   rcases Nat.eq_zero_or_pos k with rfl|hk
   .obtain⟨a,c',c,rfl,X,kF,_,_⟩:=slice_vals hm hx A7 jH (fun _ _ _ _ _ _ _=>.inr trivial);have vf:news=[]:=List.eq_nil_of_length_eq_zero (by rw[<- X.1,kF];simp);subst vf;obtain⟨J,M⟩:=nil_row NH dn E;refine⟨.value (.slice C 0 0),.slice C 0 0,w,_,by simp[run_append_zero (P:=P) (w:=w) t ty E ii hu hi C a 0 0 c' (bF _)],.inl rfl,.rsn nx C (up_same _ _ _),?_,IV.trans M,fun j hj uh=>?_⟩
    .simp only[upds,Uq,List.append_nil];exact J
    .rw[up_ne _ _ (by simp only at uh;omega)];exact jB j hj
   .obtain⟨v,w',β',gL,J,M,g3,g4⟩:=grow _ _ NH IV dn jB C 0 0 [] [] ⟨rfl,oS⟩ oS oS (fun _=>⟨rfl,rfl⟩) (bF _) ht jH oG zz hk oG iM;refine⟨.value v,v,w',β',by simp[gL],.inl rfl,?_,?_,g3,g4⟩
    .simpa using J
    .simp only[upds,Uq];exact M
  have fin:∀ {s:Sem Next},OpS P F m nx β w { pre:=True,val:=.rs nx 0 (n+k),ups:=[(i,none),(nx,some (.cells (cs.drop off++news) E))],rd:=i::rd,new:=1 } s->OpS P F m nx β w { pre:=slT P t=true/\E=E/\p/\0<P.cellsOf E/\off+n*P.cellsOf E=cs.length/\n+k<=maxLen/\(n+k)*P.bytesOf E<=140737488355328/\i∉rd,val:=.rs nx 0 (n+k),ups:=[(i,none),(nx,some (.cells (cs.drop off++news) E))],rd:=i::rd,new:=1 } s:=fun h=>h;rcases hs.rs_inv hm eE with⟨rfl,rfl,rfl,kQ,C,rfl⟩|⟨b,o,room,hβ,ax,nU⟩
  .exact small C rfl rfl rfl
  .rcases nU with⟨rfl,C,rfl⟩|⟨cap,rfl,J,M,g3,g4⟩
   .exact small C rfl oG rfl
   .obtain⟨ng,XX,ho2⟩:=(ax.rd.1.drop off).vals;have oi:ng.length=n*P.cellsOf E:=by rw[XX.1];simp;omega
    rcases Nat.lt_or_ge cap (n+k) with hg|hg
    .have hk:0<k:=by omega
     obtain⟨v,w',β',gL,k1,k2,k3,k4⟩:=grow _ _ NH IV dn jB (some ⟨b,o+off,none⟩) n cap (cs.drop off) ng (XX.step IV) oi (fun ad FD=>by cases FD;exact ho2) oS J ht jH fV zz hk hg iM;exact⟨.value v,v,w',β',by simp[gL],.inl rfl,k1,k2,k3,k4⟩
    ·
      cases ax with
      |cells _ _ _ _ _ _ cc sT HP hle cE hh=>
      have aou:(up β i (some .dead)) nx=none:=dn;rcases Nat.eq_zero_or_pos k with rfl|hk
      .obtain⟨a,c',c,rfl,X,kF,_,_⟩:=slice_vals hm hx A7 jH (fun _ _ _ _ _ _ _=>.inr trivial);have vf:news=[]:=List.eq_nil_of_length_eq_zero (by rw[<- X.1,kF];simp);subst vf
       obtain⟨q1,q2⟩:=hm.move (w':=w) (nx:=nx) (p':=.cells b (o+off) (cs.drop off).length (room - off) (P.cellsOf E)) hβ rfl rfl hn rfl (fun _ _=>rfl) (.cells (cs.drop off) E) (fun aF=>by
        refine .cells _ E b (o+off) (room - off) _ cc sT oG oP rfl fun j d hj=>?_;rw[List.getElem?_drop] at hj;obtain⟨u,ry,rz,rA⟩:=hh (off+j) d hj
        exact⟨u,by rw[Nat.add_assoc];exact ry,rz.step aF,rA⟩)
       refine⟨.value (.slice (some ⟨b,o+off,none⟩) n cap),_,w,_,by simp[run_append_zero (P:=P) (w:=w) t ty E ii hu hi (some ⟨b,o+off,none⟩) a n cap c' J],.inl rfl,?_,?_,q2,fun j hj uh=>?_⟩
       .have:=R.rs (F:=F) (β:=up (up β i (some .dead)) nx (some (.cells b (o+off) (cs.drop off).length (room - off) (P.cellsOf E)))) (w:=w) nx 0 n cap b (o+off) (cs.drop off).length (room - off) (P.cellsOf E) (up_same _ _ _) J M oP oG;simpa using this
       .simp only[upds,List.append_nil];exact q1
       .rw[up_ne _ _ (by simp only at uh;omega)];exact jB j hj
      .obtain⟨a,c',c,rfl,X,kF,xN,NG⟩:=slice_vals hm hx A7 jH (fun _ _ _ _ _ _ _=>.inr trivial);cases a with
       |none=>
        have:=(NG rfl).2;have:=Nat.mul_pos hk iM;omega
       |some ad=>
       have hmul:n*P.cellsOf E+k*P.cellsOf E<=cap*P.cellsOf E:=by rw[<- Nat.add_mul];exact Nat.mul_le_mul_right _ hg
       have qh:∀ u∈c,u.oneCell'=true:=fun u hu=>by
        obtain⟨j,hj⟩:=cC hu;have cV:j<news.length:=by rw[<- X.1];exact(bw.1 hj).1
        exact(X.2 j news[j] u (by simp[cV]) hj).2
       have gL:=run_append_fit (P:=P) (w:=w) t ty E ii hu hi b (o+off) n cap cc sT ad k c' c (by rw[ME];exact kF) (xN ad rfl) qh hg (by rw[ME];omega);rw[ME] at gL;have Da:news.length=k*P.cellsOf E:=by rw[<- X.1];exact kF
       have Cb:=setRow_heap w b cc (cc.toList.take (o+off+n*P.cellsOf E)++c++cc.toList.drop (o+off+n*P.cellsOf E+c.length)).toArray E (0,0) sT
       have HQ:(cc.toList.take (o+off+n*P.cellsOf E)++c++cc.toList.drop (o+off+n*P.cellsOf E+c.length)).toArray.size=cc.size:=by
        simp only[List.size_toArray,List.length_append,List.length_take,List.length_drop,Array.length_toList];omega
       obtain⟨q1,q2⟩:=hm.move (w':=w.setRow b (cc.toList.take (o+off+n*P.cellsOf E)++c++cc.toList.drop (o+off+n*P.cellsOf E+c.length)).toArray) (nx:=nx) (p':=.cells b (o+off) (cs.drop off++news).length (room - off) (P.cellsOf E)) hβ rfl rfl hn oS (fun j hj=>setRow_other w b j _ hj) (.cells (cs.drop off++news) E) (fun aF=>by
        refine .cells _ E b (o+off) (room - off) _ _ Cb (by rw[HQ];omega) oP rfl fun j d hj=>?_;have hv:=vsplice_get cc.toList (o+off+n*P.cellsOf E) c oP (o+off+j);simp only[List.getElem?_toArray];by_cases ao:j<(cs.drop off).length
        .rw[List.getElem?_append_left ao,List.getElem?_drop] at hj;obtain⟨u,ry,rz,rA⟩:=hh (off+j) d hj;rw[if_pos (by simp at ao;omega)] at hv;exact⟨u,by rw[hv,Nat.add_assoc];simpa using ry,rz.step aF,rA⟩
        .rw[List.getElem?_append_right oG] at hj;have cV:=(bw.1 hj).1;simp only[List.length_drop] at hj cV ao;rw[if_neg oG,if_pos oG,show o+off+j - (o+off+n*P.cellsOf E)=j - (cs.length - off) from by omega] at hv;have V4:j - (cs.length - off)<c.length:=by omega
         obtain⟨r1,r2⟩:=X.2 _ d c[j - (cs.length - off)] hj (by simp[V4])
         exact⟨_,by rw[hv];simp[V4],r1.step aF,r2⟩)
       refine⟨.value (.slice (some ⟨b,o+off,none⟩) (n+k) cap),_,_,_,by simp[gL],.inl rfl,?_,q1,q2,fun j hj uh=>?_⟩
       .refine .rs nx 0 (n+k) cap b (o+off) _ (room - off) _ (up_same _ _ _) hg M ?_ oG;simp only[List.length_append,List.length_drop];omega
       .rw[up_ne _ _ (by simp only at uh;omega)];exact jB j hj
 |_=>simp at h
end
theorem veq1_eq{a b:Value}(h:veq1 a b=true):a=b:=by
 unfold veq1 at h;split at h
 .simp at h;rw[h.1,h.2]
 .simp at h;rw[h]
 .rename_i a b;simp only[beq_iff_eq] at h;congr 1;cases a;cases b;simp only[ByteArray.mk.injEq];exact Array.ext' (by simpa using h)
 .cases h
theorem veqs_eq:∀ {a b:List Value},veqs a b=true->a=b
 |[],[],_=>rfl
 |a::aS,b::bs,h=>by
  simp only[veqs,aM] at h;rw[veq1_eq h.1,veqs_eq h.2]
 |[],_::_,h=>by simp[veqs] at h
 |_::_,[],h=>by simp[veqs] at h
theorem veq_eq{a b:Value}(h:veq a b=true):a=b:=by
 unfold veq at h;split at h
 .rw[Array.ext' (veqs_eq h)]
 .exact veq1_eq h
def scal:Value->Bool
 | .int _ _ | .bool _ | .string _=>true
 |_=>false
theorem veq1_refl{a:Value}(h:scal a=true):veq1 a a=true:=by
 unfold scal at h;split at h<;>simp_all[veq1]
theorem veqs_refl:∀ {a:List Value},a.all scal=true->veqs a a=true
 |[],_=>rfl
 |a::aS,h=>by
  simp only[List.all_cons,aM] at h;simp[veqs,veq1_refl h.1,veqs_refl h.2]
section
variable{P:Program}
structure MapLaw(P:Program)(t kt et:TypeId):Prop where
 und:P.underlying t=some (.map kt et)
 elem:tyOk P et=true
 zero:zOk P et=true
 refl:∀ v,keyP P kt v=true->veq v v=true
 one:∀ v,keyP P kt v=true->v.oneCell'=true\/∃ vs,v=.agg vs
 check:∀ (w:World) (em:Bool) (v:Value),keyP P kt v=true->(Instr.checkKey em 10000 kt v).run P w=.ok () w
 find:∀ (w:World) (x:Value),keyP P kt x=true->∀ es:List MapEntry,(∀ e∈es,keyP P kt e.key=true)->
  ((Instr.findKey kt x es).run P w=.ok none w/\∀ e∈es,e.key≠x)\/∃ j e,(Instr.findKey kt x es).run P w=.ok (some (j,e.val)) w/\es[j]? =some e/\e.key=x
 stays:∀ (w:World) (v:Value),keyP P kt v=true->(Instr.keyThatStays v v).run P w=.ok v w
theorem mapLaw_plain{t kt et:TypeId}{d:TypeDesc}(C:P.underlying t=some (.map kt et))(he:tyOk P et=true)(J:zOk P et=true)(hd:P.underlying kt=some d)(hk:∀ v,keyP P kt v=true↔MapKept.IsKey d v):MapLaw P t kt et where
 und:=C
 elem:=he
 zero:=J
 refl:=fun v h=>by
  have:=(hk v).1 h;cases d<;>cases v<;>simp_all[MapKept.IsKey,veq,veq1]
 one:=fun v h=>by
  have:=(hk v).1 h;left;cases d<;>cases v<;>simp_all[MapKept.IsKey,Value.oneCell']
 check:=fun w em v h=>MapKept.run_checkKey hd ((hk v).1 h) em 9999
 find:=fun w x hx es M=>by
  rcases MapKept.findNow_spec ((hk x).1 hx) es 0 (fun e he=>(hk _).1 (M e he)) with⟨h1,h2⟩|⟨j,e,h1,h2,h3⟩
  .exact .inl ⟨MapKept.run_findKey hd h1,h2⟩
  .exact .inr ⟨j,e,by have:=MapKept.run_findKey (P:=P) (w:=w) hd h1;simpa using this,h2,h3⟩
 stays:=fun w v h=>MapKept.run_keyThatStays ((hk v).1 h)
theorem mapLaw_wide{t kt et:TypeId}(M:P.underlying t=some (.map kt et))(he:tyOk P et=true)(X:zOk P et=true)(J:(match P.underlying kt with|some (.array _ _)|some (.struct _)=>true|_=>false)=true)
 (h1:P.keyTypeAt 9 kt=true) (h2:P.tiled 9 kt=true):MapLaw P t kt et:=by
 have C:=deep_law (P:=P) (m:=9) oG h1 h2 J
 have hk:∀ v,keyP P kt v=true↔∃ l,keyOf P kt v=some l:=fun v=>by
  unfold keyP;split at J
  .simp_all[Option.isSome_iff_exists]
  .simp_all[Option.isSome_iff_exists]
  .cases J
 refine⟨M,he,X,fun v h=>?_,fun v h=>?_,fun w em v h=>?_,fun w x hx es lK=>?_,fun w v h=>?_⟩
 .obtain⟨l,hl⟩:=(hk v).1 h;obtain⟨xs,L,rfl,e1,_⟩:=keyOf_top J hl;have:=cells_of_lits 9 kt h2 _ _ _ e1;simp only[veq];rw[this];refine veqs_refl (bj.2 fun u M=>?_);obtain⟨l,_,rfl⟩:=List.mem_map.1 M;cases l<;>rfl
 .obtain⟨l,hl⟩:=(hk v).1 h;obtain⟨xs,L,rfl,_⟩:=keyOf_top J hl;exact .inr ⟨xs,rfl⟩
 .obtain⟨l,hl⟩:=(hk v).1 h;exact C.check w em hl
 .obtain⟨l,hl⟩:=(hk x).1 hx;exact C.find w hl es fun e he=>(hk _).1 (lK e he)
 .obtain⟨l,hl⟩:=(hk v).1 h;exact C.stays w hl
theorem mapT_spec{t:TypeId}(h:mapT P t=true):MapLaw P t (mkeyP P t) (melP P t):=by
 unfold mapT at h;split at h
 .rename_i kt et C;have e1:mkeyP P t=kt:=by simp[mkeyP,C]
  have e2:melP P t=et:=by simp[melP,C]
  rw[e1,e2];simp only[aM] at h;obtain⟨⟨h1,J⟩,h2⟩:=h;split at h2
  .rename_i hd;exact mapLaw_plain C h1 J hd fun v=>by unfold keyP;rw[hd];cases v<;>simp[MapKept.IsKey]
  .rename_i hd;exact mapLaw_plain C h1 J hd fun v=>by unfold keyP;rw[hd];cases v<;>simp[MapKept.IsKey]
  .rename_i hd;exact mapLaw_plain C h1 J hd fun v=>by unfold keyP;rw[hd];cases v<;>simp[MapKept.IsKey]
  .rename_i hd;simp only[aM] at h2;exact mapLaw_wide C h1 J (by rw[hd]) h2.1 h2.2
  .rename_i hd;simp only[aM] at h2;exact mapLaw_wide C h1 J (by rw[hd]) h2.1 h2.2
  .cases h2
 .cases h
theorem lookD_none{k:Value}:∀ {es:List (Value×D)},lookD k es=none->∀ e∈es,veq e.1 k=false
 |[],_,e,he=>by cases he
 |(k',d)::es,h,e,he=>by
  simp only[lookD] at h;split at h
  .cases h
  .rename_i C;simp only[Option.map_eq_none_iff] at h;rcases List.mem_cons.1 he with rfl|he
   .simpa using C
   .exact lookD_none h e he
theorem lookD_some{k:Value}:∀ {es:List (Value×D)} {j:Nat} {d:D},lookD k es=some (j,d)->∃ C,es[j]? =some (C,d)/\veq C k=true
 |[],j,d,h=>by simp[lookD] at h
 |(C,d')::es,j,d,h=>by
  simp only[lookD] at h;split at h
  .rename_i hv;simp only[aV,bQ] at h;obtain⟨rfl,rfl⟩:=h;exact⟨C,rfl,hv⟩
  .simp only[dx] at h;obtain⟨⟨j',M⟩,h1,h2⟩:=h;simp only[bQ] at h2;obtain⟨rfl,rfl⟩:=h2;obtain⟨J,h3,h4⟩:=lookD_some h1;exact⟨J,by simpa using h3,h4⟩
theorem find_both{t kt et:TypeId}(L:MapLaw P t kt et)(w:World){key:Value}(hk:keyP P kt key=true){es:List (Value×D)}(lK:es.all (fun e=>keyP P kt e.1)=true){ms:List MapEntry}(hl:ms.length=es.length)
 (M:∀ (k:Nat) (x:Value×D) (m:MapEntry),es[k]? =some x->ms[k]? =some m->m.key=x.1) (cR:(es.map (·.1)).Nodup):
 (lookD key es=none/\(Instr.findKey kt key ms).run P w=.ok none w/\(∀ e∈es,e.1≠key))\/
 ∃ j d e,lookD key es=some (j,d)/\(Instr.findKey kt key ms).run P w=.ok (some (j,e.val)) w/\ms[j]? =some e/\e.key=key/\es[j]? =some (key,d):=by
 have nk:∀ e∈ms,keyP P kt e.key=true:=fun e he=>by
  obtain⟨k,C⟩:=cC he;have ao:k<es.length:=by rw[<- hl];exact(bw.1 C).1
  rw[M k es[k] e (by simp[ao]) C];exact bj.1 lK _ (cy ao)
 rcases L.find w key hk ms nk with⟨h1,h2⟩|⟨j,e,h1,h2,h3⟩
 .left
  have aE:∀ e∈es,e.1≠key:=fun e he hke=>by
   obtain⟨k,C⟩:=cC he;have ao:k<ms.length:=by rw[hl];exact(bw.1 C).1
   exact h2 ms[k] (cy ao) ((M k e ms[k] C (by simp[ao])).trans hke)
  refine⟨?_,h1,aE⟩;cases J:lookD key es with
  |none=>rfl
  |some x=>
   obtain⟨j,d⟩:=x;obtain⟨k',h3,h4⟩:=lookD_some J;exact absurd (veq_eq h4) (aE _ (bU h3))
 .right;have ao:j<es.length:=by rw[<- hl];exact(bw.1 h2).1
  have X:es[j]? =some es[j]:=by simp[ao]
  have ij:es[j].1=key:=(M j es[j] e X h2).symm.trans h3;cases J:lookD key es with
  |none=>
   have:=lookD_none J es[j] (cy ao);rw[ij,L.refl key hk] at this;cases this
  |some x=>
   obtain⟨j',d⟩:=x;obtain⟨k',h4,h5⟩:=lookD_some J;have C:=veq_eq h5;subst C;have AF:j'<es.length:=(bw.1 h4).1
   have FC:j'=j:=by
    refine(List.getElem_inj (h₀:=by simpa using AF) (h₁:=by simpa using ao) cR).1 ?_;simp only[List.getElem_map];have:=(bw.1 h4).2;rw[this,ij]
   subst FC;exact⟨j',d,e,rfl,h1,h2,h3,h4⟩
variable{F:Nat->Prop}{m:Mem}{nx:Nat}{β:Pla}{w:World}
theorem valsV_R:∀ {cs:List D} {vs us:List Value},valsV cs=some vs->us.length=cs.length->(∀ (k:Nat) (d:D) (u:Value),cs[k]? =some d->us[k]? =some u->R F β w d u)->us=vs
 |[],vs,us,h,hl,_=>by
  simp[valsV] at h;subst h;simpa using hl
 |d::cs,vs,us,h,hl,hr=>by
  cases us with
  |nil=>simp at hl
  |cons u us=>
   have h0:=hr 0 d u rfl rfl;cases d with
   |s v=>
    simp only[valsV,dx] at h;obtain⟨J,h1,rfl⟩:=h;rw[h0.s_inv.1,valsV_R (us:=us) h1 (by simpa using hl) fun k d u hd C=>hr (k+1) d u (by simpa using hd) (by simpa using C)]
   |_=>simp[valsV] at h
theorem keyV_R{d:D}{key v:Value}(hk:keyV d=some key)(h:R F β w d v):v=key:=by
 unfold keyV at hk;split at hk
 .rw[h.s_inv.1];simpa using hk
 .obtain⟨us,rfl,hl,hr⟩:=h.agg_inv;simp only[dx] at hk;obtain⟨vs,h1,rfl⟩:=hk;rw[valsV_R h1 hl hr]
 .cases hk
theorem R.mp_inv(hm:MSim P F m β w){i:Nat}{es:List (Value×D)}{v:Value}(h:R F β w (.mp i) v)(hi:m i=some (.map es)):
 ∃ r ms clock,β i=some (.map r)/\v=.map (some r)/\w.heap[r]? =some (.map ms clock)/\ms.size=es.length/\(es.map (·.1)).Nodup/\
  ∀ (k:Nat) (x:Value×D) (m:MapEntry),es[k]? =some x->ms[k]? =some m->m.key=x.1/\R F β w x.2 m.val:=by
 obtain⟨p,hp,ax⟩:=hm.row i _ hi;cases h with
 |mpd _ _ h _=>rw[h] at hp;cases hp;cases ax
 |mp _ r h=>
  rw[h] at hp;cases hp;cases ax with
  |map _ _ ms clock h1 h2 h3 h4=>exact⟨r,ms,clock,h,rfl,h1,h2,h3,h4⟩
theorem R.im_inv{es:List (Value×D)}{v:Value}(h:R F β w (.im es) v):
 ∃ r ms clock,v=.map (some r)/\w.heap[r]? =some (.map ms clock)/\ms.size=es.length/\(es.map (·.1)).Nodup/\
  ∀ (k:Nat) (x:Value×D) (m:MapEntry),es[k]? =some x->ms[k]? =some m->m.key=x.1/\R F β w x.2 m.val:=by
 cases h with
 |im _ r ms clock hf hb hc hl cR hk C=>exact⟨r,ms,clock,rfl,hc,hl,cR,fun k x m hx hm=>⟨hk k x m hx hm,C k x m hx hm⟩⟩
theorem zeroD_R{t:TypeId}(ht:tyOk P t=true)(C:zOk P t=true):∃ v,(zeroValue t).run P w=.ok v w/\R F β w (zeroD P t) v:=by
 obtain⟨i,d,z,hi,_,X,uk,mz,h3,_,_,h4⟩:=tyOk_spec ht;obtain⟨c1,c2⟩:=zero_R (F:=F) (β:=β) (w:=w) h3 h4;refine⟨z,by simp[zeroValue,typeInfo,hi,X],?_⟩;unfold zeroD;unfold zOk at C;simp only[hi,Option.bind_some,X] at C
 have single:(∀ cs,z≠ .agg cs)->aggP P t=false->R F β w ((zeroP P t).headD .u) z:=fun M ha=>by
  have hc:z.cells.toList=[z]:=by cases z<;>first|rfl|exact absurd rfl (M _)
  have:zeroP P t=[toD1 z]:=by rw[h3,hc];rfl
  rw[this];exact toD1_R z
 split at C
 .rename_i cs sS;simp only[aV] at sS;subst sS;rw[if_pos C];have:=R.agg (F:=F) (β:=β) (w:=w) (zeroP P t) cs.toList (by simpa[Value.cells] using c1) fun k d u hd J=>(c2 k d u hd (by simpa[Value.cells] using J)).1;simpa using this
 .rename_i u M J;simp only[Bool.not_eq_true'] at C;simp only[aV] at J;rw[if_neg (by simp[C])];exact single (fun cs h=>M cs (by rw[<- J,h])) C
 .cases C
theorem ops_lookup(hm:MSim P F m β w){t:TypeId}{x k:D}{ok:Bool}{vx vk:Value}(hx:R F β w x vx)(hk:R F β w k vk){e:Eff}(h:lookupD P m t x k ok=some e)(hp:e.pre):
 OpS P F m nx β w e (do Pure.pure (Next.value (<- Instr.lookup t vx vk ok))):=by
 unfold lookupD at h;split at h
 .rename_i key i xc;rw[keyV_R xc hk];split at h
  .rename_i es hi;cases h;obtain⟨h1,h2,h3⟩:=hp;have L:=mapT_spec h1;obtain⟨r,ms,clock,hβ,rfl,hb,hl,cR,M⟩:=hx.mp_inv hm hi;obtain⟨z,X,J⟩:=zeroD_R (F:=F) (β:=β) (w:=w) L.elem L.zero;rcases find_both L w h2 h3 (ms:=ms.toList) (by simpa using hl) (fun k x m hx hm=>(M k x m hx (by simpa using hm)).1) cR with⟨f1,f2,_⟩|⟨j,d,en,f1,f2,f3,f4,f5⟩
   .refine⟨.value (if ok then .tuple #[z,.bool false] else z),_,w,β,?_,.inl rfl,?_,hm,Step.refl β w,fun _ h _=>h⟩
    .simp[Instr.lookup,run_underlying L.und,MapKept.run_getObj_map hb,L.check w _ key h2,f2,X]
    .simp only[f1,gotD];cases ok
     .exact J
     .exact .tup _ [z,.bool false] rfl fun k d u hd C=>by
       match k with
       |0=>simp at hd C;subst hd;subst C;exact J
       |1=>simp at hd C;subst hd;subst C;exact .s _ rfl
       |k+2=>simp at hd
   .have hv:=(M j _ en f5 (by simpa using f3)).2;refine⟨.value (if ok then .tuple #[en.val,.bool true] else en.val),_,w,β,?_,.inl rfl,?_,hm,Step.refl β w,fun _ h _=>h⟩
    .simp[Instr.lookup,run_underlying L.und,MapKept.run_getObj_map hb,L.check w _ key h2,f2]
    .simp only[f1,gotD];cases ok
     .exact hv
     .exact .tup _ [en.val,.bool true] rfl fun k d u hd C=>by
       match k with
       |0=>simp at hd C;subst hd;subst C;exact hv
       |1=>simp at hd C;subst hd;subst C;exact .s _ rfl
       |k+2=>simp at hd
  .cases h
 .rename_i key es xc;rw[keyV_R xc hk]
  .cases h;obtain⟨h1,h2,h3⟩:=hp;have L:=mapT_spec h1;obtain⟨r,ms,clock,rfl,hb,hl,cR,M⟩:=hx.im_inv;obtain⟨z,X,J⟩:=zeroD_R (F:=F) (β:=β) (w:=w) L.elem L.zero;rcases find_both L w h2 h3 (ms:=ms.toList) (by simpa using hl) (fun k x m hx hm=>(M k x m hx (by simpa using hm)).1) cR with⟨f1,f2,_⟩|⟨j,d,en,f1,f2,f3,f4,f5⟩
   .refine⟨.value (if ok then .tuple #[z,.bool false] else z),_,w,β,?_,.inl rfl,?_,hm,Step.refl β w,fun _ h _=>h⟩
    .simp[Instr.lookup,run_underlying L.und,MapKept.run_getObj_map hb,L.check w _ key h2,f2,X]
    .simp only[f1,gotD];cases ok
     .exact J
     .exact .tup _ [z,.bool false] rfl fun k d u hd C=>by
       match k with
       |0=>simp at hd C;subst hd;subst C;exact J
       |1=>simp at hd C;subst hd;subst C;exact .s _ rfl
       |k+2=>simp at hd
   .have hv:=(M j _ en f5 (by simpa using f3)).2;refine⟨.value (if ok then .tuple #[en.val,.bool true] else en.val),_,w,β,?_,.inl rfl,?_,hm,Step.refl β w,fun _ h _=>h⟩
    .simp[Instr.lookup,run_underlying L.und,MapKept.run_getObj_map hb,L.check w _ key h2,f2]
    .simp only[f1,gotD];cases ok
     .exact hv
     .exact .tup _ [en.val,.bool true] rfl fun k d u hd C=>by
       match k with
       |0=>simp at hd C;subst hd;subst C;exact hv
       |1=>simp at hd C;subst hd;subst C;exact .s _ rfl
       |k+2=>simp at hd
 .rename_i key xc;rw[keyV_R xc hk];cases h;obtain⟨h1,h2⟩:=hp;have L:=mapT_spec h1;rw[hx.s_inv.1];obtain⟨z,X,J⟩:=zeroD_R (F:=F) (β:=β) (w:=w) L.elem L.zero;rcases find_both L w h2 (es:=[]) rfl (ms:=[]) rfl oS oS with⟨f1,f2,_⟩|⟨j,d,en,f1,f2,f3,f4,f5⟩
  .refine⟨.value (if ok then .tuple #[z,.bool false] else z),_,w,β,?_,.inl rfl,?_,hm,Step.refl β w,fun _ h _=>h⟩
   .simp[Instr.lookup,run_underlying L.und,L.check w _ key h2,f2,X]
   .simp only[gotD];cases ok
    .exact J
    .exact .tup _ [z,.bool false] rfl fun k d u hd C=>by
      match k with
      |0=>simp at hd C;subst hd;subst C;exact J
      |1=>simp at hd C;subst hd;subst C;exact .s _ rfl
      |k+2=>simp at hd
  .simp at f5
 .cases h
theorem heap_setIf{w:World}{r:Nat}{o o':Obj}(hb:w.heap[r]? =some o):(w.heap.setIfInBounds r o').size=w.heap.size/\(w.heap.setIfInBounds r o')[r]? =some o'/\∀ k,k≠r->(w.heap.setIfInBounds r o')[k]? =w.heap[k]? :=
 ⟨oS,(MapKept.heap_set hb).1,fun k hk=>(MapKept.heap_set hb).2 k hk⟩
theorem write_map(hm:MSim P F m β w){i r:Nat}{ms:Array MapEntry}{clock:Nat}(C:β i=some (.map r))(hb:w.heap[r]? =some (.map ms clock)){es':List (Value×D)}{ms':Array MapEntry}{clock':Nat}
 (hl:ms'.size=es'.length) (cR:(es'.map (·.1)).Nodup) (hh:∀ (k:Nat) (x:Value×D) (m:MapEntry),es'[k]? =some x->ms'[k]? =some m->m.key=x.1/\R F β w x.2 m.val):
 MSim P F (up m i (some (.map es'))) β { w with heap:=w.heap.setIfInBounds r (.map ms' clock') }/\Step β w β { w with heap:=w.heap.setIfInBounds r (.map ms' clock') }:=by
 obtain⟨J,q2,M⟩:=heap_setIf (o':=.map ms' clock') hb;have hs:=step_write (w':={ w with heap:=w.heap.setIfInBounds r (.map ms' clock') }) hm C rfl (by simp[J]) M;refine⟨hm.write C rfl J M _ (.map es' r ms' clock' q2 hl cR fun k x mm hx X=>?_),hs⟩;obtain⟨h1,h2⟩:=hh k x mm hx X;exact⟨h1,h2.step hs⟩
theorem ops_mapPut(hm:MSim P F m β w){t:TypeId}{x k v:D}{vx vk J:Value}(hx:R F β w x vx)(hk:R F β w k vk)(hv:R F β w v J){e:Eff}(h:mapPutD P m t x k v=some e)(hp:e.pre):
 OpS P F m nx β w e (do Instr.mapUpdate t vx vk J;Pure.pure Next.skip):=by
 unfold mapPutD at h;split at h
 .rename_i key i xc;rw[keyV_R xc hk];split at h
  .rename_i es hi;cases h;obtain⟨h1,h2,h3⟩:=hp;have L:=mapT_spec h1;obtain⟨r,ms,clock,hβ,rfl,hb,hl,cR,hh⟩:=hx.mp_inv hm hi;rcases find_both L w h2 h3 (ms:=ms.toList) (by simpa using hl) (fun k x m hx hm=>(hh k x m hx (by simpa using hm)).1) cR with⟨f1,f2,f3⟩|⟨j,d,en,f1,f2,f3,f4,f5⟩
   .obtain⟨M,X⟩:=write_map (P:=P) hm hβ hb (es':=putD key v es) (ms':=ms.push { key,val:=J,born:=clock }) (clock':=clock+1) (by simp[putD,f1,hl])
     (by
      simp only[putD,f1,List.map_append,List.map_cons,List.map_nil];rw[List.nodup_append];refine⟨cR,oS,fun a ha b kX=>?_⟩;simp only[List.mem_singleton] at kX;subst kX;obtain⟨y,hy,rfl⟩:=List.mem_map.1 ha
      exact f3 y hy)
     (fun k x mm hx C=>by
      simp only[putD,f1] at hx;rcases Nat.lt_or_ge k es.length with ao|a9
      .rw[List.getElem?_append_left ao] at hx;rw[Array.getElem?_push_lt oG] at C;exact hh k x mm hx (by rw[<- C];simp[show k<ms.size by omega])
      .rw[List.getElem?_append_right a9] at hx
       have dT:k - es.length=0:=by
        have:=(bw.1 hx).1;simp at this;omega
       rw[dT] at hx;simp at hx;subst hx;have:k=ms.size:=by omega
       subst this;simp at C;subst C
       exact⟨rfl,hv⟩)
    exact⟨.skip,undef,_,β,by simp[Instr.mapUpdate,run_underlying L.und,MapKept.run_getObj_map hb,L.check w _ key h2,f2,MapKept.run_setObj_map _ hb],.inr ⟨rfl,rfl⟩,.tup [] [] rfl oS,M,X,fun _ h _=>h⟩
   .have Ib:j<es.length:=(bw.1 f5).1
    obtain⟨M,X⟩:=write_map (P:=P) hm hβ hb (es':=putD key v es) (ms':=ms.modify j fun e=>{ e with key:=key,val:=J }) (clock':=clock) (by simp[putD,f1,hl])
     (by
      have:(putD key v es).map (·.1)=es.map (·.1):=by
       simp only[putD,f1,List.map_set]
       have h5:(es.map (·.1))[j]'(by simpa using Ib)=key:=by
        have:=(bw.1 f5).2;simp[this]
       rw[<- h5];exact List.set_getElem_self _
      rw[this];exact cR)
     (fun k x mm hx C=>by
      simp only[putD,f1] at hx;rw[Array.getElem?_modify] at C;by_cases ij:k=j
      .subst ij;simp only[if_pos] at C;rw[List.getElem?_set_self Ib] at hx;simp only[aV] at hx;subst hx;simp only[dx] at C;obtain⟨en',_,rfl⟩:=C;exact⟨rfl,hv⟩
      .rw[if_neg (Ne.symm ij)] at C;rw[List.getElem?_set_ne (Ne.symm ij)] at hx
       exact hh k x mm hx C)
    have hj:ms[j]? =some en:=by simpa using f3
    exact⟨.skip,undef,_,β,by simp[Instr.mapUpdate,run_underlying L.und,MapKept.run_getObj_map hb,L.check w _ key h2,f2,hj,f4,L.stays w key h2,MapKept.run_setObj_map _ hb],.inr ⟨rfl,rfl⟩,.tup [] [] rfl oS,M,X,fun _ h _=>h⟩
  .cases h
 .cases h
theorem getD_ts{ts:Array TypeId}(h:ts.size≠0):ts[0]? =some (ts.getD 0 0):=by
 have:0<ts.size:=by omega
 simp[Array.getD_eq_getD_getElem?,this]
theorem ops_mapDel(hm:MSim P F m β w){ts:Array TypeId}{ty:TypeId}(my:ts.size≠0){x k:D}{vx vk:Value}(hx:R F β w x vx)(hk:R F β w k vk){e:Eff}(h:mapDelD P m (ts.getD 0 0) x k=some e)(hp:e.pre):
 OpS P F m nx β w e (do Pure.pure (Next.value (<- Builtin.delete_ ts ty #[vx,vk]))):=by
 have uo:=getD_ts my;generalize ts.getD 0 0=t at*
 unfold mapDelD at h;split at h
 .rename_i key i xc;rw[keyV_R xc hk];split at h
  .rename_i es hi;cases h;obtain⟨h1,h2,h3⟩:=hp;have L:=mapT_spec h1;obtain⟨r,ms,clock,hβ,rfl,hb,hl,cR,J⟩:=hx.mp_inv hm hi;rcases find_both L w h2 h3 (ms:=ms.toList) (by simpa using hl) (fun k x m hx hm=>(J k x m hx (by simpa using hm)).1) cR with⟨f1,f2,f3⟩|⟨j,d,en,f1,f2,f3,f4,f5⟩
   .obtain⟨X,g2⟩:=write_map (P:=P) hm hβ hb (es':=delD key es) (ms':=ms) (clock':=clock) (by simp[delD,f1,hl]) (by simpa[delD,f1] using cR) (fun k x M hx C=>J k x M (by simpa[delD,f1] using hx) C);exact⟨.value (.tuple #[]),.tuple #[],_,β,by simp[Builtin.delete_,uo,run_underlying L.und,MapKept.run_getObj_map hb,L.check w _ key h2,f2,MapKept.run_setObj_map _ hb],.inl rfl,.tup [] [] rfl oS,X,g2,fun _ h _=>h⟩
   .have Ib:j<es.length:=(bw.1 f5).1;have ND:j<ms.size:=by omega
    have he:∀ k,(ms.eraseIdxIfInBounds j)[k]? =if k<j then ms[k]? else ms[k+1]? :=fun k=>by
     have h0:(ms.eraseIdxIfInBounds j).toList=ms.toList.eraseIdx j:=by simp[Array.eraseIdxIfInBounds,ND]
     rw[<- Array.getElem?_toList,h0,List.getElem?_eraseIdx];simp
    obtain⟨X,g2⟩:=write_map (P:=P) hm hβ hb (es':=delD key es) (ms':=ms.eraseIdxIfInBounds j) (clock':=clock) (by simp[delD,f1,Array.eraseIdxIfInBounds,ND,hl,List.length_eraseIdx,Ib])
     (by simp only[delD,f1];exact List.Nodup.sublist ((List.eraseIdx_sublist es j).map _) cR)
     (fun k x M hx C=>by
      simp only[delD,f1,List.getElem?_eraseIdx] at hx;rw[he] at C;split at hx
      .rename_i ij;rw[if_pos ij] at C;exact J k x M hx C
      .rename_i ij;rw[if_neg ij] at C;exact J (k+1) x M hx C)
    exact⟨.value (.tuple #[]),.tuple #[],_,β,by simp[Builtin.delete_,uo,run_underlying L.und,MapKept.run_getObj_map hb,L.check w _ key h2,f2,MapKept.run_setObj_map _ hb],.inl rfl,.tup [] [] rfl oS,X,g2,fun _ h _=>h⟩
  .cases h
 .cases h
end
theorem sameK_scal{a b:Value}(h:sameK a b=true):scal a=true/\scal b=true:=by
 unfold sameK at h;split at h<;>first|exact⟨rfl,rfl⟩|cases h
def KSame(xs ys:List Value):Prop:=xs.length=ys.length/\∀ (k:Nat) (x y:Value),xs[k]? =some x->ys[k]? =some y->sameK x y=true
section
variable{P:Program}
theorem ksame_scal{xs ys:List Value}(h:KSame xs ys):(∀ x∈xs,scal x=true)/\∀ y∈ys,scal y=true:=by
 refine⟨fun x hx=>?_,fun y hy=>?_⟩
 .obtain⟨k,hk⟩:=cC hx;have ao:k<ys.length:=by rw[<- h.1];exact(bw.1 hk).1
  exact(sameK_scal (h.2 k x ys[k] hk (by simp[ao]))).1
 .obtain⟨k,hk⟩:=cC hy;have ao:k<xs.length:=by rw[h.1];exact(bw.1 hk).1
  exact(sameK_scal (h.2 k xs[k] y (by simp[ao]) hk)).2
theorem equal_one(w:World)(d:Nat){t:TypeId}(ht:oneT P t=true){x y:Value}(hx:kindV x=kindT P t)(hk:sameK x y=true):
 ∃ r:Bool,(Op.equalIn (d+1) t x y).run P w=.ok r w/\(r=true↔x=y):=by
 unfold sameK at hk;unfold kindT at hx;split at hk
 .rename_i k a J b;simp only[beq_iff_eq] at hk;subst hk;split at hx<;>simp[kindV] at hx;rename_i C;exact⟨a==b,run_equalIn_int w d t _ _ a b C,oS⟩
 .rename_i a b;split at hx<;>simp[kindV] at hx;rename_i C;exact⟨a==b,run_equalIn_bool' w d t a b C,oS⟩
 .rename_i a b;split at hx<;>simp[kindV] at hx;rename_i C;refine⟨a==b,?_,?_⟩
  .rw[run_equalIn_string w d t a b C,beq_toListBytes]
  .rw[MapKept.bytes_beq];simp
 .cases hk
theorem step_eq(w:World)(d:Nat){t:TypeId}(ht:oneT P t=true){xs ys:Array Value}(hk:KSame xs.toList ys.toList){off:Nat}(C:off<xs.size)(M:∀ x,xs.toList[off]? =some x->kindV x=kindT P t):
 ∃ a b r,(part t xs off).run P w=.ok a w/\(part t ys off).run P w=.ok b w/\(Op.equalIn (d+1) t a b).run P w=.ok r w/\(r=true↔xs.toList[off]? =ys.toList[off]?):=by
 have cE:xs.size=ys.size:=by simpa using hk.1
 have h0:=ht;simp only[oneT,aM,Bool.not_eq_true'] at h0;have J:off<ys.size:=by omega
 obtain⟨r,hr,X⟩:=equal_one (P:=P) w d ht (x:=xs[off]) (y:=ys[off]) (M _ (by simp[C])) (hk.2 off _ _ (by simp[C]) (by simp[J]));refine⟨xs[off],ys[off],r,?_,?_,hr,?_⟩
 .unfold part;simp[run_isAgg' w (tyOk_und h0.1.2),h0.2,C]
 .unfold part;simp[run_isAgg' w (tyOk_und h0.1.2),h0.2,J]
 .rw[X];simp[C,J]
theorem eqItems_run(w:World)(d:Nat){e:TypeId}(ht:oneT P e=true){xs ys:Array Value}(hk:KSame xs.toList ys.toList):∀ (is:List Nat),(∀ i∈is,i<xs.size/\∀ x,xs.toList[i]? =some x->kindV x=kindT P e)->
 ∃ r:Bool,(Op.eqItems (d+1) e (P.cellsOf e) xs ys is).run P w=.ok r w/\(r=true↔∀ i∈is,xs.toList[i]? =ys.toList[i]?)
 |[],_=>⟨true,by simp[Op.eqItems],oS⟩
 |i::is,h=>by
  have hc:P.cellsOf e=1:=by simp only[oneT,aM,beq_iff_eq] at ht;exact ht.1.1.2
  obtain⟨a,b,r,p1,p2,p3,C⟩:=step_eq w d ht hk (h i oS).1 (h i oS).2;obtain⟨r',J,M⟩:=eqItems_run w d ht hk is fun j hj=>h j (by simp[hj]);rw[hc] at J ⊢;simp only[Op.eqItems,Nat.mul_one,Sem.run_bind,p1,p2,p3,Result.andThen_ok];cases r
  .refine⟨false,oS,?_⟩;simp only[Bool.false_eq_true,false_iff] at C ⊢;intro X;exact C (X i oS)
  .refine⟨r',by simpa using J,?_⟩;rw[M]
   exact⟨fun h j hj=>by
    rcases List.mem_cons.1 hj with rfl|hj
    .exact C.1 rfl
    .exact h j hj,fun h j hj=>h j (by simp[hj])⟩
theorem eqFields_run(w:World)(d:Nat){xs ys:Array Value}(hk:KSame xs.toList ys.toList):∀ (fs:List Field),(∀ f∈fs,f.name≠"_"/\oneT P f.type=true/\f.offset<xs.size/\∀ x,xs.toList[f.offset]? =some x->kindV x=kindT P f.type)->
 ∃ r:Bool,(Op.eqFields (d+1) xs ys fs).run P w=.ok r w/\(r=true↔∀ f∈fs,xs.toList[f.offset]? =ys.toList[f.offset]?)
 |[],_=>⟨true,by simp[Op.eqFields],oS⟩
 |f::fs,h=>by
  obtain⟨hn,ht,X,xF⟩:=h f oS;obtain⟨a,b,r,p1,p2,p3,C⟩:=step_eq w d ht hk X xF;obtain⟨r',js,J⟩:=eqFields_run w d hk fs fun g hg=>h g (by simp[hg]);simp only[Op.eqFields,hn,ne_eq,not_false_eq_true,if_true,Sem.run_bind,p1,p2,p3,Result.andThen_ok];cases r
  .refine⟨false,oS,?_⟩;simp only[Bool.false_eq_true,false_iff] at C ⊢;intro M;exact C (M f oS)
  .refine⟨r',by simpa using js,?_⟩;rw[J]
   exact⟨fun h j hj=>by
    rcases List.mem_cons.1 hj with rfl|hj
    .exact C.1 rfl
    .exact h j hj,fun h j hj=>h j (by simp[hj])⟩
theorem veqs_iff:∀ {a b:List Value},a.all scal=true->(veqs a b=true↔a=b):=fun h=>⟨veqs_eq,fun e=>by subst e;exact veqs_refl h⟩
theorem run_flat_eq(w:World){t:TypeId}{ks:List Nat}(ht:flatT P t=some ks){xs ys:List Value}(hk:KSame xs ys)(zw:xs.map kindV=ks):
 (Op.equal t (.agg xs.toArray) (.agg ys.toArray)).run P w=.ok (veqs xs ys) w:=by
 obtain⟨s1,s2⟩:=ksame_scal hk;have bD:xs.all scal=true:=bj.2 s1
 have fin:∀ r:Bool,(r=true↔xs=ys)->r=veqs xs ys:=fun r h=>by
  have:=veqs_iff (b:=ys) bD;cases r<;>cases hv:veqs xs ys<;>simp_all
 unfold flatT at ht;split at ht
 .rename_i n e X;split at ht
  .rename_i hc;simp only[aM,beq_iff_eq] at hc;simp only[aV] at ht;subst ht;have hlen:xs.length=n:=by have:=congrArg List.length zw;simpa using this
   have M:=hc.1;obtain⟨i,hi⟩:=Option.isSome_iff_exists.1 (tyOk_info (show tyOk P e=true by simp only[oneT,aM] at M;exact M.1.2))
   obtain⟨r,hr,rh⟩:=eqItems_run (P:=P) w 9998 M (xs:=xs.toArray) (ys:=ys.toArray) (by simpa using hk) (List.range n) fun i hi=>by
    simp only[List.mem_range] at hi;refine⟨by simp;omega,fun x hx=>?_⟩;have:(xs.map kindV)[i]? =some (kindV x):=by simp at hx;simp[hx]
    rw[zw] at this;simp[List.getElem?_replicate,hi] at this;exact this.symm
   have e1:=run_equalIn_array (P:=P) (w:=w) 9999 (t:=t) (e:=e) (n:=n) xs.toArray ys.toArray X hi;show(Op.equalIn (9999+1) t _ _).run P w=_;rw[e1,hr,fin r];rw[rh];constructor
   .intro h;apply List.ext_getElem?;intro i;rcases Nat.lt_or_ge i n with ao|a9
    .simpa using h i (by simpa using ao)
    .rw[List.getElem?_eq_none oG,List.getElem?_eq_none (by rw[<- hk.1];omega)]
   .rintro rfl i _;rfl
  .cases ht
 .rename_i fs X;split at ht
  .rename_i hc;simp only[aM,beq_iff_eq,bj,bne_iff_ne,ne_eq,Bool.not_eq_true'] at hc;obtain⟨⟨hf,afK⟩,aF⟩:=hc;simp only[aV] at ht;subst ht;have hlen:xs.length=fs.toList.length:=by have:=congrArg List.length zw;simpa using this
   have o6:∀ (l:List Field) (o:Nat),P.runs o l=some (o+l.length)->(∀ f∈l,P.cellsOf f.type=1)->∀ (j:Nat) (f:Field),l[j]? =some f->f.offset=o+j:=by
    intro l
    induction l with
    |nil=>intro o _ _ j f hj;simp at hj
    |cons g l ih=>
     intro o C h1 j f hj;simp only[Program.runs] at C;split at C
     .rename_i hgo;have xG:=h1 g oS;rw[xG] at C;cases j with
      |zero=>simp at hj;subst hj;simpa using hgo
      |succ j=>
       have:=ih (o+1) (by rw[C];simp;omega) (fun f hf=>h1 f (by simp[hf])) j f (by simpa using hj);omega
     .cases C
   have M:∀ f∈fs.toList,P.cellsOf f.type=1:=fun f J=>by
    have:=(hf f J).2;simp only[oneT,aM,beq_iff_eq] at this;exact this.1.1.2
   have iM:=o6 fs.toList 0 (by simpa using afK) M
   obtain⟨r,hr,rh⟩:=eqFields_run (P:=P) w 9998 (xs:=xs.toArray) (ys:=ys.toArray) (by simpa using hk) fs.toList fun f J=>by
    obtain⟨j,hj⟩:=cC J;have cV:j<fs.toList.length:=(bw.1 hj).1;have C:f.offset=j:=by have:=iM j f hj;omega
    refine⟨(hf f J).1,(hf f J).2,by rw[C];simp;simp at hlen cV;omega,fun x hx=>?_⟩;rw[C] at hx;have h1:(xs.map kindV)[j]? =some (kindV x):=by simp at hx;simp[hx]
    rw[zw,List.getElem?_map,hj] at h1;simpa using h1.symm
   have CX:P.fieldsOf t=fs:=by simp[Program.fieldsOf,X]
   have e1:=run_equalIn_struct (P:=P) w 9999 t xs.toArray ys.toArray (by rw[CX];exact X) aF;show(Op.equalIn (9999+1) t _ _).run P w=_;rw[e1,CX,hr,fin r];rw[rh];constructor
   .intro h;apply List.ext_getElem?;intro j;rcases Nat.lt_or_ge j fs.toList.length with ao|a9
    .have h1:=h fs.toList[j] (cy ao);have C:=iM j fs.toList[j] oS;rw[Nat.zero_add] at C;rw[C] at h1;simpa using h1
    .rw[List.getElem?_eq_none oG,List.getElem?_eq_none (by rw[<- hk.1];omega)]
   .rintro rfl f _;rfl
  .cases ht
 .cases ht
variable{F:Nat->Prop}{m:Mem}{nx:Nat}{β:Pla}{w:World}
theorem zipV_spec:∀ {xs ys:List D} {a b:List Value},zipV xs ys=some (a,b)->xs=a.map D.s/\ys=b.map D.s/\KSame a b
 |[],[],a,b,h=>by
  simp[zipV] at h;obtain⟨rfl,rfl⟩:=h;exact⟨rfl,rfl,rfl,oS⟩
 | .s x::xs,.s y::ys,a,b,h=>by
  simp only[zipV] at h;split at h
  .rename_i hk;simp only[dx] at h;obtain⟨⟨a',J⟩,h1,h2⟩:=h;simp only[bQ] at h2;obtain⟨rfl,rfl⟩:=h2;obtain⟨e1,e2,e3,e4⟩:=zipV_spec h1;refine⟨by simp[e1],by simp[e2],by simp[e3],fun k u v C hv=>?_⟩;cases k with
   |zero=>simp at C hv;subst C;subst hv;exact hk
   |succ k=>exact e4 k u v (by simpa using C) (by simpa using hv)
  .cases h
 |[],_::_,_,_,h=>by simp[zipV] at h
 |_::_,[],_,_,h=>by simp[zipV] at h
 | .u::_,_::_,_,_,h | .ub::_,_::_,_,_,h | .opt _ _::_,_::_,_,_,h | .agg _::_,_::_,_,_,h | .tup _::_,_::_,_,_,h | .z::_,_::_,_,_,h | .sl _ _::_,_::_,_,_,h | .pt _::_,_::_,_,_,h
 | .rs _ _ _::_,_::_,_,_,h | .rp _ _::_,_::_,_,_,h | .mp _::_,_::_,_,_,h | .fn _ _ _::_,_::_,_,_,h=>by simp[zipV] at h
 | .s _::_,.u::_,_,_,h | .s _::_,.ub::_,_,_,h | .s _::_,.opt _ _::_,_,_,h | .s _::_,.agg _::_,_,_,h | .s _::_,.tup _::_,_,_,h | .s _::_,.z::_,_,_,h | .s _::_,.sl _ _::_,_,_,h | .s _::_,.pt _::_,_,_,h
 | .s _::_,.rs _ _ _::_,_,_,h | .s _::_,.rp _ _::_,_,_,h | .s _::_,.mp _::_,_,_,h | .s _::_,.fn _ _ _::_,_,_,h=>by simp[zipV] at h
theorem agg_s_R{a:List Value}{v:Value}(h:R F β w (.agg (a.map D.s)) v):v=.agg a.toArray:=by
 obtain⟨vs,rfl,hl,hr⟩:=h.agg_inv;congr 2;apply List.ext_getElem?;intro k;rcases Nat.lt_or_ge k a.length with ao|C
 .have hk:k<vs.length:=by rw[hl];simpa using ao
  have:=(hr k (.s a[k]) vs[k] (by simp[ao]) (by simp[hk])).s_inv.1;simp[ao,hk,this]
 .rw[List.getElem?_eq_none (by rw[hl];simpa using C),List.getElem?_eq_none C]
theorem ops_aggEq(hm:MSim P F m β w){op:BinOp}{t:TypeId}(J M:Operand){xs ys:List D}{x y:Value}{q:Prop×D}(hx:R F β w (.agg xs) x)(hy:R F β w (.agg ys) y)(h:aggEqD P op t xs ys=some q)(hp:q.1):
 OpS P F m nx β w { pre:=q.1,val:=q.2 } ((do eqGuard op t J M x y;binOp op t x y)>>=fun r=>Pure.pure (Next.value r)):=by
 unfold aggEqD at h;split at h
 .rename_i X z hf C;cases h;obtain⟨a,b⟩:=z;obtain⟨e1,e2,hk⟩:=zipV_spec C;subst e1 e2;rw[agg_s_R hx,agg_s_R hy];have:=run_flat_eq (P:=P) w hf hk hp.1;refine OpS.val hm (v:=.bool (veqs a b)) ?_ (.s _ rfl);have e3:(Op.equalIn 10000 t (.agg a.toArray) (.agg b.toArray)).run P w=.ok (veqs a b) w:=this;simp only[Sem.run_bind,run_eqGuard_agg (P:=P) w .eql t J M _ _ hp.2,Result.andThen_ok,run_eql_struct,e3,Sem.run_pure]
 .rename_i X z hf C;cases h;obtain⟨a,b⟩:=z;obtain⟨e1,e2,hk⟩:=zipV_spec C;subst e1 e2;rw[agg_s_R hx,agg_s_R hy];have:=run_flat_eq (P:=P) w hf hk hp.1;refine OpS.val hm (v:=.bool !(veqs a b)) ?_ (.s _ rfl);have e3:(Op.equalIn 10000 t (.agg a.toArray) (.agg b.toArray)).run P w=.ok (veqs a b) w:=this;simp only[Sem.run_bind,run_eqGuard_agg (P:=P) w .neq t J M _ _ hp.2,Result.andThen_ok,run_neq_struct,e3,Sem.run_pure]
 .cases h
end
section
variable{P:Program}{F:Nat->Prop}{m:Mem}{nx:Nat}{β:Pla}{w:World}
theorem pairs_R{ps:Array (Nat×Operand)}{ρ:Operand->D}{a:Act}(h:∀ x∈(ps.toList.map (·.2)),R F β w (ρ x) (a.eval x)):
 (ps.toList.map fun q=>(q.1,ρ q.2)).length=(ps.map fun(i,x)=>(i,a.eval x)).size/\
 ∀ (k:Nat) (p:Nat×D) (q:Nat×Value),(ps.toList.map fun q=>(q.1,ρ q.2))[k]? =some p->(ps.map fun(i,x)=>(i,a.eval x))[k]? =some q->p.1=q.1/\R F β w p.2 q.2:=by
 refine⟨oS,fun k p q hk hq=>?_⟩;simp only[List.getElem?_map,Array.getElem?_map] at hk hq;cases C:ps[k]? with
 |none=>simp[C] at hq
 |some y=>
  simp[C] at hk hq;subst hk;subst hq;exact⟨rfl,h _ (List.mem_map.2 ⟨y,by simpa using Array.mem_of_getElem? C,rfl⟩)⟩
theorem list_R{xs:Array Operand}{ρ:Operand->D}{a:Act}(h:∀ x∈xs,R F β w (ρ x) (a.eval x)):
 (xs.toList.map a.eval).length=(xs.toList.map ρ).length/\∀ (k:Nat) (d:D) (v:Value),(xs.toList.map ρ)[k]? =some d->(xs.toList.map a.eval)[k]? =some v->R F β w d v:=by
 refine⟨oS,fun k d v hk hv=>?_⟩;simp only[List.getElem?_map] at hk hv;cases hx:xs.toList[k]? with
 |none=>simp[hx] at hk
 |some x=>
  simp[hx] at hk hv;subst hk;subst hv;exact h x (by simpa using bU hx)
theorem ro_R{x:Option Operand}{ρ:Operand->D}{a:Act}(h:∀ y,x=some y->R F β w (ρ y) (a.eval y)):Ro F β w (x.map ρ) (x.map a.eval):=by
 cases x with
 |none=>exact .inl ⟨rfl,rfl⟩
 |some y=>exact .inr ⟨_,_,rfl,rfl,h y rfl⟩
theorem OpS.of_eq{e:Eff}{s:Sem Next}(h:e.ups=[]/\e.new=0/\OpS P F m nx β w e s):OpS P F m nx β w e s:=h.2.2
theorem builtin_sound(hm:MSim P F m β w){b:Builtin}{ts:Array TypeId}{ty:TypeId}{cs:Array Bool}{ds:List D}{vs:List Value}{e:Eff}(hn:e.new=1->β nx=none)(hl:vs.length=ds.length)
 (hR:∀ (k:Nat) (d:D) (v:Value),ds[k]? =some d->vs[k]? =some v->R F β w d v) (C:ts.size=ds.length) (h:builtinD P m nx b ts ds=some e) (hp:e.pre):OpS P F m nx β w e (builtin b ts ty cs vs.toArray):=by
 cases b
 case len=>
  match ds,vs,hl,h,hR with
  |[d],[v],_,h,hR=>
   simp only[builtinD] at h;exact OpS.of_eq (ops_len hm (by simp at C;omega) (hR 0 d v rfl rfl) h hp)
  |[],_,_,h,_=>simp[builtinD] at h
  |_::_::_,_,_,h,_=>simp[builtinD] at h
 case append=>
  match ds,vs,hl,h,hR with
  |[s,x],[v,u],_,h,hR=>
   simp only[builtinD] at h;split at h
   .rename_i J
    match ts,C,J,h with
    |⟨[t,t']⟩,_,J,h=>
     simp[Array.getD_eq_getD_getElem?] at J h;subst J
     have M:e.new=1:=by
      unfold appendD at h;simp only at h;split at h
      .cases h
      .split at h
       .simp only[aV] at h;rw[<- h]
       .split at h
        .simp only[aV] at h;rw[<- h]
        .cases h
       .cases h
     exact ops_append hm (hn M) (hR 0 s v rfl rfl) (hR 1 x u rfl rfl) h hp
    |⟨[]⟩,C,_,_=>simp at C
    |⟨[_]⟩,C,_,_=>simp at C
    |⟨_::_::_::_⟩,C,_,_=>simp at C
   .cases h
  |[],_,_,h,_=>simp[builtinD] at h
  |[_],_,_,h,_=>simp[builtinD] at h
  |_::_::_::_,_,_,h,_=>simp[builtinD] at h
 case min=>
  match ds,vs,hl,h,hR with
  |[.s (.int k a),.s (.int k' b)],[v,u],_,h,hR=>
   simp only[builtinD,aV] at h;subst h;simp only at hp;subst hp;exact ops_min hm (hR 0 _ v rfl rfl) (hR 1 _ u rfl rfl)
  |ds,vs,hl,h,hR=>
   unfold builtinD at h;split at h<;>simp_all;subst h;subst hp
   match vs,hl with
   |[v,u],_=>exact ops_min hm (hR 0 _ v rfl rfl) (hR 1 _ u rfl rfl)
 case clear=>
  match ds,vs,hl,h,hR with
  |[d],[v],_,h,hR=>
   cases d with
   |rs i off n=>
    simp only[builtinD] at h;cases hi:m i with
    |none=>simp[hi] at h
    |some r=>
    cases r with
    |map es=>simp[hi] at h
    |raw es=>simp[hi] at h
    |ren f r=>simp[hi] at h
    |cells c X=>
     simp only[hi,aV] at h;subst h;obtain⟨h1,h2,h3⟩:=hp;exact ops_clear hm (by simp at C;omega) (hR 0 _ v rfl rfl) hi h1 h2 h3
   |_=>simp[builtinD] at h
  |[],_,_,h,_=>simp[builtinD] at h
  |_::_::_,_,_,h,_=>simp[builtinD] at h
 case delete=>
  match ds,vs,hl,h,hR with
  |[x,k],[v,u],_,h,hR=>exact ops_mapDel hm (by simp at C;omega) (hR 0 x v rfl rfl) (hR 1 k u rfl rfl) h hp
  |[],_,_,h,_=>simp[builtinD] at h
  |[_],_,_,h,_=>simp[builtinD] at h
  |_::_::_::_,_,_,h,_=>simp[builtinD] at h
 all_goals (simp[builtinD] at h)
theorem aop_sound(hm:MSim P F m β w){o:Oper}{env:Env}{a:Act}{e:Eff}(hn:e.new=1->β nx=none)(hE:ESim F β w env a)(ha:asks env o.op)(h:aop P o.op (rho env o.op) m nx=some e)(hp:e.pre):
 OpS P F m nx β w e (execOp a.eval o):=by
 obtain⟨dst,op,type,pos,after,guard⟩:=o;simp only at ha h
 have hR:(∀ c x y,op≠ .pick c x y)->∀ x∈op.operands.toList,R F β w (rho env op x) (a.eval x):=fun XY x hx=>by
  have h1:rho env op x=(opd env x).core:=by cases op<;>first|rfl|exact absurd rfl (XY _ _ _)
  have h2:(opd env x).ask:=by cases op<;>first|exact ha x hx|exact absurd rfl (XY _ _ _)
  rw[h1];exact(hE.opd x).core_of _ h2
 unfold execOp;cases op with
 |move x=>
  simp only[aop,aV] at h;subst h;exact OpS.val hm oS (hR oS x gk)
 |assign x=>
  simp only[aop,aV] at h;subst h;exact OpS.val hm oS (hR oS x gk)
 |pick c x y=>
  simp only[aop,rho] at h;cases hc:(opd env c).core.bool? with
  |none=>simp[hc] at h
  |some t=>
  simp only[hc,aV] at h;subst h
  have IW:a.eval c=.bool t:=by
   have h1:=(hE.opd c).core_of _ ha;unfold D.bool? at hc;split at hc
   .rename_i b he;cases hc;rw[he] at h1;exact h1.s_inv.1
   .cases hc
  exact ops_pick hm IW (hE.opd x) (hE.opd y) hp.1 hp.2
 |alloc t=>
  simp only[aop,aV] at h;subst h;exact ops_alloc hm (hn rfl) hp
 |box t x=>
  simp only[aop,aV] at h;subst h;exact ops_box hm (hn rfl) (hR oS x gk) hp
 |build t ps=>
  simp only[aop] at h;obtain⟨q1,q2⟩:=pairs_R (F:=F) (β:=β) (w:=w) (ps:=ps) (ρ:=rho env (.build t ps)) (a:=a) (fun x hx=>hR oS x (by simpa[Op.operands] using hx));split at h
  .rename_i fs hu;cases hf:fillD (fun i=>Option.map (fun f=>(f.offset,P.cellsOf f.type)) fs[i]?) (zeroP P t) (ps.toList.map fun q=>(q.1,rho env (.build t ps) q.2)) with
   |none=>simp[hf] at h
   |some cs=>
    simp only[hf,Option.map_some,aV] at h;subst h;exact ops_build_struct hm hp.1 hu hp.2 q1 q2 hf
  .rename_i n e' hu;cases hf:fillD (fun i=>some (i*P.cellsOf e',P.cellsOf e')) (zeroP P t) (ps.toList.map fun q=>(q.1,rho env (.build t ps) q.2)) with
   |none=>simp[hf] at h
   |some cs=>
    simp only[hf,Option.map_some,aV] at h;subst h;exact ops_build_array hm hp.1 hu hp.2 q1 q2 hf
  .cases h
 |buildSlice t n ps=>
  simp only[aop] at h;obtain⟨q1,q2⟩:=pairs_R (F:=F) (β:=β) (w:=w) (ps:=ps) (ρ:=rho env (.buildSlice t n ps)) (a:=a) (fun x hx=>hR oS x (by simpa[Op.operands] using hx));cases hf:fillD (fun i=>some (i*P.cellsOf (elemP P t),P.cellsOf (elemP P t))) (replD n (zeroP P (elemP P t))) (ps.toList.map fun q=>(q.1,rho env (.buildSlice t n ps) q.2)) with
  |none=>simp[hf] at h
  |some cs=>
   simp only[hf,Option.map_some,aV] at h;subst h;obtain⟨_,C,J,p4⟩:=hp;exact ops_buildSlice hm (hn rfl) J C p4 q1 q2 hf
 |load t x=>
  have hx:=hR oS x gk;simp only[aop] at h;split at h
  .rename_i cs he;rw[he] at hx;simp only[aV] at h;subst h;exact ops_load_pt hm hx hp.1 hp.2
  .rename_i i off he;rw[he] at hx;split at h
   .rename_i cs ty hi;simp only[aV] at h;subst h;exact ops_load_rp hm hx hi hp.1 hp.2
   .cases h
  .cases h
 |store t x y=>
  have hx:=hR oS x gk;have hy:=hR oS y gk;simp only[aop] at h;split at h
  .rename_i i off he;rw[he] at hx;split at h
   .rename_i cs ty hi;simp only[aV] at h;subst h;obtain⟨X,C,J,p4⟩:=hp;exact ops_store hm hx hy hi X C J p4
   .cases h
  .cases h
 |nilCheck x=>
  have hx:=hR oS x gk;simp only[aop] at h;split at h
  .rename_i cs he;rw[he] at hx;simp only[aV] at h;subst h;obtain⟨ad,h1,h2⟩:=ops_nilCheck_pt (pre:=True) (nx:=nx) hm hx;simp only[h1] at h2 ⊢;exact h2
  .rename_i i off he;rw[he] at hx;split at h
   .rename_i r hi;simp only[aV] at h;subst h;obtain⟨ad,h1,h2⟩:=ops_nilCheck_rp (pre:=True) (nx:=nx) (rd:=[i]) hm hx hi;simp only[h1] at h2 ⊢;exact h2
   .cases h
  .cases h
 |binOp op t x y yt=>
  have hx:=hR oS x gk;have hy:=hR oS y gk;simp only[aop] at h;split at h
  .rename_i e' M;simp only[aV] at h;subst h;unfold nilD at M;split at M
   .rename_i es n he;simp only[aV] at M;subst M;rw[he] at hx;exact ops_nil_sl hm t x (.const (.slice none 0 0)) hx hp
   .rename_i i off he;split at M
    .rename_i r hi;simp only[aV] at M;subst M;rw[he] at hx;exact ops_nil_rp hm .eql t x _ hx hi hy hp (.inl ⟨rfl,rfl⟩)
    .cases M
   .rename_i i off he;split at M
    .rename_i r hi;simp only[aV] at M;subst M;rw[he] at hx;exact ops_nil_rp hm .neq t x _ hx hi hy hp (.inr ⟨rfl,rfl⟩)
    .cases M
   .cases M
  .unfold binD at h;split at h
   .rename_i b1 b2 e1 e2;rw[e1] at hx;rw[e2] at hy;split at h
    .simp only[Option.map_some,aV] at h;subst h;exact ops_eq_bool hm .eql t x y hx hy hp (.inl ⟨rfl,rfl⟩)
    .simp only[Option.map_some,aV] at h;subst h;exact ops_eq_bool hm .neq t x y hx hy hp (.inr ⟨rfl,rfl⟩)
    .simp at h
   .rename_i v1 v2 _ e1 e2;rw[e1] at hx;rw[e2] at hy;cases hb:binV op v1 v2 with
    |none=>simp[hb] at h
    |some q=>
     simp only[hb,Option.map_some,aV] at h;subst h;exact ops_binV hm op t x y hx hy hb hp
   .rename_i xs ys e1 e2;rw[e1] at hx;rw[e2] at hy;cases hb:aggEqD P op t xs ys with
    |none=>simp[hb] at h
    |some q=>
     simp only[hb,Option.map_some,aV] at h;subst h;exact ops_aggEq hm x y hx hy hb hp
   .simp at h
 |unOp op t x=>
  have hx:=hR oS x gk;simp only[aop] at h;split at h
  .rename_i v he;rw[he] at hx;cases hb:unV op v with
   |none=>simp[hb] at h
   |some q=>
    simp only[hb,Option.map_some,aV] at h;subst h;exact ops_unV hm op hx hb
  .cases h
 |convert src dst x=>
  have hx:=hR oS x gk;simp only[aop] at h;split at h
  .rename_i k k' n hd he;rw[he] at hx;simp only[aV] at h;subst h;exact ops_conv_int hm src dst hx hd (tyOk_und hp)
  .rename_i e' b hd he;rw[he] at hx;split at h
   .rename_i fF;simp only[aV] at h;subst h;exact ops_bytes hm hx hp.1 hd fF hp.2
   .cases h
  .cases h
 |makeFunc f fs cs=>
  simp only[aop,aV] at h;subst h;obtain⟨q1,q2⟩:=list_R (F:=F) (β:=β) (w:=w) (xs:=fs) (ρ:=rho env (.makeFunc f fs cs)) (a:=a) (fun x hx=>hR oS x (by simp[Op.operands];exact .inl hx));obtain⟨q3,q4⟩:=list_R (F:=F) (β:=β) (w:=w) (xs:=cs) (ρ:=rho env (.makeFunc f fs cs)) (a:=a) (fun x hx=>hR oS x (by simp[Op.operands];exact .inr hx));have:=ops_makeFunc (pre:=True) (nx:=nx) hm f q1 q3 q2 q4;have e1:(fs.toList.map a.eval).toArray=fs.map a.eval:=by apply Array.ext';simp
  have e2:(cs.toList.map a.eval).toArray=cs.map a.eval:=by apply Array.ext';simp
  rw[e1,e2] at this;exact this
 |makeMap t r=>
  simp only[aop] at h;split at h
  .simp only[aV] at h;subst h;exact ops_makeMap hm (hn rfl)
  .cases h
 |makeSlice t l c=>
  have hx:=hR oS l gk;have hy:=hR oS c gk;simp only[aop] at h;split at h
  .rename_i n k e1 e2;rw[e1] at hx;rw[e2] at hy;simp only[aV] at h;subst h;obtain⟨X,C,J,p4,p5⟩:=hp;subst C;show OpS P F m nx β w _ (do Pure.pure (Next.value (<- Instr.makeSlice t (a.eval l) (a.eval c))));rw[hx.s_inv.1,hy.s_inv.1];exact ops_makeSlice hm (hn rfl) X J p4 p5
  .cases h
 |slice t x lo hi mx=>
  have hx:=hR oS x gk;simp only[aop] at h;exact OpS.of_eq (ops_slice hm hx (ro_R fun y hy=>hR oS y (by simp[Op.operands,hy])) (ro_R fun y hy=>hR oS y (by simp[Op.operands,hy])) (ro_R fun y hy=>hR oS y (by simp[Op.operands,hy])) h hp)
 |fieldAddr t x k=>
  have hx:=hR oS x gk;simp only[aop] at h;split at h
  .rename_i off ft cs hf he;rw[he] at hx;simp only[aV] at h;subst h;exact ops_fieldAddr_pt hm hx hf hp
  .rename_i off ft i o hf he;rw[he] at hx;split at h
   .rename_i r hi;simp only[aV] at h;subst h;exact ops_fieldAddr_rp hm hx hi hf hp
   .cases h
  .cases h
 |field t x k=>
  have hx:=hR oS x gk;simp only[aop] at h;split at h
  .rename_i off ft cs hf he;rw[he] at hx;simp only[aV] at h;subst h;exact ops_field hm hx hf hp.1 hp.2
  .cases h
 |indexAddr t x i=>
  have hx:=hR oS x gk;have hy:=hR oS i gk;simp only[aop] at h;split at h
  .rename_i es n kk k e1 e2;rw[e1] at hx;rw[e2] at hy;simp only[aV] at h;subst h;obtain⟨X,C,J,_⟩:=hp;exact ops_indexAddr_sl hm hx hy X C J
  .rename_i j off n kk k e1 e2;rw[e1] at hx;rw[e2] at hy;split at h
   .rename_i r hj;simp only[aV] at h;subst h;obtain⟨X,C,J⟩:=hp;exact ops_indexAddr_rs hm hx hj hy X C J
   .cases h
  .rename_i j off kk k e1 e2;rw[e1] at hx;rw[e2] at hy;split at h
   .rename_i r hj;simp only[aV] at h;subst h;obtain⟨X,C,J⟩:=hp;exact ops_indexAddr_arr hm hx hj hy X C J
   .cases h
  .cases h
 |index t x i=>
  have hx:=hR oS x gk;have hy:=hR oS i gk;simp only[aop] at h;split at h
  .rename_i b kk k e1 e2;rw[e1] at hx;rw[e2] at hy;simp only[aV] at h;subst h;obtain⟨X,C,J⟩:=hp;exact ops_index_str hm hx hy X C J
  .rename_i cs kk k e1 e2;rw[e1] at hx;rw[e2] at hy;simp only[aV] at h;subst h;obtain⟨X,C,J,p4⟩:=hp;exact ops_index_agg hm hx hy X C J p4
  .cases h
 |lookup t x k ok=>exact ops_lookup hm (hR oS x gk) (hR oS k gk) (by simpa only[aop] using h) hp
 |mapUpdate t x k v=>exact ops_mapPut hm (hR oS x gk) (hR oS k gk) (hR oS v gk) (by simpa only[aop] using h) hp
 |insert t x k v=>exact ops_mapPut hm (hR oS x gk) (hR oS k gk) (hR oS v gk) (by simpa only[aop] using h) hp
 |extract x k=>
  have hx:=hR oS x gk;simp only[aop] at h;split at h
  .rename_i cs e1;rw[e1] at hx;simp only[aV] at h;subst h;exact ops_extract hm hx hp
  .cases h
 |call c=>
  simp only[aop] at h;split at h
  .rename_i b hb;split at h
   .rename_i my;obtain⟨q1,q2⟩:=list_R (F:=F) (β:=β) (w:=w) (xs:=c.args) (ρ:=rho env (.call c)) (a:=a) (fun x hx=>hR oS x (by simp[Op.operands,Call.operands,hb];exact hx));have:=builtin_sound hm (b:=b) (ts:=c.argTypes) (ty:=type) (cs:=c.args.map fun | .const _=>true|_=>false) (e:=e) hn q1 q2 (by simpa using my) h hp;obtain⟨n,v,w',β',h1,h2⟩:=this;refine⟨n,v,w',β',?_,h2⟩;simp only[resolve,hb,Sem.run_bind,Sem.run_pure,Result.andThen_ok,invoke];have e1:(c.args.toList.map a.eval).toArray=c.args.map a.eval:=by apply Array.ext';simp
    rw[<- e1];exact h1
   .cases h
  .cases h
 |_=>simp[aop] at h
end
section
variable{P:Program}{F F':Nat->Prop}{m:Mem}{nx:Nat}{β β':Pla}{w w':World}
theorem R.lift{d:D}{v:Value}(h:R F noRows w d v)(hf:∀ b,¬ F b->¬ F' b/\β.free b):R F' β w d v:=
 h.gen (bF _) (fun b _ h1 _=>⟨SameB.refl w b,(hf b h1).2,(hf b h1).1⟩) fun i p _ hp=>by cases hp
theorem owned_free{b:Nat}(h:¬ owned F β b):¬ F b/\β.free b:=by
 unfold owned at h;have h1:¬ F b:=fun e=>h (.inl e);refine⟨h1,?_⟩;by_cases hb:β.free b
 .exact hb
 .exact absurd (.inr hb) h
theorem owned_lt(hm:MSim P F m β w){b:Nat}(h:owned F β b):b<w.heap.size:=by
 rcases h with h|h
 .exact hm.fb b h
 .unfold Pla.free at h;simp only[Classical.not_forall] at h;obtain⟨i,p,hp,hb⟩:=h;exact hm.lt i p b hp (Decidable.not_not.1 hb)
theorem scal_R{d:D}{v:Value}(hs:d.scal=true)(h:R F β w d v):R F' β' w' d v:=by
 have tup:∀ cs:List D,(∀ d∈cs,∃ x,d=.s x)->R F β w (.tup cs) v->R F' β' w' (.tup cs) v:=fun cs hc h=>by
  obtain⟨vs,rfl,hl,hr⟩:=h.tup_inv;refine .tup cs vs hl fun k d u hk C=>?_;obtain⟨x,rfl⟩:=hc d (bU hk);have:=(hr k _ u hk C).s_inv;rw[this.1];exact .s x this.2
 unfold D.scal at hs;split at hs
 .rw[h.s_inv.1];exact .s _ h.s_inv.2
 .obtain⟨b,rfl⟩:=h.ub_inv;exact .ub b
 .exact tup _ oS h
 .exact tup _ oS h
 .exact tup _ oS h
 .cases hs
theorem kept_step(h:Kept w w'):Step β w β w':=step_ext h.1 h.2.1 h.2.2
theorem MSim.kept(hm:MSim P F m β w)(h:Kept w w'):MSim P F m β w':=hm.ext h.1 h.2.1 h.2.2
theorem call_pure(hm:MSim P F m β w){f:FuncId}{args:List D}{r:D}{vs:Array Value}(hc:PCall P f args r)(hR:Rs F β w args vs):
 Calls P f vs w fun e w'=>∃ v,e=.returned v/\R F β w' r v/\MSim P F m β w'/\Step β w β w':=
 (hc.2.2 (owned F β) w vs (fun b hb=>owned_lt hm hb) ⟨hR.1,fun k d v hd hv=>hc.2.1 d (bU hd) F β w v (hR.2 k d v hd hv)⟩).mono
  fun e w' ⟨v,he,hr,hk⟩=>⟨v,he,hr.lift fun b hb=>owned_free hb,hm.kept hk,kept_step hk⟩
theorem sns_R{rds:List Nat}(C:∀ i∈rds,∀ r,m i=some r->∃ p,β i=some p/\RowR P F β w r p/\∀ b,p.blk=some b->¬ F b):∀ {aS bs:List D},Sns P rds m aS bs->aS.length=bs.length/\∀ (k:Nat) (a b:D),aS[k]? =some a->bs[k]? =some b->∀ v,R F β w a v->R F noRows w b v
 |[],[],_=>⟨rfl,oS⟩
 |a::aS,b::bs,h=>by
  obtain⟨h1,h2⟩:=sns_R C h.2;refine⟨by simp[h1],fun k x y hx hy v hv=>?_⟩;cases k with
  |zero=>
   simp at hx hy;subst hx;subst hy;exact h.1 F β w v C hv
  |succ k=>exact h2 k x y (by simpa using hx) (by simpa using hy) v hv
 |[],_::_,h=>h.elim
 |_::_,[],h=>h.elim
theorem call_snap(hm:MSim P F m β w){f:FuncId}{args args':List D}{rds:List Nat}{C:Mem}{r:D}{vs:Array Value}(M:Sns P rds C args args')(J:∀ i∈rds,C i≠none->m i=C i)(hc:PCall P f args' r)(hs:r.scal=true)(hR:Rs F β w args vs):
 Calls P f vs w fun e w'=>∃ v,e=.returned v/\R F β w' r v/\MSim P F m β w'/\Step β w β w':=by
 obtain⟨h1,h2⟩:=sns_R (P:=P) (F:=F) (β:=β) (w:=w) (fun i hi r hr=>by
  obtain⟨p,hp,ax⟩:=hm.row i r (by rw[J i hi (by simp[hr])];exact hr)
  exact⟨p,hp,ax,fun b hb=>hm.nf i p b hp hb⟩) M
 refine(hc.2.2 F w vs (fun b hb=>hm.fb b hb) ⟨by rw[hR.1,h1],fun k d v hd hv=>?_⟩).mono fun e w' ⟨v,he,hr,hk⟩=>⟨v,he,scal_R hs hr,hm.kept hk,kept_step hk⟩
 have ao:k<args.length:=by rw[h1];exact(bw.1 hd).1
 exact h2 k args[k] d (by simp[ao]) hd v (hR.2 k args[k] v (by simp[ao]) hv)
theorem call_own(hm:MSim P F m β w)(hn:β nx=none){f:FuncId}{args es:List D}{n:Nat}{t:TypeId}{vs:Array Value}(hc:OCall P f args es n t)(hR:Rs F β w args vs):
 Calls P f vs w fun e w'=>∃ v β',e=.returned v/\R F β' w' (.rs nx 0 n) v/\MSim P F (up m nx (some (.cells es t))) β' w'/\Step β w β' w'/\∀ i,i≠nx->β' i=β i:=by
 refine(hc.2.2 (owned F β) w vs (fun b hb=>owned_lt hm hb) ⟨hR.1,fun k d v hd hv=>hc.2.1 d (bU hd) F β w v (hR.2 k d v hd hv)⟩).mono ?_;rintro e w' ⟨v,p,he,LB,J,ax,hv,hk⟩;have jd:=hm.kept hk
 have hs:Step β w (up β nx (some p)) w':=by
  refine⟨hk.1,fun b hb hf=>⟨hk.2.1 b hb,fun i q hq=>?_⟩,fun i q hq=>.inl ?_,hk.2.2⟩
  .by_cases hi:i=nx
   .subst hi;rw[up_same] at hq;cases hq;intro e;have:=(J b e).1;omega
   .rw[up_ne _ _ hi] at hq;exact hf i q hq
  .rw[up_ne _ _ (fun e=>by rw[e,hn] at hq;cases hq)];exact hq
 have C:∀ i q b,up β nx (some p) i=some q->q.blk=some b->(i=nx/\q=p)\/(i≠nx/\β i=some q):=fun i q b hq _=>by
  by_cases hi:i=nx
  .subst hi;rw[up_same] at hq;cases hq;exact .inl ⟨rfl,rfl⟩
  .rw[up_ne _ _ hi] at hq;exact .inr ⟨hi,hq⟩
 have X:∀ b,¬ (owned F β b\/p.blk=some b)->¬ F b/\Pla.free (up β nx (some p)) b:=fun b hb=>by
  have h1:=owned_free (F:=F) (β:=β) (b:=b) (fun e=>hb (.inl e));refine⟨h1.1,fun i q hq e=>?_⟩;rcases C i q b hq e with⟨_,rfl⟩|⟨_,iN⟩
  .exact hb (.inr e)
  .exact h1.2 i q iN e
 have LC:RowR P F (up β nx (some p)) w' (.cells es t) p:=by
  cases ax with
  |nil _=>exact .nil _
  |cells _ _ b o room sz c h1 h2 h3 h4 h5=>
   refine .cells es t b o room sz c h1 h2 h3 h4 fun k d hd=>?_;obtain⟨u,ry,rz,rA⟩:=h5 k d hd;exact⟨u,ry,rz.lift X,rA⟩
 refine⟨v,up β nx (some p),he,?_,?_,hs,fun i hi=>up_ne _ _ hi⟩
 .cases hv with
  |rsd _ _ _ _ h _=>rw[up_same] at h;cases h;exact absurd rfl LB
  |rsn _ a h=>rw[up_same] at h;cases h;exact .rsn nx a (up_same _ _ _)
  |rsz _ _ a b o len room sz h=>rw[up_same] at h;cases h;exact .rsz nx 0 a b o len room sz (up_same _ _ _)
  |rs _ _ _ cap b o len room sz h h1 h2 h3 h4=>rw[up_same] at h;cases h;exact .rs nx 0 n cap b o len room sz (up_same _ _ _) h1 h2 h3 h4
 .refine⟨fun i r hi=>?_,fun i j q q' b hq iN e M=>?_,fun i q b hq e=>?_,fun i q b hq e=>?_,jd.fb⟩
  .by_cases bm:i=nx
   .subst bm;rw[up_same] at hi;cases hi;exact⟨p,up_same _ _ _,LC⟩
   .rw[up_ne _ _ bm] at hi;obtain⟨q,hq,Nm⟩:=hm.row i r hi;exact⟨q,by rw[up_ne _ _ bm];exact hq,Nm.step hs fun b hb=>hk.2.1 b (hm.lt i q b hq hb)⟩
  .rcases C i q b hq e with⟨rfl,rfl⟩|⟨hi,h1⟩<;>rcases C j q' b iN M with⟨rfl,rfl⟩|⟨hj,h2⟩
   .rfl
   .have:=(J b e).1;have:=hm.lt j q' b h2 M;omega
   .have:=(J b M).1;have:=hm.lt i q b h1 e;omega
   .exact hm.inj i j q q' b h1 h2 e M
  .rcases C i q b hq e with⟨_,rfl⟩|⟨_,h1⟩
   .exact(J b e).2
   .exact jd.lt i q b h1 e
  .rcases C i q b hq e with⟨_,rfl⟩|⟨_,h1⟩
   .intro hF;have:=hm.fb b hF;have:=(J b e).1;omega
   .exact hm.nf i q b h1 e
theorem call_enter{o:Oper}{env:Env}{a:Act}{f:FuncId}{args:List D}(X:ESim F β w env a)(ha:asks env o.op)(h:callD (rho env o.op) o.op=some (f,args))(he:enterOk P f=true):
 ∃ vs,(execOp a.eval o).run P w=.ok (.enter f vs) w/\Rs F β w args vs:=by
 obtain⟨dst,op,type,pos,after,guard⟩:=o;simp only at ha h;cases op with
 |call c=>
  simp only[callD] at h;have hR:∀ x∈(Op.call c).operands.toList,R F β w (rho env (.call c) x) (a.eval x):=fun x hx=>(X.opd x).core_of _ (ha x hx);split at h
  .rename_i g hg;split at h
   .rename_i k fs cs hk;simp only[aV,bQ] at h;obtain⟨rfl,rfl⟩:=h;have h1:=hR g (by simp[Op.operands,Call.operands,hg]);rw[hk] at h1;obtain⟨q1,q2⟩:=list_R (F:=F) (β:=β) (w:=w) (xs:=c.args) (ρ:=rho env (.call c)) (a:=a) (fun x hx=>hR x (by simp[Op.operands,Call.operands];exact .inr hx));generalize hv:a.eval g=v at h1;cases h1 with
    |fn _ _ _ us vs hl jX hh M=>
    refine⟨us.toArray++c.args.map a.eval++vs.toArray,?_,?_,?_⟩
    .unfold execOp;simp only[resolve,hg,Sem.run_bind,hv,Deferred.ofValue,Sem.run_pure,Result.andThen_ok,invoke];unfold callFunc;unfold enterOk at he;simp only[Sem.run_bind,run_program,Result.andThen_ok];split at he
     .rename_i fn pg;simp only[aM,Bool.not_eq_true'] at he
      have hb:fn.body.isNone=false:=by
       cases Nn:fn.body<;>simp_all
      rw[pg];simp only[he.1,hb,Bool.false_eq_true,if_false,Sem.run_pure]
     .cases he
    .simp[hl,jX]
    .intro j d u hd C;simp only[List.append_assoc] at hd;simp only[Array.append_assoc] at C;rcases Nat.lt_or_ge j fs.length with hj|hj
     .rw[List.getElem?_append_left hj] at hd;rw[Array.getElem?_append_left (by simpa[hl] using hj)] at C;exact hh j d u hd (by simpa using C)
     .rw[List.getElem?_append_right hj] at hd;rw[Array.getElem?_append_right (by simpa[hl] using hj)] at C;simp only[List.size_toArray,hl] at C;generalize j - fs.length=j' at hd C;rcases Nat.lt_or_ge j' (c.args.toList.map (rho env (.call c))).length with J|J
      .rw[List.getElem?_append_left J] at hd;rw[Array.getElem?_append_left (by simpa using J)] at C;exact q2 j' d u hd (by simpa using C)
      .rw[List.getElem?_append_right J] at hd;rw[Array.getElem?_append_right (by simpa using J)] at C;exact M _ d u hd (by simpa using C)
   .cases h
  .cases h
 |_=>simp[callD] at h
end
section
variable{P:Program}
theorem aop_env{o:Op}{ρ C:Operand->D}(h:∀ x∈o.operands,C x=ρ x)(m:Mem)(nx:Nat):aop P o C m nx=aop P o ρ m nx:=by
 have M:∀ ps:Array (Nat×Operand),(∀ x∈ps.map (·.2),C x=ρ x)->
  (ps.toList.map fun q=>(q.1,C q.2))=(ps.toList.map fun q=>(q.1,ρ q.2)):=fun ps hp=>
  List.map_congr_left fun p hm=>by
   obtain⟨i,x⟩:=p;simp only[hp x (Array.mem_map.2 ⟨(i,x),by simpa using hm,rfl⟩)]
 have args:∀ xs:Array Operand,(∀ x∈xs,C x=ρ x)->xs.toList.map C=xs.toList.map ρ:=fun xs hx=>
  List.map_congr_left fun x hm=>hx x (by simpa using hm)
 cases o with
 |call c=>
  simp only[aop];cases hc:c.callee with
  |builtin b=>simp only[args c.args fun x hx=>h x (by simp[Op.operands,Call.operands,hc,hx])]
  |_=>rfl
 |build t ps=>simp only[aop,M ps fun x hx=>h x (by simpa[Op.operands] using hx)]
 |buildSlice t n ps=>simp only[aop,M ps fun x hx=>h x (by simpa[Op.operands] using hx)]
 |makeFunc f fs cs=>simp only[aop,args fs fun x hx=>h x (by simp[Op.operands,hx]),args cs fun x hx=>h x (by simp[Op.operands,hx])]
 |slice t x lo hi J=>
  have e1:lo.map C=lo.map ρ:=by cases lo<;>simp_all[Op.operands]
  have e2:hi.map C=hi.map ρ:=by cases hi<;>simp_all[Op.operands]
  have e3:J.map C=J.map ρ:=by cases J<;>simp_all[Op.operands]
  simp only[aop,e1,e2,e3,h x gk]
 |makeMap t r=>cases r<;>simp_all[aop,Op.operands]
 |_=>first|rfl|(simp only[Op.operands] at h;simp only[aop];simp_all)
theorem callD_env{o:Op}{ρ C:Operand->D}(h:∀ x∈o.operands,C x=ρ x):callD C o=callD ρ o:=by
 cases o with
 |call c=>
  simp only[callD];cases hc:c.callee with
  |value f=>
   have e1:c.args.toList.map C=c.args.toList.map ρ:=List.map_congr_left fun x hm=>h x (by simp[Op.operands,Call.operands,hc];exact .inr (by simpa using hm));have e2:C f=ρ f:=h f (by simp[Op.operands,Call.operands,hc]);simp only[e1,e2]
  |_=>rfl
 |_=>rfl
theorem opd_env{env env':Env}{x:Operand}(h:∀ t,x=.tmp t->env' t=env t):opd env' x=opd env x:=by
 cases x<;>simp_all[opd]
theorem rho_env{env env':Env}{o:Op}(h:∀ t,Operand.tmp t∈o.operands->env' t=env t):∀ x∈o.operands,rho env' o x=rho env o x:=fun x hx=>by
 have:=opd_env (env:=env) (env':=env') (x:=x) fun t ht=>h t (ht▸hx);unfold rho;cases o<;>simp[this]
theorem asks_env{env env':Env}{o:Op}(h:∀ t,Operand.tmp t∈o.operands->env' t=env t):asks env' o=asks env o:=by
 have C:∀ x∈o.operands,opd env' x=opd env x:=fun x hx=>opd_env fun t ht=>h t (ht▸hx)
 have hl:(∀ x∈o.operands.toList,(opd env' x).ask)=(∀ x∈o.operands.toList,(opd env x).ask):=by
  apply propext;constructor
  .intro hq x hx;rw[<- C x (by simpa using hx)];exact hq x hx
  .intro hq x hx;rw[C x (by simpa using hx)];exact hq x hx
 unfold asks;split
 .rw[C _ gk]
 .exact hl
theorem sliceCells_mem{m m':Mem}{sz:Nat}{d:D}{p:Prop}{rd:List Nat}{n:Nat}{cs:List D}(h:sliceCells m sz d=some (p,rd,n,cs))(hr:∀ i∈rd,m' i=m i):sliceCells m' sz d=some (p,rd,n,cs):=by
 unfold sliceCells at*
 split at h
 .simpa using h
 .simpa using h
 .rename_i i off n';split at h
  .rename_i cs' e hm;simp only[aV,bQ] at h;obtain⟨rfl,rfl,rfl,rfl⟩:=h;rw[hr i oS,hm]
  .cases h
 .cases h
theorem lookupD_mem{m m':Mem}{t:TypeId}{x k:D}{ok:Bool}{e:Eff}(h:lookupD P m t x k ok=some e)(hr:∀ i∈e.rd,m' i=m i):lookupD P m' t x k ok=some e:=by
 unfold lookupD at*
 split at h
 .split at h
  .rename_i hm;cases h;rw[hr _ oS,hm]
  .cases h
 .exact h
 .exact h
 .cases h
theorem mapPutD_mem{m m':Mem}{t:TypeId}{x k v:D}{e:Eff}(h:mapPutD P m t x k v=some e)(hr:∀ i∈e.rd,m' i=m i):mapPutD P m' t x k v=some e:=by
 unfold mapPutD at*
 split at h
 .split at h
  .rename_i hm;cases h;rw[hr _ oS,hm]
  .cases h
 .cases h
theorem mapDelD_mem{m m':Mem}{t:TypeId}{x k:D}{e:Eff}(h:mapDelD P m t x k=some e)(hr:∀ i∈e.rd,m' i=m i):mapDelD P m' t x k=some e:=by
 unfold mapDelD at*
 split at h
 .split at h
  .rename_i hm;cases h;rw[hr _ oS,hm]
  .cases h
 .cases h
theorem aop_mem{o:Op}{ρ:Operand->D}{m m':Mem}{nx:Nat}{e:Eff}(h:aop P o ρ m nx=some e)(hr:∀ i∈e.rd,m' i=m i):aop P o ρ m' nx=some e:=by
 cases o with
 |call c=>
  simp only[aop] at h ⊢;split at h
  .rename_i b hb;split at h
   .rename_i M;rw[if_pos M];unfold builtinD at h ⊢;split at h
    .unfold lenD at h ⊢;split at h<;>try exact h
     split at h
     .rename_i hm;cases h;rw[hr _ oS,hm]
     .cases h
    .split at h
     .unfold appendD at h ⊢;simp only at h ⊢;split at h
      .cases h
      .rename_i hc;split at h
       .cases h;rw[sliceCells_mem hc hr];simp_all
       .split at h
        .rename_i hm;cases h;rw[sliceCells_mem hc fun i hi=>hr i (by simp[hi])];rw[hr _ oS,hm];simp_all
        .cases h
       .cases h
     .cases h
    .exact h
    .split at h
     .rename_i hm;cases h;rw[hr _ oS,hm]
     .cases h
    .exact mapDelD_mem h hr
    .cases h
   .cases h
  .cases h
 |lookup t x k ok=>exact lookupD_mem h hr
 |mapUpdate t x k v=>exact mapPutD_mem h hr
 |insert t x k v=>exact mapPutD_mem h hr
 |slice t x lo hi X=>
  simp only[aop] at h ⊢;unfold sliceD at h ⊢;split at h
  .exact h
  .split at h
   .rename_i hm;split at h
    .cases h;rw[hr _ oS,hm]
    .cases h
   .cases h
  .exact h
  .cases h
 |binOp op t x y _=>
  simp only[aop] at h ⊢;split at h
  .rename_i J he;simp only[aV] at h;subst h
   have:nilD P m' op t (ρ x) y=some J:=by
    unfold nilD at he ⊢;split at he
    .exact he
    .split at he
     .rename_i hm;cases he;rw[hr _ oS,hm]
     .cases he
    .split at he
     .rename_i hm;cases he;rw[hr _ oS,hm]
     .cases he
    .cases he
   rw[this]
  .rename_i he;by_cases C:∃ i off,ρ x=.rp i off
   .obtain⟨i,off,e1⟩:=C;rw[e1] at h;simp[binD] at h
   .have:nilD P m' op t (ρ x) y=none:=by
     unfold nilD at he ⊢;split at he
     .cases he
     .rename_i i off e1;exact absurd ⟨_,_,e1⟩ C
     .rename_i i off e1;exact absurd ⟨_,_,e1⟩ C
     .simp_all
    rw[this];exact h
 |_=>
  first
  |exact h
  |(simp only[aop] at h ⊢
    repeat' split at h
    all_goals first
     |(cases h;done)
     |exact h
     |(cases h;simp_all;done)
     |(simp_all;done))
end
abbrev Fe(r:Option Nat):Fence:={ fn:=fun _=>True,depth:=none,alive:=false,round:=r }
theorem QL{r:Option Nat}{n:Nat}{P:Program}{f:FuncId}{args:Array Value}{w:World}{R:Ending->World->Prop}(h:Calls P f args w R):CallsIn (Fe r) n P f args w R:=
 (callsIn_wide.2 h:CallsIn Fence.wide n P f args w R)
def tN(r:Option Nat)(n:Nat)(P:Program)(ops:Array Oper)(C:Exit->Act->World->Prop)(o:Oper)(K:Act->World->Prop)(a:Act)(w:World):Prop:=
 if Region.wanted o (yielded ops a.tmps) then o.wpIn (Fe r) n P a w K C else(∀ f,o.about P w a.eval=some f->(Fe r).fn f)/\K (a.put o.dst undef) w
section
variable{P:Program}{ops:Array Oper}
theorem Pe{r:Option Nat}{n:Nat}{C:Exit->Act->World->Prop}{i:Nat}{o:Oper}(hi:ops[i]? =some o){K:Act->World->Prop}{a:Act}{w:World}(h:tN r n P ops C o K a w):
 wpOpIn (Fe r) n P ops C i K a w:=by
 unfold wpOpIn;simp only[hi];exact h
structure dS where
 val:D
 ups:List (Nat×Option Row):=[]
 rd:List Nat:=[]
 new:Nat:=0
def dS.wr(p:dS):List Nat:=p.ups.map (·.1)
def dS.Ok(P:Program)(ops:Array Oper)(o:Oper)(st:St)(p:dS):Prop:=
 ∀ (F:Nat->Prop) (β:Pla) (w:World) (a:Act) (m:Mem) (env:Env) (N:Nat),(∀ t∈o.looksAt ops,env t=st.env t)->ESim F β w env a->MSim P F m β w->
  (∀ i∈p.rd,st.mem i≠none->m i=st.mem i)->(∀ i,st.nx<=i->i<st.nx+p.new->β i=none)->(∀ i,N<=i->β i=none)->
  ∀ (r:Option Nat) (n:Nat) (C:Exit->Act->World->Prop) (K:Act->World->Prop),
   (∀ v w' β',R F β' w' p.val v->MSim P F (upds m p.ups) β' w'->Step β w β' w'->(∀ i,β i=none->(i<st.nx\/st.nx+p.new<=i)->β' i=none)->K (a.put o.dst v) w')->
   tN r n P ops C o K a w
structure dS.y8(p:dS)(k:Nat)(st:St):Prop where
 wr:∀ i∈p.wr,st.mem i≠none\/(st.nx<=i/\i<st.nx+p.new)
 k0:k=0->p.rd=[]/\p.ups=[]
 k1:k=1->p.ups=[]
 k3:k=3->p.rd=[]/\∀ i∈p.wr,st.nx<=i
theorem Ll{r:Option Nat}{o:Oper}(h:∀ c,o.op≠ .defer c)(ρ:Operand->Value):o.semAt r ρ=execOp ρ o:=Oper.semAt_eq r ρ o h
theorem adB{F:Nat->Prop}{β:Pla}{w:World}{env:Env}{a:Act}(M:ESim F β w env a){j t:Nat}{b c:Bool}(ht:(ops[j]?).bind (·.dst)=some t)(hc:guardC (env t) b=some c):
 (yielded ops a.tmps j==some b)=c:=by
 have h:=M t
 have hy:yielded ops a.tmps j=match a.tmps[t]? with|some (.bool b)=>some b|_=>none:=by
  unfold yielded;rw[ht];rfl
 have hq:∀ x:Value,a.tmps.getD t undef=x->x≠undef->a.tmps[t]? =some x:=fun x hx C=>by
  simp only[Array.getD_eq_getD_getElem?] at hx;cases hg:a.tmps[t]? with
  |none=>rw[hg] at hx;exact absurd hx.symm C
  |some y=>rw[hg] at hx;simpa using hx
 have hf:∀ {d:D},R F β w (.opt false d) (a.tmps.getD t undef)->c=false->(yielded ops a.tmps j==some b)=c:=fun {d} h X=>by
  generalize hv:a.tmps.getD t undef=v at h;cases h with
  |opt _ _ _ h1 h2=>
   have:=h2 rfl;rw[hy,X];simp only[Array.getD_eq_getD_getElem?] at hv;cases hg:a.tmps[t]? with
   |none=>simp
   |some y=>
    rw[hg] at hv;simp only[Option.getD_some] at hv;rw[hv,this];simp[undef]
 unfold guardC at hc;split at hc
 .rename_i g b' e;rw[e] at h;have:=h.s_inv.1;rw[hy,hq _ this (by simp[undef])];simpa using hc
 .rename_i _ J d e;rw[e] at h;cases J with
  |false=>
   refine hf h ?_;split at hc<;>simpa using hc.symm
  |true=>
   split at hc
   .generalize hv:a.tmps.getD t undef=v at h;cases h with
    |opt _ _ _ h1 h2=>
     have:=(h1 rfl).s_inv.1;rw[hy,hq _ (hv.trans this) (by simp[undef])];simpa using hc
   .simp at hc
 .cases hc
end
section
variable{P:Program}{ops:Array Oper}{o:Oper}{st:St}
theorem Zf{m:Mem}{sz:Nat}{d:D}{p:Prop}{rd:List Nat}{n:Nat}{cs:List D}(h:sliceCells m sz d=some (p,rd,n,cs)):∀ i∈rd,m i≠none:=by
 unfold sliceCells at h;split at h
 .cases h;simp
 .cases h;simp
 .split at h
  .rename_i hm;cases h;simp[hm]
  .cases h
 .cases h
theorem Pg{m:Mem}{t:TypeId}{x k:D}{ok:Bool}{e:Eff}(h:lookupD P m t x k ok=some e):e.ups=[]/\e.new=0/\∀ i∈e.rd,m i≠none:=by
 unfold lookupD at h;split at h
 .split at h
  .rename_i hm;cases h;simp[hm]
  .cases h
 .cases h;simp
 .cases h;simp
 .cases h
theorem Gr{m:Mem}{t:TypeId}{x k v:D}{e:Eff}(h:mapPutD P m t x k v=some e):(∀ i∈e.ups.map (·.1),m i≠none)/\∀ i∈e.rd,m i≠none:=by
 unfold mapPutD at h;split at h
 .split at h
  .rename_i hm;cases h;simp[hm]
  .cases h
 .cases h
theorem Ph{m:Mem}{t:TypeId}{x k:D}{e:Eff}(h:mapDelD P m t x k=some e):(∀ i∈e.ups.map (·.1),m i≠none)/\∀ i∈e.rd,m i≠none:=by
 unfold mapDelD at h;split at h
 .split at h
  .rename_i hm;cases h;simp[hm]
  .cases h
 .cases h
theorem QZ{op:Op}{ρ:Operand->D}{m:Mem}{nx:Nat}{e:Eff}(h:aop P op ρ m nx=some e):
 (∀ i∈e.ups.map (·.1),m i≠none\/(nx<=i/\i<nx+e.new))/\(kindO op=0->e.rd=[]/\e.ups=[])/\(kindO op=1->e.ups=[])/\(kindO op=3->e.rd=[]/\∀ i∈e.ups.map (·.1),nx<=i):=by
 cases op with
 |call c=>
  have h0:(∀ i∈e.ups.map (·.1),m i≠none\/(nx<=i/\i<nx+e.new))/\(c.callee=.builtin .len->e.ups=[])/\(c.callee=.builtin .min->e.rd=[]/\e.ups=[]):=by
   simp only[aop] at h;split at h
   .rename_i b hb;split at h
    .unfold builtinD at h;split at h
     .refine⟨?_,fun _=>?_,fun hx=>(by rw[hx] at hb;cases hb)⟩<;>
      .unfold lenD at h;split at h<;>first|(cases h;simp;done)|skip
       all_goals first|(cases h;done)|skip
       all_goals (split at h<;>first|(cases h;simp;done)|(cases h;done))
     .refine⟨?_,fun hx=>(by rw[hx] at hb;cases hb),fun hx=>(by rw[hx] at hb;cases hb)⟩;split at h
      .unfold appendD at h;simp only at h;split at h
       .cases h
       .rename_i hc;split at h
        .cases h;simp
        .split at h
         .rename_i hm;cases h;intro i hi;simp only[List.map_cons,List.map_nil,List.mem_cons,List.not_mem_nil,or_false] at hi;rcases hi with rfl|rfl
          .left;simp[hm]
          .right;simp
         .cases h
        .cases h
      .cases h
     .cases h;refine⟨oS,fun _=>rfl,fun _=>⟨rfl,rfl⟩⟩
     .refine⟨?_,fun hx=>(by rw[hx] at hb;cases hb),fun hx=>(by rw[hx] at hb;cases hb)⟩;split at h
      .rename_i hm;cases h;simp[hm]
      .cases h
     .exact⟨fun i hi=>.inl ((Ph h).1 i hi),fun hx=>(by rw[hx] at hb;cases hb),fun hx=>(by rw[hx] at hb;cases hb)⟩
     .cases h
    .cases h
   .cases h
  refine⟨h0.1,fun hk=>?_,fun hk=>?_,fun hk=>?_⟩
  .unfold kindO at hk;split at hk<;>first|(cases hk;done)|skip
   all_goals first|(rename_i hx;injection hx with hx;subst hx;exact h0.2.2 rfl)|(simp_all;done)
  .unfold kindO at hk;split at hk<;>first|(cases hk;done)|skip
   all_goals first|(rename_i hx;injection hx with hx;subst hx;exact h0.2.1 rfl)|(simp_all;done)
  .unfold kindO at hk;split at hk<;>first|(cases hk;done)|skip
   all_goals simp_all
 |binOp op t x y _=>
  simp only[aop] at h;split at h
  .rename_i C he;simp only[aV] at h;subst h
   have h0:C.ups=[]/\(op=.eql\/op=.neq):=by
    unfold nilD at he;split at he
    .cases he;exact⟨rfl,.inl rfl⟩
    .split at he
     .cases he;exact⟨rfl,.inl rfl⟩
     .cases he
    .split at he
     .cases he;exact⟨rfl,.inr rfl⟩
     .cases he
    .cases he
   refine⟨by simp[h0.1],fun hk=>?_,fun _=>h0.1,fun hk=>?_⟩
   .rcases h0.2 with rfl|rfl<;>simp[kindO] at hk
   .rcases h0.2 with rfl|rfl<;>simp[kindO] at hk
  .cases hb:binD P op t (ρ x) (ρ y) with
   |none=>rw[hb] at h;cases h
   |some r=>rw[hb] at h;cases h;simp
 |lookup t x k ok=>
  have:=Pg h;refine⟨by simp[this.1],fun hk=>?_,fun _=>this.1,fun hk=>?_⟩<;>simp[kindO] at hk
 |mapUpdate t x k v=>
  refine⟨fun i hi=>.inl ((Gr h).1 i hi),fun hk=>?_,fun hk=>?_,fun hk=>?_⟩<;>simp[kindO] at hk
 |insert t x k v=>
  refine⟨fun i hi=>.inl ((Gr h).1 i hi),fun hk=>?_,fun hk=>?_,fun hk=>?_⟩<;>simp[kindO] at hk
 |slice t x lo hi J=>
  have h0:e.ups=[]:=by
   simp only[aop] at h;unfold sliceD at h
   repeat' split at h
   all_goals first|(cases h;done)|(cases h;rfl)
  refine⟨by simp[h0],fun hk=>?_,fun _=>h0,fun hk=>?_⟩<;>simp[kindO] at hk
 |_=>
  first
  |(simp only[aop] at h;cases h;simp[kindO];done)
  |(simp only[aop] at h
    repeat' split at h
    all_goals first
     |(cases h;done)
     |(cases h;simp_all[kindO];done)
     |(simp only[dx] at h;obtain⟨x,hx,rfl⟩:=h;simp[kindO];done))
def kN(ops:Array Oper)(o:Oper)(st:St)(c:Bool):Prop:=
 ∀ (F:Nat->Prop) (β:Pla) (w:World) (a:Act) (env:Env),(∀ t∈o.looksAt ops,env t=st.env t)->ESim F β w env a->Region.wanted o (yielded ops a.tmps)=c
theorem ZM(h:o.guard=none):kN ops o st true:=fun _ _ _ _ _ _ _=>by simp[Region.wanted,h]
theorem ZN{j t:Nat}{b c:Bool}(h:o.guard=some (j,b))(ht:(ops[j]?).bind (·.dst)=some t)(hc:guardC (st.env t) b=some c):kN ops o st c:=fun F β w a env he C=>by
 have:=he t (by simp[Oper.looksAt,h,ht]);rw[<- this] at hc;have h1:=adB C ht hc;simpa[Region.wanted,h] using h1
theorem BA{env:Env}(he:∀ t∈o.looksAt ops,env t=st.env t):∀ t,Operand.tmp t∈o.op.operands->env t=st.env t:=fun t ht=>
 he t (List.mem_append_left _ (List.mem_filterMap.2 ⟨.tmp t,by simpa using ht,rfl⟩))
theorem RP(M:kN ops o st false)(d:D)(hd:∀ F β w,R F β w d undef):dS.Ok P ops o st ⟨d,[],[],0⟩:=by
 intro F β w a m env N he C hm hr hn hN r n X K J;unfold tN;rw[M F β w a env he C,if_neg oS];exact⟨fun _ _=>trivial,J undef w β (hd F β w) hm (Step.refl β w) fun _ h _=>h⟩
theorem Tm{c:Bool}{d:D}{rd:List Nat}(hw:kN ops o st c)(h:c=true->dS.Ok P ops o st ⟨d,[],rd,0⟩):dS.Ok P ops o st ⟨.opt c d,[],rd,0⟩:=by
 intro F β w a m env N he J hm hr hn X r n C K M;cases c with
 |true=>exact h rfl F β w a m env N he J hm hr hn X r n C K fun v w' β' h1=>M v w' β' (.opt true d v (fun _=>h1) oS)
 |false=>
  have:=RP (P:=P) hw (.opt false d) fun F β w=>.opt false d undef oS fun _=>rfl;exact this F β w a m env N he J hm oS hn X r n C K M
theorem adC{F:Nat->Prop}{m:Mem}{nx:Nat}{β:Pla}{w:World}{a:Act}{e:Eff}(cR:∀ c,o.op≠ .defer c)(X:Region.wanted o (yielded ops a.tmps)=true)(h:OpS P F m nx β w e (execOp a.eval o))
 {r:Option Nat} {n:Nat} {M:Exit->Act->World->Prop} {K:Act->World->Prop}
 (J:∀ v w' β',R F β' w' e.val v->MSim P F (upds m e.ups) β' w'->Step β w β' w'->(∀ i,β i=none->(i<nx\/nx+e.new<=i)->β' i=none)->K (a.put o.dst v) w'):
 tN r n P ops M o K a w:=by
 obtain⟨zv,v,w',β',h1,h2,h3,h4,h5,C⟩:=h;unfold tN;rw[X,if_pos rfl];refine⟨fun _ _=>trivial,?_⟩;rw[Ll cR,h1];rcases h2 with rfl|⟨rfl,rfl⟩
 .exact J v w' β' h3 h4 h5 C
 .exact J undef w' β' h3 h4 h5 C
theorem aaA{op:Op}{ρ:Operand->D}{m:Mem}{nx:Nat}{e:Eff}(h:aop P op ρ m nx=some e):∀ c,op≠ .defer c:=fun c hc=>by
 subst hc;simp[aop] at h
theorem Zx{op:Op}{ρ:Operand->D}{x:FuncId×List D}(h:callD ρ op=some x):∀ c,op≠ .defer c:=fun c hc=>by
 subst hc;simp[callD] at h
theorem aeM{op:Op}{ρ:Operand->D}{m:Mem}{nx:Nat}{e:Eff}(h:aop P op ρ m nx=some e):∀ i∈e.rd,m i≠none:=by
 cases op with
 |call c=>
  simp only[aop] at h;split at h
  .split at h
   .unfold builtinD at h;split at h
    .unfold lenD at h;split at h<;>first|(cases h;simp;done)|skip
     all_goals first|(cases h;done)|skip
     all_goals (split at h<;>first|(rename_i hm;cases h;simp[hm];done)|(cases h;done))
    .split at h
     .unfold appendD at h;simp only at h;split at h
      .cases h
      .rename_i hc;have h1:=Zf hc;split at h
       .cases h;exact h1
       .split at h
        .rename_i hm;cases h;intro i hi;simp only[List.mem_cons] at hi;rcases hi with rfl|hi
         .simp[hm]
         .exact h1 i hi
        .cases h
       .cases h
     .cases h
    .cases h;simp
    .split at h
     .rename_i hm;cases h;simp[hm]
     .cases h
    .exact(Ph h).2
    .cases h
   .cases h
  .cases h
 |binOp op t x y _=>
  simp only[aop] at h;split at h
  .rename_i C he;simp only[aV] at h;subst h;unfold nilD at he;split at he
   .cases he;simp
   .split at he
    .rename_i hm;cases he;simp[hm]
    .cases he
   .split at he
    .rename_i hm;cases he;simp[hm]
    .cases he
   .cases he
  .cases hb:binD P op t (ρ x) (ρ y) with
   |none=>rw[hb] at h;cases h
   |some r=>rw[hb] at h;cases h;simp
 |lookup t x k ok=>exact(Pg h).2.2
 |mapUpdate t x k v=>exact(Gr h).2
 |insert t x k v=>exact(Gr h).2
 |slice t x lo hi J=>
  simp only[aop] at h;unfold sliceD at h
  repeat' split at h
  all_goals first|(cases h;done)|(cases h;simp_all;done)
 |_=>
  first
  |(simp only[aop] at h;cases h;simp;done)
  |(simp only[aop] at h
    repeat' split at h
    all_goals first
     |(cases h;done)
     |(cases h;simp_all;done)
     |(simp only[dx] at h;obtain⟨x,hx,rfl⟩:=h;simp;done))
theorem ab2{op:Op}{ρ:Operand->D}{m m':Mem}{nx:Nat}{e:Eff}(h:aop P op ρ m nx=some e)(hr:∀ i∈e.rd,m i≠none->m' i=m i):aop P op ρ m' nx=some e:=
 aop_mem h fun i hi=>hr i hi (aeM h i hi)
theorem Tn{e:Eff}(X:kN ops o st true)(ha:asks st.env o.op)(h:aop P o.op (rho st.env o.op) st.mem st.nx=some e)(hp:e.pre):dS.Ok P ops o st ⟨e.val,e.ups,e.rd,e.new⟩:=by
 intro F β w a m env N he J hm hr hn hN r n QX K M;have C:=BA he;refine adC (m:=m) (nx:=st.nx) (β:=β) (F:=F) (aaA h) (X F β w a env he J) (aop_sound hm (fun h1=>hn st.nx (bF _) (by simp[h1])) J (by rw[asks_env C];exact ha) ?_ hp) M;rw[aop_env (rho_env C)];exact ab2 h hr
theorem BF{F:Nat->Prop}{β:Pla}{w:World}{a:Act}{env:Env}{f:FuncId}{args:List D}(X:Region.wanted o (yielded ops a.tmps)=true)(J:ESim F β w env a)(ha:asks env o.op)
 (h:callD (rho env o.op) o.op=some (f,args)) (he:enterOk P f=true) {r:Option Nat} {n:Nat} {C:Exit->Act->World->Prop} {K:Act->World->Prop}
 (M:∀ vs,Rs F β w args vs->Calls P f vs w fun e w'=>∃ v,e=.returned v/\K (a.put o.dst v) w'):tN r n P ops C o K a w:=by
 obtain⟨vs,h1,h2⟩:=call_enter (F:=F) (β:=β) (w:=w) J ha h he;unfold tN;rw[X,if_pos rfl];refine⟨fun _ _=>trivial,?_⟩;rw[Ll (Zx h),h1];refine⟨oS,QL ((M vs h2).mono ?_)⟩;rintro e w' ⟨v,rfl,hk⟩;exact hk
theorem RQ{f:FuncId}{args:List D}{r:D}(X:kN ops o st true)(ha:asks st.env o.op)(h:callD (rho st.env o.op) o.op=some (f,args))(hc:PCall P f args r):dS.Ok P ops o st ⟨r,[],[],0⟩:=by
 intro F β w a m env N he J hm hr hn hN r n QX K M;have C:=BA he;refine BF (args:=args) (X F β w a env he J) J (by rw[asks_env C];exact ha) (by rw[callD_env (rho_env C)];exact h) hc.1 fun vs hR=>?_;refine(call_pure hm hc hR).mono fun e w' ⟨v,h1,h2,h3,h4⟩=>⟨v,h1,M v w' β h2 h3 h4 fun _ h _=>h⟩
theorem adD{f:FuncId}{args args':List D}{r:D}{rds:List Nat}(hw:kN ops o st true)(ha:asks st.env o.op)(h:callD (rho st.env o.op) o.op=some (f,args))(hs:Sns P rds st.mem args args')(hc:PCall P f args' r)(hr:r.scal=true):
 dS.Ok P ops o st ⟨r,[],rds,0⟩:=by
 intro F β w a m env N he J hm M hn hN r n QX K X;have C:=BA he;refine BF (args:=args) (hw F β w a env he J) J (by rw[asks_env C];exact ha) (by rw[callD_env (rho_env C)];exact h) hc.1 fun vs hR=>?_;refine(call_snap hm hs M hc hr hR).mono fun e w' ⟨v,h1,h2,h3,h4⟩=>⟨v,h1,X v w' β h2 h3 h4 fun _ h _=>h⟩
theorem aeN{f:FuncId}{args es:List D}{n:Nat}{t:TypeId}(hw:kN ops o st true)(ha:asks st.env o.op)(h:callD (rho st.env o.op) o.op=some (f,args))(hc:OCall P f args es n t):
 dS.Ok P ops o st ⟨.rs st.nx 0 n,[(st.nx,some (.cells es t))],[],1⟩:=by
 intro F β w a m env N he J hm dK hn hN r n QX K X;have C:=BA he;refine BF (args:=args) (hw F β w a env he J) J (by rw[asks_env C];exact ha) (by rw[callD_env (rho_env C)];exact h) hc.1 fun vs hR=>?_;refine(call_own hm (hn st.nx (bF _) oS) hc hR).mono fun e w' ⟨v,β',h1,h2,h3,h4,h5⟩=>⟨v,h1,X v w' β' h2 h3 h4 fun i hi M=>?_⟩
 rw[h5 i (by simp only at M;omega)];exact hi
theorem aeO{f:FuncId}{args:List D}{r:D}{ups:List (Nat×Option Row)}{rds:List Nat}(hw:kN ops o st true)(ha:asks st.env o.op)(h:callD (rho st.env o.op) o.op=some (f,args))
 (hc:∀ C cI,(∀ i∈rds,st.mem i≠none->C i=st.mem i)->ACalls P f args C cI fun r' m' nx'=>r'=r/\m'=upds C ups/\nx'=cI):dS.Ok P ops o st ⟨r,ups,rds,0⟩:=by
 intro F β w a m env N he M hm X hn hN ro n QX K hK;have J:=BA he;have hc:=hc m N X;refine BF (args:=args) (hw F β w a env he M) M (by rw[asks_env J];exact ha) (by rw[callD_env (rho_env J)];exact h) hc.1 fun vs hR=>?_;refine(hc.2 F β w vs hm hN hR).mono fun e w' hp=>?_;obtain⟨v,d,m',nx',β',h1,⟨e1,e2,e3⟩,h3,h4,h5,h6,_,h7⟩:=hp;subst e1 e2 e3;refine⟨v,h1,hK v w' β' h5 h3 h6 fun i hi _=>?_⟩;rcases Nat.lt_or_ge i nx' with h|h
 .exact h7 i h hi
 .exact h4 i h
theorem Kj(b:List (Nat×Option Row)):∀ (a:List (Nat×Option Row)) (m:Mem),upds m (a++b)=upds (upds m a) b
 |[],_=>rfl
 |(i,r)::a,m=>Kj b a (up m i r)
theorem P'{i:Nat}{r:Row}:∀ {us:List (Nat×Option Row)} {m:Mem},upds m us i=some r->(∃ x∈us,x.1=i/\x.2=some r)\/m i=some r
 |[],_,h=>.inr h
 |(j,s)::us,m,h=>by
  rcases P' (us:=us) (m:=up m j s) h with⟨x,hx,e⟩|h
  .exact .inl ⟨x,by simp[hx],e⟩
  .by_cases hj:i=j
   .subst hj;rw[up_same] at h;exact .inl ⟨(i,s),oS,rfl,h⟩
   .rw[up_ne _ _ hj] at h;exact .inr h
theorem PI{i:Nat}:∀ {us:List (Nat×Option Row)} {m m':Mem},m i=m' i->upds m us i=upds m' us i
 |[],_,_,h=>h
 |(j,s)::us,m,m',h=>PI (us:=us) (by simp only[up];split<;>simp[h])
theorem Q1{i:Nat}:∀ {us:List (Nat×Option Row)} {m:Mem},(∀ x∈us,x.1≠i)->upds m us i=m i
 |[],_,_=>rfl
 |(j,s)::us,m,h=>by
  rw[upds,Q1 (us:=us) fun x hx=>h x (by simp[hx])];exact up_ne _ _ fun e=>h (j,s) oS e.symm
theorem G5{F F':Nat->Prop}{β β':Pla}{w:World}{r:Row}{p:Pl}(hr:ScalRow r)(h:RowR P F β w r p):RowR P F' β' w r p:=by
 obtain⟨cs,e,rfl,hs⟩:=hr;cases h with
 |nil _=>exact .nil _
 |cells _ _ b o room sz c h1 h2 h3 h4 h5=>
  refine .cells cs e b o room sz c h1 h2 h3 h4 fun k d hd=>?_;obtain⟨u,J,M,C⟩:=h5 k d hd;exact⟨u,J,scal_R (hs d (bU hd)) M,C⟩
theorem Ur{F F':Nat->Prop}{β β':Pla}{w:World}{i j off k:Nat}{v:Value}(hb:β' j=β i)(h:R F β w (.rs i off k) v):R F' β' w (.rs j off k) v:=by
 cases h with
 |rsd _ _ _ _ h hv=>exact .rsd j off k v (hb.trans h) hv
 |rsn _ a h=>exact .rsn j a (hb.trans h)
 |rsz _ _ a b o len room sz h=>exact .rsz j off a b o len room sz (hb.trans h)
 |rs _ _ _ cap b o len room sz h h1 h2 h3 h4=>exact .rs j off k cap b o len room sz (hb.trans h) h1 h2 h3 h4
theorem ab3{f:FuncId}{args es:List D}{n:Nat}{t:TypeId}{ups:List (Nat×Option Row)}{rds:List Nat}(hw:kN ops o st true)(ha:asks st.env o.op)(h:callD (rho st.env o.op) o.op=some (f,args))(j0:FrameOk st.mem rds ups args)
 (lK:∀ d∈es,d.scal=true) (hc:∀ cI,ACalls P f args (only rds st.mem) cI fun r' m' _=>∃ q,cI<=q/\r'=.rs q 0 n/\m' q=some (.cells es t)/\∀ i∈rds,m' i=upds st.mem ups i):
 dS.Ok P ops o st ⟨.rs st.nx 0 n,ups++[(st.nx,some (.cells es t))],rds,1⟩:=by
 intro F β w a m env N he hE hm dK hn hN ro k QX K hK;have fF:=BA he;obtain⟨f1,f2,f3⟩:=j0
 have CU:∀ i∈rds,m i=st.mem i:=fun i hi=>by
  obtain⟨r,hr,_⟩:=f1 i hi;exact dK i hi (by simp[hr])
 have NI:∀ i∈rds,∃ p,β i=some p:=fun i hi=>by
  obtain⟨r,hr,_⟩:=f1 i hi;obtain⟨p,hp,_⟩:=hm.row i r ((CU i hi).trans hr);exact⟨p,hp⟩
 have fO:β st.nx=none:=hn st.nx (bF _) (Nat.lt_succ_self _)
 have zC:st.nx∉rds:=fun hx=>by
  obtain⟨p,hp⟩:=NI _ hx;rw[fO] at hp;cases hp
 have XZ:∀ i∈rds,i<N:=fun i hi=>by
  obtain⟨p,hp⟩:=NI i hi;rcases Nat.lt_or_ge i N with g|g
  .exact g
  .rw[hN i g] at hp;cases hp
 have hc:=hc N
 have hon:only rds st.mem=only rds m:=by
  funext i;unfold only;split
  .rename_i hi;exact(CU i hi).symm
  .rfl
 rw[hon] at hc;refine BF (args:=args) (hw F β w a env he hE) hE (by rw[asks_env fF];exact ha) (by rw[callD_env (rho_env fF)];exact h) hc.1 fun vs hR=>?_
 let M:Pla:=fun i=>if i∈rds then β i else none
 let F2:Nat->Prop:=fun b=>F b\/∃ i p,i∉rds/\β i=some p/\p.blk=some b
 have b2:∀ {i p},M i=some p->i∈rds/\β i=some p:=fun {i p} hi=>by
  simp only[M] at hi;split at hi
  .rename_i g;exact⟨g,hi⟩
  .cases hi
 have NK:∀ {i},i∈rds->M i=β i:=fun {i} hi=>if_pos hi
 have mj:MSim P F2 (only rds m) M w:=by
  refine⟨fun i r hi=>?_,fun i j p q b hp hq e J=>hm.inj i j p q b (b2 hp).2 (b2 hq).2 e J,fun i p b hp e=>hm.lt i p b (b2 hp).2 e,fun i p b hp e hF=>?_,fun b hF=>?_⟩
  .unfold only at hi;split at hi
   .rename_i qu;obtain⟨p,hp,ax⟩:=hm.row i r hi;obtain⟨r',js,hs⟩:=f1 i qu;rw[CU i qu,js] at hi;cases hi;exact⟨p,(NK qu).trans hp,G5 hs ax⟩
   .cases hi
  .rcases hF with hF|⟨j,q,hj,hq,eq⟩
   .exact hm.nf i p b (b2 hp).2 e hF
   .have:=hm.inj i j p q b (b2 hp).2 hq e eq;subst this;exact hj (b2 hp).1
  .rcases hF with hF|⟨j,q,_,hq,eq⟩
   .exact hm.fb b hF
   .exact hm.lt j q b hq eq
 have Fs:Rs F2 M w args vs:=⟨hR.1,fun k d v hd hv=>by
  have h0:=hR.2 k d v hd hv;rcases f3 d (bU hd) with ht|⟨i,off,l,hi,rfl⟩
  .refine(ht F β w v h0).lift fun b hb=>⟨fun hF=>?_,fun i p hp e=>?_⟩
   .rcases hF with hF|⟨j,q,_,hq,eq⟩
    .exact hb (.inl hF)
    .exact hb (.inr fun nS=>nS j q hq eq)
   .exact hb (.inr fun nS=>nS i p (b2 hp).2 e)
  .exact Ur (NK hi) h0⟩
 refine(hc.2 F2 M w vs mj (fun i hi=>?_) Fs).mono ?_
 .simp only[M];split
  .rename_i g;have:=XZ i g;omega
  .rfl
 rintro e w' ⟨v,d,m',nx',β',h1,⟨q,hq,rfl,hmq,AZ⟩,h3,h4,h5,h6,h7,h8⟩;have X0:q∉rds:=fun hx=>by have:=XZ q hx;omega
 have V5:∀ i p b,i∉rds->β i=some p->p.blk=some b->M.free b:=fun i p b hi hp e j r hj J=>by
  have:=hm.inj i j p r b hp (b2 hj).2 e J;subst this;exact hi (b2 hj).1
 let X:Pla:=fun i=>if i=st.nx then β' q else if i∈rds then β' i else β i
 have NL:X st.nx=β' q:=if_pos rfl
 have NM:∀ {i},i∈rds->X i=β' i:=fun {i} hi=>by
  simp only[X];rw[if_neg (show ¬ i=st.nx from fun e=>zC (e▸hi)),if_pos hi]
 have IX:∀ {i},i≠st.nx->i∉rds->X i=β i:=fun {i} h1 h2=>by
  simp only[X];rw[if_neg h1,if_neg h2]
 have FE:∀ i p,X i=some p->(∃ j,β' j=some p/\((i=st.nx/\j=q)\/(i∈rds/\j=i)))\/(i≠st.nx/\i∉rds/\β i=some p):=fun i p hp=>by
  by_cases e1:i=st.nx
  .subst e1;exact .inl ⟨q,NL▸hp,.inl ⟨rfl,rfl⟩⟩
  .by_cases e2:i∈rds
   .exact .inl ⟨i,(NM e2)▸hp,.inr ⟨e2,rfl⟩⟩
   .exact .inr ⟨e1,e2,(IX e1 e2)▸hp⟩
 have IN:Step β w X w':=by
  refine⟨h6.size,fun b hb hf=>?_,fun i p hp=>?_,h6.out⟩
  .have hf2:M.free b:=fun i p hp e=>hf i p (b2 hp).2 e;obtain⟨g1,g2⟩:=h6.imm b hb hf2;refine⟨g1,fun i p hp e=>?_⟩;rcases FE i p hp with⟨j,hj,_⟩|⟨_,_,hj⟩
   .exact g2 j p hj e
   .exact hf i p hj e
  .have e1:i≠st.nx:=fun e=>by rw[e,fO] at hp;cases hp
   by_cases e2:i∈rds
   .rw[NM e2];exact h6.keep i p ((NK e2).trans hp)
   .rw[IX e1 e2];exact .inl hp
 have To:∀ i p j r b,i∉rds->β i=some p->p.blk=some b->β' j=some r->r.blk=some b->False:=fun i p j r b hi hp e hj J=>
  (h6.imm b (hm.lt i p b hp e) (V5 i p b hi hp e)).2 j r hj J
 refine⟨v,h1,hK v w' X (Ur NL h5) ?_ IN fun i hi aE=>?_⟩
 .rw[Kj];show MSim P F (up (upds m ups) st.nx (some (.cells es t))) X w';refine⟨fun i r hi=>?_,fun i j p r b hp hr e J=>?_,fun i p b hp e=>?_,fun i p b hp e=>?_,fun b hF=>Nat.lt_of_lt_of_le (hm.fb b hF) h6.size⟩
  .by_cases e1:i=st.nx
   .subst e1;rw[up_same] at hi;cases hi;obtain⟨p,hp,ax⟩:=h3.row q _ hmq;exact⟨p,NL.trans hp,G5 ⟨es,t,rfl,lK⟩ ax⟩
   .rw[up_ne _ _ e1] at hi;by_cases e2:i∈rds
    .rw[PI (CU i e2), <- AZ i e2] at hi;obtain⟨p,hp,ax⟩:=h3.row i r hi
     have hs:ScalRow r:=by
      rw[AZ i e2] at hi;rcases P' hi with⟨x,hx,_,FF⟩|hi
      .exact(f2 x hx).2 r FF
      .obtain⟨r',js,hs⟩:=f1 i e2;rw[js] at hi;cases hi;exact hs
     exact⟨p,(NM e2).trans hp,G5 hs ax⟩
    .rw[Q1 (i:=i) fun x hx (e:x.1=i)=>e2 (e▸(f2 x hx).1)] at hi;obtain⟨p,hp,ax⟩:=hm.row i r hi;exact⟨p,(IX e1 e2).trans hp,ax.step IN fun b e=>(h6.imm b (hm.lt i p b hp e) (V5 i p b e2 hp e)).1⟩
  .rcases FE i p hp with⟨i',C,ci⟩|⟨i1,i2,C⟩<;>rcases FE j r hr with⟨j',pv,cj⟩|⟨j1,j2,pv⟩
   .have:=h3.inj i' j' p r b C pv e J;subst this;rcases ci with⟨rfl,rfl⟩|⟨ci,rfl⟩<;>rcases cj with⟨rfl,c⟩|⟨cj,c⟩
    .rfl
    .subst c;exact absurd cj X0
    .subst c;exact absurd ci X0
    .exact c
   .exact(To j r i' p b j2 pv J C e).elim
   .exact(To i p j' r b i2 C e pv J).elim
   .exact hm.inj i j p r b C pv e J
  .rcases FE i p hp with⟨i',C,_⟩|⟨_,_,C⟩
   .exact h3.lt i' p b C e
   .exact Nat.lt_of_lt_of_le (hm.lt i p b C e) h6.size
  .rcases FE i p hp with⟨i',C,_⟩|⟨_,_,C⟩
   .exact fun hF=>h3.nf i' p b C e (.inl hF)
   .exact hm.nf i p b C e
 .have e1:i≠st.nx:=by simp only at aE;omega
  have e2:i∉rds:=fun hx=>by
   obtain⟨p,hp⟩:=NI i hx;rw[hi] at hp;cases hp
  rw[IX e1 e2];exact hi
end
structure fN(P:Program)(F:Nat->Prop)(st:St)(β:Pla)(w:World)(a:Act):Prop where
 e:ESim F β w st.env a
 m:MSim P F st.mem β w
 n:∀ i,st.nx<=i->β i=none
structure jm(N:Nat)(β:Pla)(w:World)(a:Act)(st':St)(β':Pla)(w':World)(a':Act):Prop where
 step:Step β w β' w'
 le:N<=st'.nx
 grow:∀ i,i<N->β i=none->β' i=none
 size:a'.tmps.size=a.tmps.size
 defers:a'.defers=a.defers
theorem jm.trans{N:Nat}{β β₁ β₂:Pla}{w M X:World}{a C J:Act}{zp zq:St}(h:jm N β w a zp β₁ M C)(k:jm zp.nx β₁ M C zq β₂ X J):jm N β w a zq β₂ X J:=
 ⟨h.step.trans k.step,Nat.le_trans h.le k.le,fun i hi hn=>k.grow i (Nat.lt_of_lt_of_le hi h.le) (h.grow i hi hn),k.size.trans h.size,k.defers.trans h.defers⟩
theorem jm.refl(st:St)(β:Pla)(w:World)(a:Act):jm st.nx β w a st β w a:=⟨Step.refl β w,bF _,fun _ _ h=>h,rfl,rfl⟩
def cN(P:Program)(F:Nat->Prop)(N:Nat)(β:Pla)(w:World)(a:Act)(Q:Exit->St->Prop)(e:Exit)(a':Act)(w':World):Prop:=
 ∃ st' β',Q e st'/\fN P F st' β' w' a'/\jm N β w a st' β' w' a'
section
variable{P:Program}{F:Nat->Prop}{ops:Array Oper}{o:Oper}{st:St}{β:Pla}{w:World}{a:Act}
theorem G0(a:Act)(d:Option Nat)(v:Value):(a.put d v).tmps.size=a.tmps.size:=by
 cases d<;>simp[Act.put]
theorem put_defers(a:Act)(d:Option Nat)(v:Value):(a.put d v).defers=a.defers:=by
 cases d<;>rfl
theorem ZG(st:St)(d:Option Nat)(x:D):(st.put d x).env=(match d with|some t=>up st.env t x|none=>st.env):=by
 cases d<;>rfl
theorem Pz(st:St)(d:Option Nat)(x:D):(st.put d x).mem=st.mem:=by cases d<;>rfl
theorem DB(st:St)(d:Option Nat)(x:D):(st.put d x).nx=st.nx:=by cases d<;>rfl
theorem fN.put{st':St}{β':Pla}{w':World}{d:Option Nat}{x:D}{v:Value}(he:ESim F β' w' st'.env a)(hd:∀ t,d=some t->t<a.tmps.size)(hv:R F β' w' x v)(hm:MSim P F st'.mem β' w')(hn:∀ i,st'.nx<=i->β' i=none):
 fN P F (st'.put d x) β' w' (a.put d v):=by
 refine⟨?_,by rw[Pz];exact hm,by rw[DB];exact hn⟩;cases d with
 |none=>exact he
 |some t=>exact he.put (some t) x v hv hd
theorem aaD{p:dS}(hp:p.Ok P ops o st)(hs:fN P F st β w a)(hd:∀ t,o.dst=some t->t<a.tmps.size)(r:Option Nat)(n:Nat)(C:Exit->Act->World->Prop){K:Act->World->Prop}
 (J:∀ β' a' w',fN P F (St.put ⟨st.env,upds st.mem p.ups,st.nx+p.new⟩ o.dst p.val) β' w' a'->jm st.nx β w a (St.put ⟨st.env,upds st.mem p.ups,st.nx+p.new⟩ o.dst p.val) β' w' a'->K a' w'):
 tN r n P ops C o K a w:=by
 refine hp F β w a st.mem st.env st.nx (fun _ _=>rfl) hs.e hs.m (fun _ _ _=>rfl) (fun i h _=>hs.n i h) hs.n r n C K fun v w' β' h1 h2 h3 h4=>?_;refine J β' _ w' (fN.put (st':=⟨st.env,upds st.mem p.ups,st.nx+p.new⟩) (hs.e.step h3) hd h1 h2 fun i hi=>h4 i (hs.n i (by simp only at hi;omega)) (.inr hi)) ⟨h3,by rw[DB];simp,fun i hi hb=>h4 i hb (.inl hi),G0 _ _ _,put_defers _ _ _⟩
theorem QN{Y:YSpec}{dr:Bool}{K:St->List Nat->List Nat->Prop}(h:AOp P Y ops dr o st K):
 (∃ p:dS,p.Ok P ops o st/\p.y8 (kindO o.op) st/\K (St.put ⟨st.env,upds st.mem p.ups,st.nx+p.new⟩ o.dst p.val) p.rd p.wr)\/
 (dr=false/\∃ f args,kN ops o st true/\asks st.env o.op/\callD (rho st.env o.op) o.op=some (f,args)/\ACalls P f args st.mem st.nx fun r m nx=>K (St.put ⟨st.env,m,nx⟩ o.dst r) [] [])\/
 (dr=false/\∃ l args,kN ops o st true/\asks st.env o.op/\yieldD (rho st.env o.op) o.op=some (l,args)/\Y l args st.mem st.nx fun r m nx=>K (St.put ⟨st.env,m,nx⟩ o.dst r) [] []):=by
 have X:∀ {x},callD (rho st.env o.op) o.op=some x->kindO o.op=2:=fun {x} hx=>by
  cases ho:o.op with
  |call c=>
   rw[ho] at hx;simp only[callD] at hx;split at hx
   .rename_i f hf;unfold kindO;split<;>first|rfl|(rename_i h1;cases h1;cases hf)|skip
    all_goals simp_all
   .cases hx
  |_=>rw[ho] at hx;simp[callD] at hx
 have J:∀ {x} (p:dS),callD (rho st.env o.op) o.op=some x->(∀ i∈p.wr,st.mem i≠none\/(st.nx<=i/\i<st.nx+p.new))->p.y8 (kindO o.op) st:=fun {x} p hx C=>by
  have:=X hx;exact⟨C,oG,oG,oG⟩
 have call:∀ {f args},kN ops o st true->asks st.env o.op->callD (rho st.env o.op) o.op=some (f,args)->CallOp P dr st f args (fun r m nx rd wr=>K (St.put ⟨st.env,m,nx⟩ o.dst r) rd wr)->
  (∃ p:dS,p.Ok P ops o st/\p.y8 (kindO o.op) st/\K (St.put ⟨st.env,upds st.mem p.ups,st.nx+p.new⟩ o.dst p.val) p.rd p.wr)\/
  (dr=false/\∃ f args,kN ops o st true/\asks st.env o.op/\callD (rho st.env o.op) o.op=some (f,args)/\ACalls P f args st.mem st.nx fun r m nx=>K (St.put ⟨st.env,m,nx⟩ o.dst r) [] [])\/
  (dr=false/\∃ l args,kN ops o st true/\asks st.env o.op/\yieldD (rho st.env o.op) o.op=some (l,args)/\Y l args st.mem st.nx fun r m nx=>K (St.put ⟨st.env,m,nx⟩ o.dst r) [] []):=fun {f args} C ha hc hk=>by
  rcases hk with⟨r,h1,h2⟩|⟨args',rds,r,h1,h2,h3,h4⟩|⟨es,n,t,h1,h2⟩|⟨h1,h2⟩|⟨r,ups,rds,h1,h2,h3⟩|⟨es,n,t,ups,rds,h1,h2,h3,h4⟩
  .exact .inl ⟨⟨r,[],[],0⟩,RQ C ha hc h1,J _ hc (by simp[dS.wr]),h2⟩
  .exact .inl ⟨⟨r,[],rds,0⟩,adD C ha hc h1 h2 h3,J _ hc (by simp[dS.wr]),h4⟩
  .exact .inl ⟨⟨.rs st.nx 0 n,[(st.nx,some (.cells es t))],[],1⟩,aeN C ha hc h1,J _ hc (by simp[dS.wr]),h2⟩
  .exact .inr (.inl ⟨h1,f,args,C,ha,hc,h2⟩)
  .exact .inl ⟨⟨r,ups,rds,0⟩,aeO C ha hc h1,J _ hc fun i hi=>.inl (h2 i hi).2,h3⟩
  .refine .inl ⟨⟨.rs st.nx 0 n,ups++[(st.nx,some (.cells es t))],rds,1⟩,ab3 C ha hc h1 h2 h3,J _ hc fun i hi=>?_,?_⟩
   .simp only[dS.wr,List.map_append,List.mem_append,List.map_cons,List.map_nil,List.mem_singleton] at hi;rcases hi with hi|rfl
    .obtain⟨x,hx,rfl⟩:=List.mem_map.1 hi;obtain⟨r,hr,_⟩:=h1.1 _ (h1.2.1 x hx).1;exact .inl (by simp[hr])
    .exact .inr ⟨bF _,Nat.lt_succ_self _⟩
   .show K _ _ (dS.wr _);rw[Kj,dS.wr,List.map_append];exact h4
 have op:∀ {e:Eff},kN ops o st true->asks st.env o.op->aop P o.op (rho st.env o.op) st.mem st.nx=some e->e.pre->K (St.put ⟨st.env,upds st.mem e.ups,st.nx+e.new⟩ o.dst e.val) e.rd (e.ups.map (·.1))->
  (∃ p:dS,p.Ok P ops o st/\p.y8 (kindO o.op) st/\K (St.put ⟨st.env,upds st.mem p.ups,st.nx+p.new⟩ o.dst p.val) p.rd p.wr):=fun {e} C ha h hp hk=>by
  obtain⟨t1,t2,t3,t4⟩:=QZ h;exact⟨⟨e.val,e.ups,e.rd,e.new⟩,Tn C ha h hp,⟨t1,t2,t3,t4⟩,hk⟩
 have skip:∀ {d:D},kN ops o st false->(∀ F β w,R F β w d undef)->K (st.put o.dst d) [] []->
  (∃ p:dS,p.Ok P ops o st/\p.y8 (kindO o.op) st/\K (St.put ⟨st.env,upds st.mem p.ups,st.nx+p.new⟩ o.dst p.val) p.rd p.wr):=fun {d} C hd hk=>
  ⟨⟨d,[],[],0⟩,RP C d hd,⟨by simp[dS.wr],fun _=>⟨rfl,rfl⟩,fun _=>rfl,fun _=>⟨rfl,by simp[dS.wr]⟩⟩,hk⟩
 have M:∀ (F:Nat->Prop) β w,R F β w skipD undef:=fun F β w=>.opt false .u undef oS fun _=>rfl;unfold AOp at h;split at h
 .rename_i hg;have C:=ZM (ops:=ops) (st:=st) hg;obtain⟨ha,h⟩:=h;split at h
  .rename_i f args hc;exact call C ha hc h
  .split at h
   .rename_i l args hy;exact .inr (.inr ⟨h.1,l,args,C,ha,hy,h.2⟩)
   .split at h
    .rename_i e he;exact .inl (op C ha he h.1 h.2)
    .exact h.elim
 .rename_i j b hg;split at h
  .exact h.elim
  .rename_i c hc;simp only[Option.bind_eq_some_iff] at hc;obtain⟨t,⟨oj,Fw,hjt⟩,hc⟩:=hc;have C:kN ops o st c:=ZN hg (t:=t) (by simp[Fw,hjt]) hc;split at h
   .rename_i f args p6;rcases h with⟨r,h1,h2⟩|⟨h1,h2⟩
    .refine .inl ⟨⟨.opt c r,[],[],0⟩,Tm C fun uq=>?_,J _ p6 (by simp[dS.wr]),h2⟩;subst uq;exact RQ C (h1 rfl).1 p6 (h1 rfl).2
    .cases c with
     |true=>exact call C (h1 rfl).1 p6 (h1 rfl).2
     |false=>exact .inl (skip C M (h2 rfl))
   .split at h
    .rename_i l args hy;cases c with
     |true=>exact .inr (.inr ⟨(h.1 rfl).2.1,l,args,C,(h.1 rfl).1,hy,(h.1 rfl).2.2⟩)
     |false=>exact .inl (skip C M (h.2 rfl))
    .split at h
     .rename_i e he;split at h
      .rename_i y9;simp only[aM,List.isEmpty_iff,beq_iff_eq] at y9;obtain⟨h1,h2⟩:=h;obtain⟨t1,t2,t3,t4⟩:=QZ he;refine .inl ⟨⟨.opt c e.val,[],e.rd,0⟩,Tm C fun uq=>?_,⟨by simp[dS.wr],fun hk=>⟨(t2 hk).1,rfl⟩,fun _=>rfl,fun hk=>⟨(t4 hk).1,by simp[dS.wr]⟩⟩,h2⟩;subst uq;have:=Tn C (h1 rfl).1 he (h1 rfl).2;rw[y9.1,y9.2] at this;exact this
      .obtain⟨h1,h2⟩:=h;cases c with
       |true=>exact .inl (op C (h1 rfl).1 he (h1 rfl).2.1 (h1 rfl).2.2)
       |false=>exact .inl (skip C M (h2 rfl))
     .obtain⟨rfl,h⟩:=h;exact .inl (skip C M h)
theorem ZO{f:FuncId}{args:List D}{cN:D->Mem->Nat->Prop}(hw:kN ops o st true)(ha:asks st.env o.op)(hc:callD (rho st.env o.op) o.op=some (f,args))(h:ACalls P f args st.mem st.nx cN)
 (hs:fN P F st β w a) (hd:∀ t,o.dst=some t->t<a.tmps.size) (r:Option Nat) (n:Nat) (J:Exit->Act->World->Prop) {K:Act->World->Prop}
 (X:∀ d m' nx' β' a' w',cN d m' nx'->fN P F (St.put ⟨st.env,m',nx'⟩ o.dst d) β' w' a'->jm st.nx β w a (St.put ⟨st.env,m',nx'⟩ o.dst d) β' w' a'->K a' w'):
 tN r n P ops J o K a w:=by
 refine BF (hw F β w a st.env (fun _ _=>rfl) hs.e) hs.e ha hc h.1 fun vs hR=>?_;refine(h.2 F β w vs hs.m hs.n hR).mono fun e w' hp=>?_;obtain⟨v,d,m',nx',β',h1,h2,h3,h4,h5,C,M,h8⟩:=hp;refine⟨v,h1,X d m' nx' β' _ w' h2 (fN.put (st':=⟨st.env,m',nx'⟩) (hs.e.step C) hd h5 h3 h4) ⟨C,by rw[DB];exact M,h8,G0 _ _ _,put_defers _ _ _⟩⟩
theorem Zz{env:Env}{l:Nat}{args:List D}(C:ESim F β w env a)(ha:asks env o.op)(h:yieldD (rho env o.op) o.op=some (l,args)):
 ∃ vs,(execOp a.eval o).run P w=(Instr.yield l vs).run P w/\Rs F β w args vs:=by
 obtain⟨dst,op,type,pos,after,guard⟩:=o;simp only at ha h;cases op with
 |call c=>
  simp only[yieldD] at h;have hR:∀ x∈(Op.call c).operands.toList,R F β w (rho env (.call c) x) (a.eval x):=fun x hx=>(C.opd x).core_of _ (ha x hx);split at h
  .rename_i g hg;split at h
   .rename_i l' hk;simp only[aV,bQ] at h;obtain⟨rfl,rfl⟩:=h;have h1:=hR g (by simp[Op.operands,Call.operands,hg]);rw[hk] at h1;obtain⟨q1,M⟩:=list_R (F:=F) (β:=β) (w:=w) (xs:=c.args) (ρ:=rho env (.call c)) (a:=a) (fun x hx=>hR x (by simp[Op.operands,Call.operands];exact .inr hx));generalize hv:a.eval g=v at h1;cases h1 with
    |fn _ _ _ us vs hl jX hh X=>
    have e1:us=[]:=List.eq_nil_of_length_eq_zero (by simpa using hl);have e2:vs=[]:=List.eq_nil_of_length_eq_zero (by simpa using jX);subst e1 e2;refine⟨c.args.map a.eval,?_,oS,fun j d u hd J=>M j d u hd (by simpa using J)⟩;unfold execOp;simp only[resolve,hg,Sem.run_bind,hv,Deferred.ofValue,Sem.run_pure,Result.andThen_ok,invoke];simp
   .cases h
  .cases h
 |_=>simp[yieldD] at h
theorem Zh{op:Op}{ρ:Operand->D}{x:Nat×List D}(h:yieldD ρ op=some x):∀ c,op≠ .defer c:=fun c hc=>by
 subst hc;simp[yieldD] at h
theorem ZP{l:Nat}{args:List D}{cN:D->Mem->Nat->Prop}(hw:kN ops o st true)(ha:asks st.env o.op)(hc:yieldD (rho st.env o.op) o.op=some (l,args)){M:Pla}{J:World}(h:YCall P F M J l args st.mem st.nx cN)(hb:Step M J β w)
 (hs:fN P F st β w a) (hd:∀ t,o.dst=some t->t<a.tmps.size) (r:Option Nat) (n:Nat) (X:Exit->Act->World->Prop) {K:Act->World->Prop}
 (hK:∀ d m' nx' β' a' w',cN d m' nx'->fN P F (St.put ⟨st.env,m',nx'⟩ o.dst d) β' w' a'->jm st.nx β w a (St.put ⟨st.env,m',nx'⟩ o.dst d) β' w' a'->K a' w'):
 tN r n P ops X o K a w:=by
 obtain⟨vs,h1,h2⟩:=Zz (P:=P) hs.e ha hc;obtain⟨f,tmps,assign,body,h3,h4⟩:=h β w vs hb hs.m hs.n h2;unfold tN;rw[hw F β w a st.env (fun _ _=>rfl) hs.e,if_pos rfl];refine⟨fun _ _=>trivial,?_⟩;rw[Ll (Zh hc),h1,h3];refine⟨oS,?_⟩;have h5:=h4 (n - 1);refine RoundIn.mono (F:=Fe r) (show RoundIn (Fe r) (n - 1) P l f tmps assign body w _ from h5) fun e w' hp=>?_;obtain⟨v,d,m',nx',β',rfl,g2,g3,g4,g5,C,g7,g8⟩:=hp;exact hK d m' nx' β' _ w' g2 (fN.put (st':=⟨st.env,m',nx'⟩) (hs.e.step C) hd g5 g3 g4) ⟨C,by rw[DB];exact g7,g8,G0 _ _ _,put_defers _ _ _⟩
def At(N:Nat)(ops:Array Oper):Bool:=ops.toList.all fun o=>match o.dst with
 |some t=>Nat.blt t N
 |none=>true
theorem PC{N:Nat}(h:At N ops=true){i:Nat}{o:Oper}(hi:ops[i]? =some o):∀ t,o.dst=some t->t<N:=fun t ht=>by
 have h1:=bj.1 h o (by simpa using Array.mem_of_getElem? hi);rw[ht] at h1;simpa using h1
theorem ab9{Y:YSpec}{r:Option Nat}{n:Nat}{cf:List (Nat×Nat)}{Q:Exit->St->Prop}{N:Nat}{β₀:Pla}{w₀:World}{a₀:Act}(hY:∀ l args m nx cN,Y l args m nx cN->YCall P F β₀ w₀ l args m nx cN)(ao:At a₀.tmps.size ops=true):
 ∀ (rest:List Oper) (k:Nat) (st:St) (tr:Tra) (β:Pla) (w:World) (a:Act),ops.toList.drop k=rest->AOps P Y ops false cf Q rest st tr->fN P F st β w a->jm N β₀ w₀ a₀ st β w a->
  wpOpsIn (Fe r) n P ops (cN P F N β₀ w₀ a₀ Q) (List.range' k rest.length) a w:=by
 intro rest
 induction rest with
 |nil=>
  intro k st tr β w a hk h hs C;simp only[List.length_nil,List.range'_zero,wpOpsIn];exact⟨st,β,h.2,hs,C⟩
 |cons o rest ih=>
  intro k st tr β w a hk h hs C
  have ho:ops[k]? =some o:=by
   have:(ops.toList.drop k)[0]? =some o:=by rw[hk];rfl
   simpa using this
  have X:ops.toList.drop (k+1)=rest:=by
   have:(ops.toList.drop k).drop 1=rest:=by rw[hk];rfl
   simpa[List.drop_drop,Nat.add_comm] using this
  simp only[List.length_cons,List.range'_succ,wpOpsIn_cons];refine Pe ho ?_;have hd:∀ t,o.dst=some t->t<a.tmps.size:=fun t ht=>by rw[C.size];exact PC ao ho t ht
  simp only[AOps] at h;rcases QN h with⟨p,h1,_,h3⟩|⟨_,f,args,h1,h2,h3,h4⟩|⟨_,l,args,h1,h2,h3,h4⟩
  .exact aaD h1 hs hd r n _ fun β' a' w' J M=>ih (k+1) _ _ β' w' a' X h3 J (C.trans M)
  .exact ZO h1 h2 h3 h4 hs hd r n _ fun d m' nx' β' a' w' hp J M=>ih (k+1) _ _ β' w' a' X hp J (C.trans M)
  .exact ZP h1 h2 h3 (hY _ _ _ _ _ h4) C.step hs hd r n _ fun d m' nx' β' a' w' hp J M=>ih (k+1) _ _ β' w' a' X hp J (C.trans M)
theorem Zr{Y:YSpec}{r:Option Nat}{n id:Nat}{cf:List (Nat×Nat)}{Q:Exit->St->Prop}{N:Nat}{β₀:Pla}{w₀:World}{a₀:Act}(J:∀ l args m nx cN,Y l args m nx cN->YCall P F β₀ w₀ l args m nx cN)(ao:At a₀.tmps.size ops=true)
 (h:AOps P Y ops false cf Q ops.toList st []) (hs:fN P F st β w a) (C:jm N β₀ w₀ a₀ st β w a):(Code.region id ops false).wpIn (Fe r) n P (cN P F N β₀ w₀ a₀ Q) a w:=by
 refine wpIn_region ?_;have:=ab9 J (r:=r) (n:=n) ao ops.toList 0 st [] β w a oS h hs C;rw[List.range_eq_range'];simpa using this
end
theorem JU(C:List Nat)(i:Nat):∀ (l:List Edge) (s:Nat),(l.foldl (fun s e=>if Region.binds .any e then s||| 2 ^ e.on||| C.getD e.on 0 else s) s).testBit i=true->
 s.testBit i=true\/∃ e∈l,Region.binds .any e=true/\(i=e.on\/(C.getD e.on 0).testBit i=true)
 |[],s,h=>.inl h
 |e::l,s,h=>by
  rw[List.foldl_cons] at h;rcases JU C i l _ h with h1|⟨J,M,hb⟩
  .by_cases hb:Region.binds .any e=true
   .rw[if_pos hb] at h1;simp only[Nat.testBit_or,Bool.or_eq_true,Nat.testBit_two_pow,decide_eq_true_eq] at h1;rcases h1 with(h1|h1)|h1
    .exact .inl h1
    .exact .inr ⟨e,oS,hb,.inl h1.symm⟩
    .exact .inr ⟨e,oS,hb,.inr h1⟩
   .rw[if_neg hb] at h1;exact .inl h1
  .exact .inr ⟨J,by simp[M],hb⟩
theorem Jz:∀ (J:List Oper) (C:List Nat),∃ l,befs J C=C++l/\l.length=J.length
 |[],C=>⟨[],by simp[befs],rfl⟩
 |o::J,C=>by
  obtain⟨l,h1,h2⟩:=Jz J (C++[befOf C o]);exact⟨befOf C o::l,by simp[befs,h1],by simp[h2]⟩
theorem Kb:∀ (J:List Oper) (C:List Nat) (k:Nat) (o:Oper),J[k]? =some o->(befs J C).getD (C.length+k) 0=befOf ((befs J C).take (C.length+k)) o
 |[],C,k,o,h=>by simp at h
 |x::J,C,0,o,h=>by
  simp only[List.getElem?_cons_zero,aV] at h;subst h;obtain⟨l,h1,h2⟩:=Jz J (C++[befOf C x]);simp[befs,h1]
 |x::J,C,k+1,o,h=>by
  have:=Kb J (C++[befOf C x]) k o (by simpa using h);simp only[List.length_append,List.length_cons,List.length_nil] at this;have e:C.length+(k+1)=C.length+(0+1)+k:=by omega
  rw[e];exact this
theorem Py{ops:Array Oper}{S:Nat->Bool}(hS:∀ j,S j=true->∀ o,ops[j]? =some o->∀ e∈o.after,Region.binds .any e=true->S e.on=true)(i:Nat):
 ∀ j,S j=true->((befs ops.toList []).getD j 0).testBit i=true->S i=true:=by
 intro j
 induction j using Nat.strongRecOn with
 |_ j ih=>
  intro hj hb;cases C:ops[j]? with
  |none=>
   obtain⟨l,h1,h2⟩:=Jz ops.toList []
   have:(befs ops.toList []).getD j 0=0:=by
    rw[h1];simp only[List.nil_append];have:ops.size<=j:=by simpa using C
    simp[List.getElem?_eq_none (show l.length<=j by simpa[h2] using this)]
   rw[this] at hb;simp at hb
  |some o=>
   have h1:=Kb ops.toList [] j o (by simpa using C);simp only[List.length_nil,Nat.zero_add] at h1;rw[h1] at hb;rcases JU _ i _ 0 hb with h2|⟨e,he,X,h2⟩
   .simp at h2
   .have J:=hS j hj o C e (by simpa using he) X;rcases h2 with rfl|h2
    .exact J
    .rcases Nat.lt_or_ge e.on j with ao|M
     .refine ih e.on ao J ?_;simpa[List.getElem?_take,ao] using h2
     .simp[List.getElem?_take,Nat.not_lt.2 M] at h2
theorem Pb{bs:List Nat}{n i j:Nat}(C:i<j)(hj:j<n)(h:(bs.getD j 0).testBit i=false):(i,j)∈unordered bs n:=by
 unfold unordered;rw[List.mem_flatMap];exact⟨j,by simp[hj],by rw[List.mem_map];exact⟨i,by simp only[List.mem_filter,List.mem_range];exact⟨C,by rw[h];rfl⟩,rfl⟩⟩
theorem BC{us:List (Nat×Option Row)}:∀ {m:Mem} {i:Nat},i∉us.map (·.1)->upds m us i=m i:=by
 induction us with
 |nil=>intro m i _;rfl
 |cons u us ih=>
  intro m i h;obtain⟨j,r⟩:=u;simp only[List.map_cons,List.mem_cons,not_or] at h;simp only[upds];rw[ih h.2,up_ne _ _ h.1]
theorem JH{us:List (Nat×Option Row)}:∀ {m m':Mem} {i:Nat},(i∈us.map (·.1)\/m i=m' i)->upds m us i=upds m' us i:=by
 induction us with
 |nil=>intro m m' i h;simpa[upds] using h
 |cons u us ih=>
  intro m m' i h;obtain⟨j,r⟩:=u;simp only[upds];refine ih ?_;by_cases hj:i=j
  .right;subst hj;rw[up_same,up_same]
  .rcases h with h|h
   .left;simp only[List.map_cons,List.mem_cons] at h;exact h.resolve_left hj
   .right;rw[up_ne _ _ hj,up_ne _ _ hj,h]
theorem aaw{a b:List (Nat×Option Row)}(m:Mem)(h:∀ i∈a.map (·.1),i∉b.map (·.1)):upds (upds m a) b=upds (upds m b) a:=by
 funext i;by_cases ha:i∈a.map (·.1)
 .rw[BC (h i ha)];exact JH (.inl ha)
 .rw[BC (m:=upds m b) ha];exact JH (.inr (BC ha))
def q9(env:Env)(d:Option Nat)(v:D):Env:=match d with
 |some t=>up env t v
 |none=>env
theorem DK{env:Env}{d:Option Nat}{v:D}{t:Nat}(h:d≠some t):q9 env d v t=env t:=by
 cases d with
 |none=>rfl
 |some u=>exact up_ne _ _ fun e=>h (by rw[e])
theorem JI{env env':Env}{d:Option Nat}{v:D}{t:Nat}(h:d=some t\/env t=env' t):q9 env d v t=q9 env' d v t:=by
 cases d with
 |none=>simpa[q9] using h
 |some u=>
  by_cases C:t=u
  .subst C;simp[q9,up_same]
  .simp only[q9,up_ne _ _ C];rcases h with h|h
   .simp only[aV] at h;exact absurd h.symm C
   .exact h
theorem aax(env:Env){d d':Option Nat}(v C:D)(h:∀ t,d=some t->d'≠some t):q9 (q9 env d v) d' C=q9 (q9 env d' C) d v:=by
 funext t;by_cases hd:d=some t
 .rw[DK (h t hd)];exact JI (.inl hd)
 .rw[DK (env:=q9 env d' C) hd];exact JI (.inr (DK hd))
def zv(st:St)(o:Oper)(p:dS):St:=St.put ⟨st.env,upds st.mem p.ups,st.nx+p.new⟩ o.dst p.val
theorem KJ(st:St)(o:Oper)(p:dS):(zv st o p).env=q9 st.env o.dst p.val:=by unfold zv;rw[ZG];rfl
theorem Hi(st:St)(o:Oper)(p:dS):(zv st o p).mem=upds st.mem p.ups:=Pz _ _ _
theorem Ao(st:St)(o:Oper)(p:dS):(zv st o p).nx=st.nx+p.new:=DB _ _ _
section
variable(oo:Nat->Oper)(pp:Nat->dS)(st₀:St)
def gn(S:Nat->Bool):Nat->St
 |0=>st₀
 |k+1=>if S k then zv (gn S k) (oo k) (pp k) else gn S k
def je:Nat->St:=gn oo pp st₀ fun _=>true
theorem uK(k:Nat):je oo pp st₀ (k+1)=zv (je oo pp st₀ k) (oo k) (pp k):=rfl
theorem aeA(k:Nat):∀ n,k<=n->gn oo pp st₀ (fun j=>decide (j<k)) n=je oo pp st₀ k:=by
 have below:∀ n,n<=k->gn oo pp st₀ (fun j=>decide (j<k)) n=je oo pp st₀ n:=by
  intro n
  induction n with
  |zero=>intro _;rfl
  |succ n ih=>
   intro h;have hd:decide (n<k)=true:=by simp;omega
   rw[uK, <- ih oG];simp only[gn,hd,if_true]
 intro n h
 induction n with
 |zero=>
  have:k=0:=by omega
  subst this;rfl
 |succ n ih=>
  rcases Nat.lt_or_ge n k with ao|C
  .have:k=n+1:=by omega
   subst this;exact below (n+1) (bF _)
  .have hd:decide (n<k)=false:=by simpa using C
   simp only[gn,hd,Bool.false_eq_true,if_false];exact ih C
theorem adq{S T:Nat->Bool}{t:Nat}:∀ n,(∀ j,j<n->S j≠T j->(oo j).dst≠some t)->(gn oo pp st₀ S n).env t=(gn oo pp st₀ T n).env t:=by
 intro n
 induction n with
 |zero=>intro _;rfl
 |succ n ih=>
  intro h;have h1:=ih fun j hj=>h j oG;have h2:=h n oG;simp only[gn];cases hS:S n<;>cases C:T n<;>simp only[Bool.false_eq_true,if_false,if_true,KJ]
  .exact h1
  .rw[DK (h2 (by simp[hS,C]))];exact h1
  .rw[DK (h2 (by simp[hS,C]))];exact h1
  .exact JI (.inr h1)
theorem adr{S T:Nat->Bool}{i:Nat}:∀ n,(∀ j,j<n->S j≠T j->i∉(pp j).wr)->(gn oo pp st₀ S n).mem i=(gn oo pp st₀ T n).mem i:=by
 intro n
 induction n with
 |zero=>intro _;rfl
 |succ n ih=>
  intro h;have h1:=ih fun j hj=>h j oG;have h2:=h n oG;simp only[gn];cases hS:S n<;>cases C:T n<;>simp only[Bool.false_eq_true,if_false,if_true,Hi]
  .exact h1
  .rw[BC (h2 (by simp[hS,C]))];exact h1
  .rw[BC (h2 (by simp[hS,C]))];exact h1
  .exact JH (.inr h1)
theorem QM{S T:Nat->Bool}:∀ n,(∀ j,j<n->S j=T j)->gn oo pp st₀ S n=gn oo pp st₀ T n:=by
 intro n
 induction n with
 |zero=>intro _;rfl
 |succ n ih=>
  intro h;simp only[gn,ih fun j hj=>h j oG,h n oG]
theorem ads{S:Nat->Bool}{k:Nat}(hk:S k=false):∀ n,k<n->(∀ j,k<j->j<n->S j=true->(∀ t,(oo k).dst=some t->(oo j).dst≠some t)/\∀ i∈(pp k).wr,i∉(pp j).wr)->
 (gn oo pp st₀ (fun j=>if j=k then true else S j) n).env=q9 (gn oo pp st₀ S n).env (oo k).dst (pp k).val/\
 (gn oo pp st₀ (fun j=>if j=k then true else S j) n).mem=upds (gn oo pp st₀ S n).mem (pp k).ups:=by
 intro n
 induction n with
 |zero=>intro h;omega
 |succ n ih=>
  intro M h;rcases Nat.lt_or_ge k n with ao|J
  .obtain⟨h1,h2⟩:=ih ao fun j hj X=>h j hj oG;have C:n≠k:=by omega
   simp only[gn,if_neg C];cases hS:S n with
   |false=>simp only[Bool.false_eq_true,if_false];exact⟨h1,h2⟩
   |true=>
    obtain⟨h3,h4⟩:=h n ao oG hS;simp only[if_true,KJ,Hi,h1,h2];exact⟨aax _ _ _ h3,aaw _ h4⟩
  .have:n=k:=by omega
   subst this;have e:gn oo pp st₀ (fun j=>if j=n then true else S j) n=gn oo pp st₀ S n:=QM oo pp st₀ n fun j hj=>by simp only[if_neg (show j≠n by omega)]
   simp only[gn,if_true,hk,Bool.false_eq_true,if_false,KJ,Hi,e];exact⟨trivial,trivial⟩
theorem uJ{j k:Nat}(h:j<=k):(je oo pp st₀ j).nx<=(je oo pp st₀ k).nx:=by
 induction k with
 |zero=>have:j=0:=by omega
        subst this;exact bF _
 |succ k ih=>
  rcases Nat.lt_or_ge j (k+1) with ao|C
  .rw[uK,Ao];have:=ih oG;omega
  .have:j=k+1:=by omega
   subst this;exact bF _
end
section
variable{P:Program}{ops:Array Oper}{cf:List (Nat×Nat)}{Q:Exit->St->Prop}
def Hj(P:Program)(ops:Array Oper)(cf:List (Nat×Nat))(Q:Exit->St->Prop):List Oper->List dS->St->Tra->Prop
 |[],[],st,tr=>(∀ q∈cf,apartT tr q.1 q.2)/\Q .normal st
 |o::os,p::ps,st,tr=>p.Ok P ops o st/\p.y8 (kindO o.op) st/\Hj P ops cf Q os ps (zv st o p) (tr++[(p.rd,p.wr)])
 |_,_,_,_=>False
theorem PA{Y:YSpec}:∀ (C:List Oper) (st:St) (tr:Tra),AOps P Y ops true cf Q C st tr->∃ ps,Hj P ops cf Q C ps st tr
 |[],st,tr,h=>⟨[],h⟩
 |o::C,st,tr,h=>by
  simp only[AOps] at h;rcases QN h with⟨p,h1,h2,h3⟩|⟨h1,_⟩|⟨h1,_⟩
  .obtain⟨ps,h4⟩:=PA C _ _ h3;exact⟨p::ps,h1,h2,h4⟩
  .cases h1
  .cases h1
instance:Inhabited dS:=⟨⟨.u,[],[],0⟩⟩
theorem PB(oo:Nat->Oper)(pp:Nat->dS)(st₀:St):∀ (C:List Oper) (ps:List dS) (k:Nat) (tr:Tra),(∀ j o,C[j]? =some o->oo (k+j)=o)->(∀ j p,ps[j]? =some p->pp (k+j)=p)->tr.length=k->
 (∀ j,j<k->tr.getD j ([],[])=((pp j).rd,(pp j).wr))->Hj P ops cf Q C ps (je oo pp st₀ k) tr->
 (∀ j,k<=j->j<k+C.length->(pp j).Ok P ops (oo j) (je oo pp st₀ j)/\(pp j).y8 (kindO (oo j).op) (je oo pp st₀ j))/\Q .normal (je oo pp st₀ (k+C.length))/\
 ∃ J:Tra,(∀ j,j<k+C.length->J.getD j ([],[])=((pp j).rd,(pp j).wr))/\∀ q∈cf,apartT J q.1 q.2
 |[],[],k,tr,ho,hp,hl,ht,h=>⟨fun j h1 h2=>absurd h2 oP,h.2,tr,ht,h.1⟩
 |[],_::_,_,_,_,_,_,_,h=>h.elim
 |_::_,[],_,_,_,_,_,_,h=>h.elim
 |o::C,p::ps,k,tr,ho,hp,hl,ht,h=>by
  have e1:oo k=o:=ho 0 o rfl;have e2:pp k=p:=hp 0 p rfl;obtain⟨h1,h2,h3⟩:=h;have M:Hj P ops cf Q C ps (je oo pp st₀ (k+1)) (tr++[(p.rd,p.wr)]):=by rw[uK,e1,e2];exact h3
  obtain⟨a1,a2,J,a3,a4⟩:=PB oo pp st₀ C ps (k+1) _ (fun j x hj=>by have:=ho (j+1) x (by simpa using hj);rw[<- this];congr 1;omega)
   (fun j x hj=>by have:=hp (j+1) x (by simpa using hj);rw[<- this];congr 1;omega) (by simp[hl])
   (fun j hj=>by
    rcases Nat.lt_or_ge j k with ao|X
    .rw[<- ht j ao];simp[List.getElem?_append_left (show j<tr.length by omega)]
    .have:j=k:=by omega
     subst this;simp[<- hl,List.getElem?_append_right,e2]
     rw[hl,e2];exact⟨rfl,rfl⟩) M
  have e3:k+(o::C).length=k+1+C.length:=by simp;omega
  rw[e3];refine⟨fun j hj xA=>?_,a2,J,a3,a4⟩;rcases Nat.lt_or_ge k j with ao|X
  .exact a1 j ao xA
  .have:j=k:=by omega
   subst this;rw[e1,e2];exact⟨h1,h2⟩
theorem Zd(h:drawInfo ops=some cf):(∀ (i:Nat) (o:Oper),ops[i]? =some o->∀ e∈o.after,Region.binds .any e=true->e.on<i)/\
 (∀ q∈unordered (befs ops.toList []) ops.size,tmpsApart ops q.1 q.2=true)/\(∀ q∈unordered (befs ops.toList []) ops.size,mayMeet ops q.1 q.2=true->q∈cf):=by
 unfold drawInfo at h;simp only at h;split at h
 .rename_i hc;simp only[aM] at hc;cases h;refine⟨fun i o hi e he hb=>?_,fun q hq=>bj.1 hc.2 q hq,fun q hq hm=>by rw[List.mem_filter];exact⟨hq,hm⟩⟩
  have h1:=bj.1 hc.1 (o,i) (by
   rw[List.mem_zipIdx_iff_getElem?]
   simpa using hi)
  have h2:=bj.1 h1 e (by simpa using he);simpa[hb] using h2
 .cases h
variable{F:Nat->Prop}{N₀:Nat}{β₀:Pla}{w₀:World}{a₀:Act}
structure DS(P:Program)(F:Nat->Prop)(oo:Nat->Oper)(pp:Nat->dS)(st₀:St)(n:Nat)(N₀:Nat)(β₀:Pla)(w₀:World)(a₀:Act)(S:Nat->Bool)(β:Pla)(w:World)(a:Act):Prop where
 e:ESim F β w (gn oo pp st₀ S n).env a
 m:MSim P F (gn oo pp st₀ S n).mem β w
 free:∀ i,st₀.nx<=i->(∀ k,k<n->S k=true->¬ ((je oo pp st₀ k).nx<=i/\i<(je oo pp st₀ k).nx+(pp k).new))->β i=none
 step:Step β₀ w₀ β w
 grow:∀ i,i<N₀->β₀ i=none->β i=none
 size:a.tmps.size=a₀.tmps.size
 defers:a.defers=a₀.defers
theorem abT{oo:Nat->Oper}{pp:Nat->dS}{st₀:St}(hi:drawInfo ops=some cf)(Fv:∀ j o,ops[j]? =some o->oo j=o)(ao:At a₀.tmps.size ops=true)
 (bZ:∀ j,j<ops.size->(pp j).Ok P ops (oo j) (je oo pp st₀ j)/\(pp j).y8 (kindO (oo j).op) (je oo pp st₀ j)) (hQ:Q .normal (je oo pp st₀ ops.size))
 (a7:∃ qo:Tra,(∀ j,j<ops.size->qo.getD j ([],[])=((pp j).rd,(pp j).wr))/\∀ q∈cf,apartT qo q.1 q.2)
 (xC:∀ i,st₀.nx<=i->st₀.mem i=none) (hN:N₀<=st₀.nx) (r:Option Nat) (n:Nat):
 ∀ (jE:Nat) (C:Array Bool) (β:Pla) (w:World) (a:Act),C.size=ops.size->C.toList.countP (fun b=> !b)<=jE->
  (∀ j,C.getD j false=true->∀ o,ops[j]? =some o->∀ e∈o.after,Region.binds .any e=true->C.getD e.on false=true)->
  DS P F oo pp st₀ ops.size N₀ β₀ w₀ a₀ (fun j=>C.getD j false) β w a->
  wpAnyIn (Fe r) n P .any ops (cN P F N₀ β₀ w₀ a₀ Q) jE C a w:=by
 obtain⟨mw,hta,rC⟩:=Zd hi;obtain⟨qo,VZ,ai4⟩:=a7
 have XN:∀ k,k<=ops.size->∀ i,(je oo pp st₀ k).nx<=i->(je oo pp st₀ k).mem i=none:=by
  intro k
  induction k with
  |zero=>intro _ i hi;exact xC i hi
  |succ k ih=>
   intro hk i hi;rw[uK,Ao] at hi;rw[uK,Hi];have h1:=(bZ k oG).2.wr;rw[BC,ih oG i oG];intro jq;rcases h1 i jq with h2|h2
   .exact h2 (ih oG i oG)
   .omega
 have qp:∀ i j,i<j->j<ops.size->((befs ops.toList []).getD j 0).testBit i=false->
  (∀ x∈(pp i).wr,x∉(pp j).wr)/\(∀ x∈(pp i).wr,x∈(pp j).rd->(je oo pp st₀ j).mem x=none)/\(∀ x∈(pp j).wr,x∈(pp i).rd->(je oo pp st₀ i).mem x=none):=by
  intro i j mv hj hb;have hu:=Pb mv hj hb
  have xE:ops[i]? =some (oo i):=by
   have:i<ops.size:=by omega
   rw[Fv i ops[i] (by simp[this])];simp[this]
  have Fw:ops[j]? =some (oo j):=by
   rw[Fv j ops[j] (by simp[hj])];simp[hj]
  obtain⟨ti,XO,XP,t3i⟩:=(bZ i oG).2;obtain⟨tj,t0j,t1j,t3j⟩:=(bZ j hj).2;by_cases fY:mayMeet ops i j=true
  .have h1:=ai4 _ (rC _ hu fY);unfold apartT at h1;simp only[VZ i oG,VZ j hj] at h1;exact⟨fun x hx=>(h1.1 x hx).2,fun x hx hr=>absurd hr (h1.1 x hx).1,fun x hx hr=>absurd hr (h1.2 x hx)⟩
  .simp only[mayMeet,xE,Fw,aM,Bool.or_eq_true,beq_iff_eq,bne_iff_ne,Bool.not_eq_true',ne_eq] at fY
   have hk:∀ o:Oper,kindO o.op=0\/kindO o.op=1\/kindO o.op=2\/kindO o.op=3:=fun o=>by
    unfold kindO;split<;>simp
   have nil:∀ p:dS,p.ups=[]->∀ x,x∉p.wr:=fun p hp x hx=>by simp[dS.wr,hp] at hx
   rcases hk (oo j) with X|X|X|X
   .have:=t0j X;exact⟨fun x _=>nil _ this.2 x,fun x _ hr=>(by rw[this.1] at hr;cases hr),fun x hx=>absurd hx (nil _ this.2 x)⟩
   .by_cases k0:kindO (oo i).op=0
    .have:=XO k0;exact⟨fun x hx=>absurd hx (nil _ this.2 x),fun x hx=>absurd hx (nil _ this.2 x),fun x _ hr=>by rw[this.1] at hr;cases hr⟩
    .have k1:kindO (oo i).op=1:=by
      rcases hk (oo i) with h|h|h|h
      .exact absurd h k0
      .exact h
      .exact absurd ⟨⟨.inl X,oG⟩,by simp[h]⟩ fY
      .exact absurd ⟨⟨.inl X,oG⟩,by simp[h]⟩ fY
     exact⟨fun x hx=>absurd hx (nil _ (XP k1) x),fun x hx=>absurd hx (nil _ (XP k1) x),fun x hx=>absurd hx (nil _ (t1j X) x)⟩
   .by_cases k0:kindO (oo i).op=0
    .have:=XO k0;exact⟨fun x hx=>absurd hx (nil _ this.2 x),fun x hx=>absurd hx (nil _ this.2 x),fun x _ hr=>by rw[this.1] at hr;cases hr⟩
    .exact absurd ⟨⟨.inr X,oG⟩,by simp[X]⟩ fY
   .have fO:=uJ oo pp st₀ (show i+1<=j by omega);rw[uK,Ao] at fO;obtain⟨h1,h2⟩:=t3j X
    have Fx:∀ x∈(pp i).wr,x<(je oo pp st₀ j).nx:=fun x hx=>by
     rcases ti x hx with h|h
     .rcases Nat.lt_or_ge x (je oo pp st₀ i).nx with h'|h'
      .omega
      .exact absurd (XN i oG x h') h
     .omega
    refine⟨fun x hx hxj=>?_,fun x _ hr=>(by rw[h1] at hr;cases hr),fun x hx _=>XN i oG x ?_⟩
    .have:=Fx x hx;have:=h2 x hxj;omega
    .have:=h2 x hx;omega
 have MA:∀ i j,i<j->j<ops.size->((befs ops.toList []).getD j 0).testBit i=false->(oo i).apart ops (oo j)=true:=by
  intro i j mv hj hb;have h1:=hta _ (Pb mv hj hb)
  have xE:ops[i]? =some (oo i):=by
   have:i<ops.size:=by omega
   rw[Fv i ops[i] (by simp[this])];simp[this]
  have Fw:ops[j]? =some (oo j):=by
   rw[Fv j ops[j] (by simp[hj])];simp[hj]
  simpa[tmpsApart,xE,Fw] using h1
 have qg:∀ C:Array Bool,C.size=ops.size->Region.ready .any ops C=[]->∀ k,k<ops.size->C.getD k false=true:=by
  intro C cE hr k
  induction k using Nat.strongRecOn with
  |_ k ih=>
   intro hk;cases hl:C.getD k false with
   |true=>rfl
   |false=>
    exfalso
    have:k∈Region.ready .any ops C:=by
     rw[mem_ready];refine⟨?_,ops[k],by simp[hk],fun e he hb=>?_⟩
     .have jG:k<C.size:=by omega
      simpa[jG] using hl
     .have h1:=mw k ops[k] (by simp[hk]) e he hb;exact ih e.on h1 oG
    rw[hr] at this;cases this
 have done:∀ (C:Array Bool) (β:Pla) (w:World) (a:Act),C.size=ops.size->DS P F oo pp st₀ ops.size N₀ β₀ w₀ a₀ (fun j=>C.getD j false) β w a->Region.ready .any ops C=[]->
  cN P F N₀ β₀ w₀ a₀ Q .normal a w:=by
  intro C β w a cE J hr;have e:gn oo pp st₀ (fun j=>C.getD j false) ops.size=je oo pp st₀ ops.size:=QM oo pp st₀ _ fun j hj=>qg C cE hr j hj;have h1:=J.e;have h2:=J.m;rw[e] at h1 h2;refine⟨je oo pp st₀ ops.size,β,hQ,⟨h1,h2,fun i hi=>J.free i ?_ fun k hk _ h=>?_⟩,⟨J.step,?_,J.grow,J.size,J.defers⟩⟩
  .exact Nat.le_trans (uJ oo pp st₀ (Nat.zero_le _)) hi
  .have:=uJ oo pp st₀ (show k+1<=ops.size by omega);rw[uK,Ao] at this;omega
  .exact Nat.le_trans hN (uJ oo pp st₀ (Nat.zero_le _))
 intro jE
 induction jE with
 |zero=>
  intro C β w a cE hc cJ J
  have hr:Region.ready .any ops C=[]:=by
   cases CW:Region.ready .any ops C with
   |nil=>rfl
   |cons x xs=>
    exfalso;have hx:x∈Region.ready .any ops C:=by rw[CW];simp
    rw[mem_ready] at hx;obtain⟨h1,o,ho,_⟩:=hx;have vO:x<ops.size:=(Array.getElem?_eq_some_iff.1 ho).1;have pk:x<C.size:=by omega
    have:C[x]=false:=by simpa[pk] using h1
    have h2:0<C.toList.countP (fun b=> !b):=List.countP_pos_iff.2 ⟨C[x],oS,by simp[this]⟩;omega
  exact⟨hr,done C β w a cE J hr⟩
 |succ jE ih=>
  intro C β w a cE hc cJ J;refine⟨done C β w a cE J,fun k hk=>?_⟩;rw[mem_ready] at hk;obtain⟨Fy,o,ho,sE⟩:=hk;have jt:k<ops.size:=(Array.getElem?_eq_some_iff.1 ho).1;have rE:k<C.size:=by omega
  have Nx:C[k]=false:=by simpa[rE] using Fy
  have IQ:C.getD k false=false:=by simp[rE,Nx]
  have eo:oo k=o:=Fv k o ho;obtain⟨hOk,aow⟩:=bZ k jt
  have V0:∀ j,j<k->C.getD j false=false->((befs ops.toList []).getD k 0).testBit j=false:=by
   intro j Fz hj;cases hb:((befs ops.toList []).getD k 0).testBit j with
   |false=>rfl
   |true=>
    exfalso;have h1:=Kb ops.toList [] k o (by simpa using ho);simp only[List.length_nil,Nat.zero_add] at h1;rw[h1] at hb;rcases JU _ j _ 0 hb with h2|⟨e,he,po,h2⟩
    .simp at h2
    .have CV:=sE e (by simpa using he) po;rcases h2 with rfl|h2
     .rw[hj] at CV;cases CV
     .have ao:=mw k o ho e (by simpa using he) po;have h3:((befs ops.toList []).getD e.on 0).testBit j=true:=by simpa[List.getElem?_take,ao] using h2
      have:=Py (S:=fun j=>C.getD j false) cJ j e.on CV h3;rw[hj] at this;cases this
  have H':∀ j,k<j->C.getD j false=true->((befs ops.toList []).getD j 0).testBit k=false:=by
   intro j ij hj;cases hb:((befs ops.toList []).getD j 0).testBit k with
   |false=>rfl
   |true=>
    exfalso;have:=Py (S:=fun j=>C.getD j false) cJ k j hj hb;rw[IQ] at this;cases this
  have Uf:∀ j,j<ops.size->C.getD j false≠decide (j<k)->(j<k/\C.getD j false=false)\/(k<j/\C.getD j false=true):=by
   intro j hj M;rcases Nat.lt_trichotomy j k with h|h|h
   .left;refine⟨h,?_⟩;simpa[h] using M
   .subst h;simp[IQ] at M
   .right;refine⟨h,?_⟩;have:¬ j<k:=by omega
    simpa[this] using M
  have Ny:=aeA oo pp st₀ k ops.size oG;refine Pe ho ?_;rw[<- eo];refine hOk F β w a (gn oo pp st₀ (fun j=>C.getD j false) ops.size).mem (gn oo pp st₀ (fun j=>C.getD j false) ops.size).env (je oo pp st₀ ops.size).nx ?_ J.e J.m ?_ ?_ ?_ r n _ _ ?_
  .intro t ht;rw[<- Ny];refine adq oo pp st₀ _ fun j hj M=>?_;rcases Uf j hj M with⟨h1,h2⟩|⟨h1,h2⟩
   .have:=(Oper.apart_spec (MA j k h1 jt (V0 j h1 h2))).1;exact fun hd=>this t hd ht
   .have:=(Oper.apart_spec (MA k j h1 hj (H' j h1 h2))).2.2;exact fun hd=>this t hd ht
  .intro i hi M;rw[<- Ny] at M ⊢;refine adr oo pp st₀ _ fun j hj EY hw=>?_;rw[Ny] at M;rcases Uf j hj EY with⟨h1,h2⟩|⟨h1,h2⟩
   .exact M ((qp j k h1 jt (V0 j h1 h2)).2.1 i hw hi)
   .exact M ((qp k j h1 hj (H' j h1 h2)).2.2 i hw hi)
  .intro i h1 h2;refine J.free i (Nat.le_trans (uJ oo pp st₀ (Nat.zero_le _)) h1) fun j hj hS h3=>?_;rcases Nat.lt_trichotomy j k with h|h|h
   .have:=uJ oo pp st₀ (show j+1<=k by omega);rw[uK,Ao] at this;omega
   .subst h;simp only[IQ] at hS;cases hS
   .have:=uJ oo pp st₀ (show k+1<=j by omega);rw[uK,Ao] at this;omega
  .intro i hi;refine J.free i (Nat.le_trans (uJ oo pp st₀ (Nat.zero_le _)) hi) fun j hj _ h3=>?_;have:=uJ oo pp st₀ (show j+1<=ops.size by omega);rw[uK,Ao] at this;omega
  .intro v w' β' g1 g2 g3 g4
   have FA:(fun j=>(C.setIfInBounds k true).getD j false)=(fun j=>if j=k then true else C.getD j false):=by
    funext j;by_cases hj:j=k
    .subst hj;simp[rE]
    .rw[if_neg hj,getD_set_ne false (Ne.symm hj)]
   obtain⟨ae,am⟩:=ads oo pp st₀ (S:=fun j=>C.getD j false) (k:=k) IQ ops.size jt fun j ij hj IS=>
    ⟨(Oper.apart_spec (MA k j ij hj (H' j ij IS))).2.1,(qp k j ij hj (H' j ij IS)).1⟩
   refine ih _ β' w' _ (by simpa using cE) ?_ ?_ ?_
   .have:(C.setIfInBounds k true).toList=C.toList.set k true:=by simp
    rw[this,List.countP_set (by simpa using rE)];have h2:0<C.toList.countP (fun b=> !b):=List.countP_pos_iff.2 ⟨C[k],oS,by simp[Nx]⟩;have h3:C.toList[k]'(by simpa using rE)=false:=by simpa using Nx
    rw[h3];simp only[Bool.not_false,if_true,Bool.not_true,Bool.false_eq_true,if_false];omega
   .intro j hj o' Nz e he hb;by_cases Fz:j=k
    .subst Fz;rw[ho] at Nz;cases Nz;exact getD_set_true (sE e he hb)
    .rw[getD_set_ne false (Ne.symm Fz)] at hj;exact getD_set_true (cJ j hj o' Nz e he hb)
   .rw[FA];refine⟨?_,by rw[am];exact g2,fun i hi hn=>?_,J.step.trans g3,fun i hi hn=>?_,by rw[G0];exact J.size,by rw[put_defers];exact J.defers⟩
    .rw[ae];have hd:∀ t,(oo k).dst=some t->t<a.tmps.size:=fun t ht=>by rw[J.size];rw[eo] at ht;exact PC ao ho t ht
     have he:=J.e.step g3;cases ai5:(oo k).dst with
     |none=>exact he
     |some t=>exact he.put (some t) _ _ g1 (fun u hu=>hd u (by rw[ai5];exact hu))
    .have h1:=hn k jt oS;have h2:=J.free i hi fun j hj IS=>hn j hj (by by_cases Fz:j=k<;>simp[Fz,IS]);exact g4 i h2 oG
    .exact g4 i (J.grow i hi hn) (.inl (Nat.lt_of_lt_of_le (Nat.lt_of_lt_of_le hi hN) (uJ oo pp st₀ (Nat.zero_le _))))
theorem Zs{Y:YSpec}{st:St}{β:Pla}{w:World}{a:Act}{r:Option Nat}{n id:Nat}(m9:P.follows .mixedOrders=true)(hi:drawInfo ops=some cf)(ao:At a₀.tmps.size ops=true)
 (h:AOps P Y ops true cf Q ops.toList st []) (hs:fN P F st β w a) (C:jm N₀ β₀ w₀ a₀ st β w a):(Code.region id ops true).wpIn (Fe r) n P (cN P F N₀ β₀ w₀ a₀ Q) a w:=by
 refine wpIn_region_any m9 ?_;obtain⟨ps,AY⟩:=PA _ _ _ h;have X:=PB (fun j=>ops.toList.getD j default) (fun j=>ps.getD j default) st ops.toList ps 0 [] (fun j o hj=>by simp at hj;simp[hj]) (fun j p hj=>by simp[hj]) rfl oS AY;simp only[Nat.zero_add,Array.length_toList] at X;obtain⟨h1,h2,h3⟩:=X
 have J:gn (fun j=>ops.toList.getD j default) (fun j=>ps.getD j default) st (fun j=>(Array.replicate ops.size false).getD j false) ops.size=st:=by
  have:∀ n,gn (fun j=>ops.toList.getD j default) (fun j=>ps.getD j default) st (fun j=>(Array.replicate ops.size false).getD j false) n=st:=by
   intro n
   induction n with
   |zero=>rfl
   |succ n ih=>
    have:(Array.replicate ops.size false).getD n false=false:=by simp[Array.getD_eq_getD_getElem?,Array.getElem?_replicate];split<;>rfl
    simp only[gn,this,Bool.false_eq_true,if_false];exact ih
  exact this _
 have M:Step β w β { w with drawn:=w.drawn+1 }:=⟨bF _,fun _ _ h=>⟨rfl,h⟩,fun _ _ h=>.inl h,rfl,rfl⟩
 refine abT (st₀:=st) (oo:=fun j=>ops.toList.getD j default) (pp:=fun j=>ps.getD j default) hi (fun j o hj=>by simp[hj]) ao (fun j hj=>h1 j (Nat.zero_le _) hj) h2 h3 (fun i hi=>?_) C.le r n ops.size _ β _ a oS ?_ ?_ ?_
 .cases hm:st.mem i with
  |none=>rfl
  |some row=>
   obtain⟨p,hp,_⟩:=hs.m.row i row hm;rw[hs.n i hi] at hp;cases hp
 .simpa using List.countP_le_length (p:=fun b=> !b) (l:=(Array.replicate ops.size false).toList)
 .intro j hj;exfalso;have:(Array.replicate ops.size false).getD j false=false:=by simp[Array.getD_eq_getD_getElem?,Array.getElem?_replicate];split<;>rfl
  rw[this] at hj;cases hj
 .refine⟨?_,?_,fun i hi _=>hs.n i hi,C.step.trans M,C.grow,C.size,C.defers⟩
  .rw[J];exact hs.e.step M
  .rw[J];exact hs.m.ext (bF _) fun _ _=>rfl
end
end Go.Abs
