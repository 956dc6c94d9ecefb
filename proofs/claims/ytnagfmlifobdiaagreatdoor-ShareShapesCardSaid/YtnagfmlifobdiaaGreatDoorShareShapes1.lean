/- Part 1. -/
import Derived.DeepKeys3
import Derived.KernelRfl
import Derived.RangeFuncLeaves
import Derived.WalkKit
import Derived.WideKeyMaps
set_option linter.all false
theorem kr {α:Sort _} {a b:α} (h:a=b:=by kernel_rfl):a=b:=h
theorem bc{α : Type _}{l : List α}{i : Nat}(h : i < l.length) : l[i]? = some l[i] := List.getElem?_eq_getElem h
theorem eh{α : Type _}{l : List α}{i : Nat}{a : α} : l.getD i a = l[i]?.getD a := List.getD_eq_getElem?_getD
theorem aV{α : Type _}(a b : α) : (some a = some b) = (a = b) := Option.some.injEq a b
theorem bX{α : Type _}{l : List α}{i : Nat}{a : α} : l[i]? = some a ↔ ∃ h : i < l.length, l[i] = a := List.getElem?_eq_some_iff
theorem aB(a b : Bool) : ((a && b) = true) = (a = true ∧ b = true) := Bool.and_eq_true a b
theorem bt{n m : Nat}(h : Nat.ble n m = true) : n ≤ m := Nat.le_of_ble_eq_true h
theorem eI(n : Nat) : ((n : Int)).toNat = n := Int.toNat_natCast n
theorem di{α : Type _}{l : List α}{n : Nat}(h : n < l.length) : l[n] ∈ l := List.getElem_mem h
theorem iG{a : Int}(h : 0 ≤ a) : ∃ n : Nat, a = n := Int.eq_ofNat_of_zero_le h
theorem cx{α : Type _}{l : List α}{i : Nat}{a : α}(e : l[i]? = some a) : a ∈ l := List.mem_of_getElem? e
theorem cO{α : Type _}{l : List α}{i : Nat}(h : l.length ≤ i) : List.take i l = l := List.take_of_length_le h
theorem dI{α β : Type _}{f : α → β}{x : Option α}{b : β} : x.map f = some b ↔ ∃ a, x = some a ∧ f a = b := Option.map_eq_some_iff
theorem dR{α : Type _}{a : α}{l : List α}(h : a ∈ l) : ∃ i : Nat, l[i]? = some a := List.getElem?_of_mem h
theorem bT{α : Type _}{p : α → Bool}{l : List α} : l.all p = true ↔ ∀ x ∈ l, p x = true := List.all_eq_true
theorem cN{α β : Type _}(a : α)(b : β)(c : α)(d : β) : ((a, b) = (c, d)) = (a = c ∧ b = d) := Prod.mk.injEq a b c d
theorem bM(n : Nat) : n ≤ n := Nat.le_refl n
theorem oS{p : Prop}(h : p:=by simp) : p:=h
theorem oM{p : Prop}(h : p:=by dsimp only;omega) : p:=h
theorem oC{p : Prop}(h : p:=by decide) : p:=h
theorem oN{p : Prop}(h : p:=by assumption) : p:=h
theorem oP{p : Prop}(h : p:=by simp;omega) : p:=h
theorem oH{p : Prop}(h : p:=by cases h) : p:=h
theorem aG{p : Prop}(h : p:=by repeat' (first|exact trivial|exact rfl|refine And.intro ?_ ?_)) : p:=h
theorem bO{p : Prop}(h : p:=by simp[rU]) : p:=h
theorem bR{p : Prop}(h : p:=by simp[Op.operands]) : p:=h
theorem aqX{p : Prop}(h : p:=by first|(simp;done)|exact⟨rfl,bt rfl⟩|(simp;omega)) : p:=h
theorem aqY{p : Prop}(h : p:=by first|(simp;done)|omega|exact bt rfl) : p:=h
theorem aqZ{p : Prop}(h : p:=by first|rfl|exact bt rfl|(simp;done)|(simp;omega)|omega) : p:=h
theorem oG{p:Prop}(h:p:=by omega):p:=h
theorem eG{p:Prop}(h:p:=by repeat' (first|exact trivial|exact rfl|refine And.intro ?_ ?_)):p:=h
namespace Go.Abs
inductive D where
 |u
 |s (v:Value)
 |ub
 |cS (c:Bool) (d:D)
 |agg (cs:List D)
 |bd (cs:List D)
 |z
 |sl (es:List D) (n:Nat)
 |sc (es:List D) (n:Nat)
 |pt (cs:List D)
 |rs (i off n:Nat)
 |rp (i off:Nat)
 |mp (i:Nat)
 |im (es:List (Value×D))
 |fn (f:Fn) (fs cs:List D)
 |yl (i:Nat)
 deriving Inhabited
inductive Pl where
 |dead
 |nil
 |cells (b o len room sz:Nat)
 |map (r:Nat)
 |raw (r:Nat)
 |lp (r:Nat)
def Pl.bF:Pl->Option Nat
 | .cells b _ _ _ _=>some b
 | .map r=>some r
 | .raw r=>some r
 | .lp r=>some r
 |_=>none
@[simp] def Ip : Value -> Bool
 | .bool _ | .int _ _ | .string _ | .pointer none | .nilFunc | .nilIface | .map none=>true
 |_=>false
def plain:Value->Bool
 | .iface _ (.agg cs)=>cs.toList.all Ip
 | .iface _ v=>Ip v
 |v=>Ip v
abbrev aJ:=Nat->Option Pl
def aJ.free(β:aJ)(b:Nat):Prop:=∀ i p,β i=some p->p.bF≠some b
inductive R(F:Nat->Prop)(β:aJ)(w:World):D->Value->Prop
 |u (v:Value):R F β w .u v
 |s (v:Value) (h:plain v=true):R F β w (.s v) v
 |ub (b:Bool):R F β w .ub (.bool b)
 |cS (c:Bool) (d:D) (v:Value) (h:c=true->R F β w d v) (h':c=false->v=undef):R F β w (.cS c d) v
 |agg (cs:List D) (vs:List Value) (hl:vs.length=cs.length) (h:∀ (k:Nat) (d:D) (v:Value),cs[k]? =some d->vs[k]? =some v->R F β w d v):R F β w (.agg cs) (.agg vs.toArray)
 |bd (cs:List D) (vs:List Value) (hl:vs.length=cs.length) (h:∀ (k:Nat) (d:D) (v:Value),cs[k]? =some d->vs[k]? =some v->R F β w d v):R F β w (.bd cs) (.tuple vs.toArray)
 |z:R F β w .z (.slice none 0 0)
 |yl (i l:Nat) (h:β i=some (.lp l)):R F β w (.yl i) (.func (.yield l) #[] #[])
 |CU (i:Nat) (v:Value) (h:β i=some .dead) (hv:v.oneCell'=true):R F β w (.yl i) v
 |jy (a:Option Addr) (cap:Nat):R F β w (.sl [] 0) (.slice a 0 cap)
 |sl (es:List D) (n b o cap:Nat) (us:Nat->Value) (hf:¬ F b) (hb:β.free b) (al:b<w.heap.size) (pT:n<=cap) (dO:cap<=maxLen)
  (hc:∀ k:Nat,k<es.length->w.cell? ⟨b,o+k,none⟩=some (us k)/\(us k).oneCell'=true) (h:∀ (k:Nat) (d:D),es[k]? =some d->R F β w d (us k)):R F β w (.sl es n) (.slice (some ⟨b,o,none⟩) n cap)
 |sc (es:List D) (n:Nat) (a:Option Addr) (h:R F β w (.sl es n) (.slice a n n)):R F β w (.sc es n) (.slice a n n)
 |pt (cs:List D) (b o:Nat) (us:Nat->Value) (hf:¬ F b) (hb:β.free b) (al:b<w.heap.size)
  (hc:∀ k:Nat,k<cs.length->w.cell? ⟨b,o+k,none⟩=some (us k)/\(us k).oneCell'=true) (h:∀ (k:Nat) (d:D),cs[k]? =some d->R F β w d (us k)):R F β w (.pt cs) (.pointer (some ⟨b,o,none⟩))
 |l9 (i off n:Nat) (v:Value) (h:β i=some .dead) (hv:v.oneCell'=true):R F β w (.rs i off n) v
 |jO (i:Nat) (a:Option Addr) (h:β i=some .nil):R F β w (.rs i 0 0) (.slice a 0 0)
 |kO (i off:Nat) (a:Option Addr) (b o len room sz:Nat) (h:β i=some (.cells b o len room sz)):R F β w (.rs i off 0) (.slice a 0 0)
 |rs (i off n cap b o len room sz:Nat) (h:β i=some (.cells b o len room sz)) (hn:n<=cap) (dO:cap<=maxLen)
  (h1:len<=off+cap*sz) (h2:off+cap*sz<=room):R F β w (.rs i off n) (.slice (some ⟨b,o+off,none⟩) n cap)
 |tw (i off:Nat) (v:Value) (h:β i=some .dead) (hv:v.oneCell'=true):R F β w (.rp i off) v
 |rp (i off b o len room sz:Nat) (h:β i=some (.cells b o len room sz)):R F β w (.rp i off) (.pointer (some ⟨b,o+off,none⟩))
 |AB (i:Nat) (v:Value) (h:β i=some .dead) (hv:v.oneCell'=true):R F β w (.mp i) v
 |mp (i r:Nat) (h:β i=some (.map r)):R F β w (.mp i) (.map (some r))
 |im (es:List (Value×D)) (r:Nat) (ms:Array MapEntry) (clock:Nat) (hf:¬ F r) (hb:β.free r) (hc:w.heap[r]? =some (.map ms clock)) (hl:ms.size=es.length) (eN:(es.map (·.1)).Nodup)
  (hk:∀ (k:Nat) (x:Value×D) (m:MapEntry),es[k]? =some x->ms[k]? =some m->m.key=x.1) (h:∀ (k:Nat) (x:Value×D) (m:MapEntry),es[k]? =some x->ms[k]? =some m->R F β w x.2 m.val):R F β w (.im es) (.map (some r))
 |fn (f:Fn) (fs cs:List D) (us vs:List Value) (hl:us.length=fs.length) (nD:vs.length=cs.length)
  (h:∀ (k:Nat) (d:D) (v:Value),fs[k]? =some d->us[k]? =some v->R F β w d v) (h':∀ (k:Nat) (d:D) (v:Value),cs[k]? =some d->vs[k]? =some v->R F β w d v):R F β w (.fn f fs cs) (.func f us.toArray vs.toArray)
abbrev Out(w w':World):Prop:=w'.os=w.os/\w'.output=w.output
theorem Out.trans{C J M:World}(h:Out C J)(k:Out J M):Out C M:=⟨k.1.trans h.1,k.2.trans h.2⟩
def Skel(w w':World)(r:Nat):Prop:=∀ L,w.heap[r]? =some (.loop L)->∃ st pe,w'.heap[r]? =some (.loop { L with state:=st,pending:=pe })
theorem px{w w':World}{r:Nat}(h:w'.heap[r]? =w.heap[r]?):Skel w w' r:=fun L C=>⟨L.state,L.pending,h.trans C⟩
theorem Ht{w w':World}{r:Nat}(h:r<w.heap.size->w'.heap[r]? =w.heap[r]?):Skel w w' r:=fun L C=>⟨L.state,L.pending,(h (Array.getElem?_eq_some_iff.1 C).1).trans C⟩
theorem Skel.trans{w C J:World}{r:Nat}(h:Skel w C r)(k:Skel C J r):Skel w J r:=fun L M=>by
 obtain⟨a,b,h1⟩:=h L M;obtain⟨c,d,h2⟩:=k _ h1;exact⟨c,d,h2⟩
structure Step(β:aJ)(w:World)(β':aJ)(w':World):Prop where
 size:w.heap.size<=w'.heap.size
 fp:∀ b,b<w.heap.size->β.free b->w'.heap[b]? =w.heap[b]? /\β'.free b
 iR:∀ i p,β i=some p->β' i=some p\/β' i=some .dead
 out:Out w w'
 lp:∀ i r,β i=some (.lp r)->β' i=some (.lp r)->Skel w w' r
theorem Step.refl(β:aJ)(w:World):Step β w β w:=⟨bM _,fun _ _ h=>⟨rfl,h⟩,fun _ _ h=>.inl h,⟨rfl,rfl⟩,fun _ _ _ _=>px rfl⟩
theorem Step.trans{U X β₃:aJ}{J M O:World}(h:Step U J X M)(k:Step X M β₃ O):Step U J β₃ O:=by
 refine⟨Nat.le_trans h.size k.size,fun b hb hf=>?_,fun i p hp=>?_,h.out.trans k.out,fun i r hp C=>?_⟩
 .obtain⟨h1,h2⟩:=h.fp b hb hf;obtain⟨k1,k2⟩:=k.fp b (Nat.lt_of_lt_of_le hb h.size) h2;exact⟨k1.trans h1,k2⟩
 .rcases h.iR i p hp with h1|h1
  .exact k.iR i p h1
  .right;rcases k.iR i _ h1 with h2|h2<;>exact h2
 .rcases h.iR i _ hp with h1|h1
  .exact(h.lp i r hp h1).trans (k.lp i r h1 C)
  .rcases k.iR i _ h1 with h2|h2<;>(rw[h2] at C;cases C)
theorem cell_of_heap{w w':World}{b o:Nat}(h:w'.heap[b]? =w.heap[b]?):w'.cell? ⟨b,o,none⟩=w.cell? ⟨b,o,none⟩:=by
 simp[World.cell?,h]
def pM(w w':World)(b:Nat):Prop:=(∀ o u,w.cell? ⟨b,o,none⟩=some u->w'.cell? ⟨b,o,none⟩=some u)/\∀ ms c,w.heap[b]? =some (.map ms c)->w'.heap[b]? =some (.map ms c)
theorem zy{w w':World}{b:Nat}(h:w'.heap[b]? =w.heap[b]?):pM w w' b:=⟨fun _ _ hu=>(cell_of_heap h).trans hu,fun _ _ hm=>h.trans hm⟩
theorem pM.refl(w:World)(b:Nat):pM w w b:=⟨fun _ _ h=>h,fun _ _ h=>h⟩
theorem R.gen{F F':Nat->Prop}{β β':aJ}{w w':World}(bS:w.heap.size<=w'.heap.size)
 (O:∀ b,b<w.heap.size->¬ F b->β.free b->pM w w' b/\β'.free b/\¬ F' b)
 (C:∀ i p,(∀ r,p≠ .raw r)->β i=some p->β' i=some p\/β' i=some .dead) {d:D} {v:Value} (h:R F β w d v):R F' β' w' d v:=by
 induction h with
 |u v=>exact .u v
 |s v h=>exact .s v h
 |ub b=>exact .ub b
 |cS c d v _ h' ih=>exact .cS c d v ih h'
 |agg cs vs hl _ ih=>exact .agg cs vs hl ih
 |bd cs vs hl _ ih=>exact .bd cs vs hl ih
 |z=>exact .z
 |yl i l h=>
  rcases C i _ oS h with h1|h1
  .exact .yl i l h1
  .exact .CU i _ h1 rfl
 |CU i v h hv=>exact .CU i v (by rcases C i _ oS h with h1|h1<;>exact h1) hv
 |jy a cap=>exact .jy a cap
 |sl es n b o cap us hf hb al pT dO hc _ ih=>
  obtain⟨h1,h2,J⟩:=O b al hf hb;exact .sl es n b o cap us J h2 (Nat.lt_of_lt_of_le al bS) pT dO (fun k hk=>⟨h1.1 _ _ (hc k hk).1,(hc k hk).2⟩) ih
 |sc es n a _ ih=>exact .sc es n a ih
 |pt cs b o us hf hb al hc _ ih=>
  obtain⟨h1,h2,J⟩:=O b al hf hb;exact .pt cs b o us J h2 (Nat.lt_of_lt_of_le al bS) (fun k hk=>⟨h1.1 _ _ (hc k hk).1,(hc k hk).2⟩) ih
 |l9 i off n v h hv=>exact .l9 i off n v (by rcases C i _ oS h with h1|h1<;>exact h1) hv
 |jO i a h=>
  rcases C i _ oS h with h1|h1
  .exact .jO i a h1
  .exact .l9 i 0 0 _ h1 rfl
 |kO i off a b o len room sz h=>
  rcases C i _ oS h with h1|h1
  .exact .kO i off a b o len room sz h1
  .exact .l9 i off 0 _ h1 rfl
 |rs i off n cap b o len room sz h hn dO h1 h2=>
  rcases C i _ oS h with J|J
  .exact .rs i off n cap b o len room sz J hn dO h1 h2
  .exact .l9 i off n _ J rfl
 |tw i off v h hv=>exact .tw i off v (by rcases C i _ oS h with h1|h1<;>exact h1) hv
 |rp i off b o len room sz h=>
  rcases C i _ oS h with h1|h1
  .exact .rp i off b o len room sz h1
  .exact .tw i off _ h1 rfl
 |AB i v h hv=>exact .AB i v (by rcases C i _ oS h with h1|h1<;>exact h1) hv
 |mp i r h=>
  rcases C i _ oS h with h1|h1
  .exact .mp i r h1
  .exact .AB i _ h1 rfl
 |im es r ms clock hf hb hc hl eN hk _ ih=>
  obtain⟨h1,h2,J⟩:=O r (Array.getElem?_eq_some_iff.1 hc).1 hf hb;exact .im es r ms clock J h2 (h1.2 _ _ hc) hl eN hk ih
 |fn f fs cs us vs hl nD _ _ ih M=>exact .fn f fs cs us vs hl nD ih M
theorem R.step{F:Nat->Prop}{β β':aJ}{w w':World}(hs:Step β w β' w'){d:D}{v:Value}(h:R F β w d v):R F β' w' d v:=
 h.gen hs.size (fun b hb hf C=>⟨zy (hs.fp b hb C).1,(hs.fp b hb C).2,hf⟩) fun i p _=>hs.iR i p
inductive RS where
 |ready
 |busy
 |done (e:Exit)
def ah6:Exit->Option Code
 | .ret=>some .ret
 | .exit id=>some (.exit id)
 |_=>none
def RS.Is(L:Loop):RS->Prop
 | .ready=>L.state=.ready/\L.pending=none
 | .busy=>L.state=.busy/\L.pending=none
 | .done e=>L.state=.done/\L.pending=ah6 e
inductive Row where
 |cells (cs:List D) (e:TypeId)
 |map (es:List (Value×D))
 |raw (r:Nat) (o:Obj)
 |bs (u:Bool) (x:D) (T:TypeId)
 |jz (f:Nat->Option Nat) (r:Row)
 |lp (k:RS)
abbrev Mem:=Nat->Option Row
inductive lW(P:Program)(F:Nat->Prop)(β:aJ)(w:World):Row->Pl->Prop
 |nil (e:TypeId):lW P F β w (.cells [] e) .nil
 |cells (cs:List D) (e:TypeId) (b o room sz:Nat) (c:Array Value) (hb:w.heap[b]? =some (.cells c e (0,0))) (hr:o+room<=c.size) (hlen:cs.length<=room) (bS:sz=P.cellsOf e)
  (h:∀ (k:Nat) (d:D),cs[k]? =some d->∃ v,c[o+k]? =some v/\R F β w d v/\v.oneCell'=true):lW P F β w (.cells cs e) (.cells b o cs.length room sz)
 |map (es:List (Value×D)) (r:Nat) (ms:Array MapEntry) (clock:Nat) (hb:w.heap[r]? =some (.map ms clock)) (hl:ms.size=es.length) (eN:(es.map (·.1)).Nodup)
  (h:∀ (k:Nat) (x:Value×D) (m:MapEntry),es[k]? =some x->ms[k]? =some m->m.key=x.1/\R F β w x.2 m.val):lW P F β w (.map es) (.map r)
 |raw (r:Nat) (o:Obj) (hb:w.heap[r]? =some o):lW P F β w (.raw r o) (.raw r)
 |lp (k:RS) (r:Nat) (L:Loop) (hb:w.heap[r]? =some (.loop L)) (hk:RS.Is L k):lW P F β w (.lp k) (.lp r)
 |bs (u:Bool) (x:D) (T:TypeId) (b:Nat) (v:Value) (hb:w.heap[b]? =some (.cells #[.pointer (if u then some ⟨b,0,none⟩ else none),v] T (0,0))) (bS:P.cellsOf T=2) (h:R F β w x v) (h1:v.oneCell'=true):lW P F β w (.bs u x T) (.cells b 0 2 2 2)
def aJ.via(β:aJ)(f:Nat->Option Nat):aJ:=fun i=>(f i).bind β
inductive c7(P:Program)(F:Nat->Prop)(β:aJ)(w:World):Row->Pl->Prop
 |nil (e:TypeId):c7 P F β w (.cells [] e) .nil
 |cells (cs:List D) (e:TypeId) (b o room sz:Nat) (c:Array Value) (hb:w.heap[b]? =some (.cells c e (0,0))) (hr:o+room<=c.size) (hlen:cs.length<=room) (bS:sz=P.cellsOf e)
  (h:∀ (k:Nat) (d:D),cs[k]? =some d->∃ v,c[o+k]? =some v/\R F β w d v/\v.oneCell'=true):c7 P F β w (.cells cs e) (.cells b o cs.length room sz)
 |map (es:List (Value×D)) (r:Nat) (ms:Array MapEntry) (clock:Nat) (hb:w.heap[r]? =some (.map ms clock)) (hl:ms.size=es.length) (eN:(es.map (·.1)).Nodup)
  (h:∀ (k:Nat) (x:Value×D) (m:MapEntry),es[k]? =some x->ms[k]? =some m->m.key=x.1/\R F β w x.2 m.val):c7 P F β w (.map es) (.map r)
 |raw (r:Nat) (o:Obj) (hb:w.heap[r]? =some o):c7 P F β w (.raw r o) (.raw r)
 |lp (k:RS) (r:Nat) (L:Loop) (hb:w.heap[r]? =some (.loop L)) (hk:RS.Is L k):c7 P F β w (.lp k) (.lp r)
 |bs (u:Bool) (x:D) (T:TypeId) (b:Nat) (v:Value) (hb:w.heap[b]? =some (.cells #[.pointer (if u then some ⟨b,0,none⟩ else none),v] T (0,0))) (bS:P.cellsOf T=2) (h:R F β w x v) (h1:v.oneCell'=true):c7 P F β w (.bs u x T) (.cells b 0 2 2 2)
 |jz (f:Nat->Option Nat) (r:Row) (p:Pl) (F₂:Nat->Prop) (h1:∀ b,F b->F₂ b) (h2:∀ b,¬ β.free b->(β.via f).free b->F₂ b) (h:lW P F₂ (β.via f) w r p):c7 P F β w (.jz f r) p
def yx:List (Nat×Array Value):=[(0, #[.int .u64 1,.int .u64 10,.int .u64 100,.int .u64 1000,.int .u64 10000,.int .u64 100000,.int .u64 1000000,.int .u64 10000000,.int .u64 100000000,.int .u64 1000000000,.int .u64 10000000000,.int .u64 100000000000,.int .u64 1000000000000,.int .u64 10000000000000,.int .u64 100000000000000,.int .u64 1000000000000000,.int .u64 10000000000000000,.int .u64 100000000000000000,.int .u64 1000000000000000000,.int .u64 10000000000000000000])]
def B4(w:World)(t:Nat×Array Value):Prop:=∃ e k,w.heap[t.1]? =some (.cells t.2 e k)
theorem B4.of{w w':World}{t:Nat×Array Value}(h:B4 w t)(hk:w'.heap[t.1]? =w.heap[t.1]?):B4 w' t:=by
 obtain⟨e,k,h⟩:=h;exact⟨e,k,hk.trans h⟩
structure FB(F:Nat->Prop)(w:World):Prop where
 lt:∀ b,F b->b<w.heap.size
 lH:∀ t∈yx,F t.1/\B4 w t
theorem FB.next{F F':Nat->Prop}{w w':World}(h:FB F w)(al:∀ b,F' b->b<w'.heap.size)(C:∀ b,F b->F' b)(hk:∀ t∈yx,F t.1->w'.heap[t.1]? =w.heap[t.1]?):FB F' w':=
 ⟨al,fun t ht=>⟨C _ (h.lH t ht).1,(h.lH t ht).2.of (hk t ht (h.lH t ht).1)⟩⟩
theorem afN{w:World}{t:Nat×Array Value}(h:B4 w t)(x:Option (List Deferred)):w.heap[t.1]? ≠some (.deferred x):=by
 obtain⟨e,k,h⟩:=h;rw[h];simp
structure aL(P:Program)(F:Nat->Prop)(m:Mem)(β:aJ)(w:World):Prop where
 row:∀ i r,m i=some r->∃ p,β i=some p/\c7 P F β w r p
 inj:∀ i j p q b,β i=some p->β j=some q->p.bF=some b->q.bF=some b->i=j
 lt:∀ i p b,β i=some p->p.bF=some b->b<w.heap.size
 nf:∀ i p b,β i=some p->p.bF=some b->¬ F b
 fb:FB F w
def up{α:Type}(f:Nat->α)(k:Nat)(v:α):Nat->α:=fun j=>if j=k then v else f j
theorem Bk{α:Type}(f:Nat->α)(k:Nat)(v:α)(j:Nat):up f k v j=if j=k then v else f j:=rfl
theorem an{α:Type}(f:Nat->α)(k:Nat)(v:α):up f k v k=v:=by simp[up]
theorem aZ{α:Type}(f:Nat->α){k:Nat}(v:α){j:Nat}(h:j≠k):up f k v j=f j:=by simp[up,h]
section
variable{P:Program}{F:Nat->Prop}{β β':aJ}{w w':World}{m:Mem}
theorem lW.gen{F':Nat->Prop}(bS:w.heap.size<=w'.heap.size)
 (J:∀ b,b<w.heap.size->¬ F b->β.free b->pM w w' b/\β'.free b/\¬ F' b)
 (C:∀ i p,(∀ r,p≠ .raw r)->β i=some p->β' i=some p\/β' i=some .dead) {r:Row} {p:Pl} (hb:∀ b,p.bF=some b->w'.heap[b]? =w.heap[b]?) (h:lW P F β w r p):lW P F' β' w' r p:=by
 cases h with
 |nil e=>exact .nil e
 |cells cs e b o room sz c hc hr hlen hs hh=>
  refine .cells cs e b o room sz c ((hb b rfl).trans hc) hr hlen hs fun k d hk=>?_;obtain⟨v,h1,h2,M⟩:=hh k d hk;exact⟨v,h1,h2.gen bS J C,M⟩
 |map es r ms clock hc hl eN hh=>
  refine .map es r ms clock ((hb r rfl).trans hc) hl eN fun k x O hk hm=>?_;obtain⟨h1,h2⟩:=hh k x O hk hm;exact⟨h1,h2.gen bS J C⟩
 |raw r o hc=>exact .raw r o ((hb r rfl).trans hc)
 |lp k r L hc hk=>exact .lp k r L ((hb r rfl).trans hc) hk
 |bs u x T b v hc hs hx h1=>exact .bs u x T b v ((hb b rfl).trans hc) hs (hx.gen bS J C) h1
theorem aJ.xG{β:aJ}{b:Nat}(h:β.free b)(f:Nat->Option Nat):(β.via f).free b:=fun i p hp=>by
 unfold aJ.via at hp;obtain⟨j,_,hj⟩:=Option.bind_eq_some_iff.1 hp;exact h j p hj
theorem c7.gen{F':Nat->Prop}(bS:w.heap.size<=w'.heap.size)
 (M:∀ b,b<w.heap.size->¬ F b->β.free b->pM w w' b/\β'.free b/\¬ F' b)
 (J:∀ i p,(∀ r,p≠ .raw r)->β i=some p->β' i=some p\/β' i=some .dead) {r:Row} {p:Pl} (hb:∀ b,p.bF=some b->w'.heap[b]? =w.heap[b]?) (h:c7 P F β w r p):c7 P F' β' w' r p:=by
 cases h with
 |nil e=>exact .nil e
 |cells cs e b o room sz c hc hr hlen hs hh=>
  refine .cells cs e b o room sz c ((hb b rfl).trans hc) hr hlen hs fun k d hk=>?_;obtain⟨v,h1,h2,h3⟩:=hh k d hk;exact⟨v,h1,h2.gen bS M J,h3⟩
 |map es r ms clock hc hl eN hh=>
  refine .map es r ms clock ((hb r rfl).trans hc) hl eN fun k x mm hk hm=>?_;obtain⟨h1,h2⟩:=hh k x mm hk hm;exact⟨h1,h2.gen bS M J⟩
 |raw r o hc=>exact .raw r o ((hb r rfl).trans hc)
 |lp k r L hc hk=>exact .lp k r L ((hb r rfl).trans hc) hk
 |bs u x T b v hc hs hx h1=>exact .bs u x T b v ((hb b rfl).trans hc) hs (hx.gen bS M J) h1
 |jz f r _ F₂ h1 h2 h=>
  refine .jz f r p (fun b=>F' b\/(¬ β'.free b/\(β'.via f).free b)) (fun b hb=>.inl hb) (fun b C O=>.inr ⟨C,O⟩) (h.gen bS (fun b al C O=>?_) (fun i q hq hi=>?_) hb)
  .have X:β.free b:=Classical.byContradiction fun hn=>C (h2 b hn O);obtain⟨k1,U,k3⟩:=M b al (fun e=>C (h1 b e)) X;exact⟨k1,aJ.xG U f,fun e=>e.elim k3 fun e=>e.1 U⟩
  .unfold aJ.via at hi ⊢;obtain⟨j,hj,hβ⟩:=Option.bind_eq_some_iff.1 hi;rw[hj];exact J j q hq hβ
theorem c7.step{r:Row}{p:Pl}(hs:Step β w β' w')(hb:∀ b,p.bF=some b->w'.heap[b]? =w.heap[b]?)(h:c7 P F β w r p):c7 P F β' w' r p:=
 h.gen hs.size (fun b hb hf C=>⟨zy (hs.fp b hb C).1,(hs.fp b hb C).2,hf⟩) (fun i p _=>hs.iR i p) hb
theorem lW.live{r:Row}{p:Pl}(h:lW P F β w r p):p≠ .dead:=by cases h<;>simp
theorem c7.live{r:Row}{p:Pl}(h:c7 P F β w r p):p≠ .dead:=by
 cases h with
 |jz _ _ _ _ _ _ h=>exact h.live
 |_=>simp
def Row.uR(f:Nat->Option Nat):Row->Row
 | .jz g r=>.jz (fun i=>(g i).bind f) r
 |r=>.jz f r
theorem c7.base{r:Row}{p:Pl}(hq:∀ f r',r≠ .jz f r')(h:c7 P F β w r p):lW P F β w r p:=by
 cases h with
 |nil e=>exact .nil e
 |cells cs e b o room sz c hc hr hlen hs hh=>exact .cells cs e b o room sz c hc hr hlen hs hh
 |map es r ms clock hc hl eN hh=>exact .map es r ms clock hc hl eN hh
 |raw r o hc=>exact .raw r o hc
 |lp k r L hc hk=>exact .lp k r L hc hk
 |bs u x T b v hc hs hx h1=>exact .bs u x T b v hc hs hx h1
 |jz f r _ _ _ _ _=>exact absurd rfl (hq f r)
theorem lW.row{r:Row}{p:Pl}(h:lW P F β w r p):c7 P F β w r p:=by
 cases h with
 |nil e=>exact .nil e
 |cells cs e b o room sz c hc hr hlen hs hh=>exact .cells cs e b o room sz c hc hr hlen hs hh
 |map es r ms clock hc hl eN hh=>exact .map es r ms clock hc hl eN hh
 |raw r o hc=>exact .raw r o hc
 |lp k r L hc hk=>exact .lp k r L hc hk
 |bs u x T b v hc hs hx h1=>exact .bs u x T b v hc hs hx h1
theorem lW.uP{F':Nat->Prop}{r:Row}{p:Pl}(C:∀ b,b<w.heap.size->β.free b->F' b->F b)(h:lW P F β w r p):lW P F' β w r p:=
 h.gen (bM _) (fun b hb h1 h2=>⟨pM.refl w b,h2,fun e=>h1 (C b hb h2 e)⟩) (fun _ _ _ h=>.inl h) fun _ _=>rfl
def hidden(F:Nat->Prop)(β:aJ)(f:Nat->Option Nat):Nat->Prop:=fun b=>F b\/(¬ β.free b/\(β.via f).free b)
theorem D9(β:aJ)(f g:Nat->Option Nat):(β.via f).via g=β.via fun i=>(g i).bind f:=by
 funext i;simp only[aJ.via];cases g i<;>rfl
theorem c7.seen{f:Nat->Option Nat}{r:Row}{p:Pl}(h:c7 P F β w (r.uR f) p):c7 P (hidden F β f) (β.via f) w r p:=by
 have key:∀ r',c7 P F β w (.jz f r') p->lW P (hidden F β f) (β.via f) w r' p:=fun r' h=>by
  cases h with
  |jz _ _ _ F₂ h1 h2 h=>exact h.uP fun b _ _ hb=>hb.elim (h1 b) fun e=>h2 b e.1 e.2
 cases r with
 |jz g r=>
  simp only[Row.uR] at h;cases h with
  |jz _ _ _ F₂ h1 h2 h=>
  refine .jz g r p F₂ (fun b hb=>?_) (fun b C J=>?_) (by rw[D9];exact h)
  .rcases hb with hb|⟨C,J⟩
   .exact h1 b hb
   .exact h2 b C (by rw[<- D9];exact aJ.xG J g)
  .exact h2 b (fun e=>C (aJ.xG e f)) (by rw[<- D9];exact J)
 |_=>exact(key _ h).row
theorem c7.XD{F':Nat->Prop}{f:Nat->Option Nat}{r:Row}{p:Pl}(h:c7 P F' (β.via f) w r p)(h1:∀ b,F b->F' b)(h2:∀ b,¬ β.free b->(β.via f).free b->F' b):c7 P F β w (r.uR f) p:=by
 cases r with
 |jz g r=>
  simp only[Row.uR];cases h with
  |jz _ _ _ F₂ C J h=>
  refine .jz _ r p F₂ (fun b hb=>C b (h1 b hb)) (fun b k1 M=>?_) (by rw[<- D9];exact h);by_cases hb:(β.via f).free b
  .exact C b (h2 b k1 hb)
  .exact J b hb (by rw[D9];exact M)
 |_=>exact .jz f _ p F' h1 h2 (h.base oS)
theorem aL.sE(h:aL P F m β w){i:Nat}{p:Pl}{b:Nat}(hp:β i=some p)(hb:p.bF=some b){j:Nat}{q:Pl}(hq:β j=some q)(C:j≠i):q.bF≠some b:=
 fun e=>C (h.inj j i q p b hq hp e hb)
theorem Bb(h:aL P F m β w)(o:Obj){nx:Nat}(hn:β nx=none)(p:Pl)(hp:∀ b,p.bF=some b->b=w.heap.size):Step β w (up β nx (some p)) (w.alloc o):=by
 refine⟨oS,fun b hb hf=>⟨heap_alloc_old w o hb,fun i q hq=>?_⟩,fun i q hq=>?_,⟨rfl,rfl⟩,fun i r _ _=>Ht fun hr=>heap_alloc_old w o hr⟩
 .by_cases hi:i=nx
  .subst hi;rw[an] at hq;cases hq;intro e;have:=hp b e;omega
  .rw[aZ _ _ hi] at hq;exact hf i q hq
 .left;rw[aZ _ _ (fun e=>by rw[e,hn] at hq;cases hq)];exact hq
theorem aL.alloc(h:aL P F m β w){nx:Nat}(hn:β nx=none)(o:Obj)(r:Row)(p:Pl)(hp:∀ b,p.bF=some b->b=w.heap.size)
 (hr:c7 P F (up β nx (some p)) (w.alloc o) r p):aL P F (up m nx (some r)) (up β nx (some p)) (w.alloc o):=by
 have hs:=Bb h o hn p hp;refine⟨fun i r' hi=>?_,fun i j q U b hq C e M=>?_,fun i q b hq e=>?_,fun i q b hq e=>?_,?_⟩
 .by_cases J:i=nx
  .subst J;rw[an] at hi;cases hi;exact⟨p,an _ _ _,hr⟩
  .rw[aZ _ _ J] at hi;obtain⟨q,hq,aA⟩:=h.row i r' hi;exact⟨q,by rw[aZ _ _ J];exact hq,aA.step hs fun b hb=>heap_alloc_old w o (h.lt i q b hq hb)⟩
 .by_cases hi:i=nx<;>by_cases hj:j=nx
  .rw[hi,hj]
  .subst hi;rw[an] at hq;rw[aZ _ _ hj] at C;cases hq;have h1:=hp b e;have h2:=h.lt j U b C M;omega
  .subst hj;rw[an] at C;rw[aZ _ _ hi] at hq;cases C;have h1:=hp b M;have h2:=h.lt i q b hq e;omega
  .rw[aZ _ _ hi] at hq;rw[aZ _ _ hj] at C;exact h.inj i j q U b hq C e M
 .by_cases hi:i=nx
  .subst hi;rw[an] at hq;cases hq;have:=hp b e;simp;omega
  .rw[aZ _ _ hi] at hq;have:=h.lt i q b hq e;simp;omega
 .by_cases hi:i=nx
  .subst hi;rw[an] at hq;cases hq;intro O;have h1:=hp b e;have h2:=h.fb.lt b O;omega
  .rw[aZ _ _ hi] at hq;exact h.nf i q b hq e
 .exact h.fb.next (fun b hb=>by have:=h.fb.lt b hb;simp;omega) (fun _ h=>h) fun t _ O=>heap_alloc_old w o (h.fb.lt _ O)
theorem Bd(β:aJ)(w:World)(i:Nat):Step β w (up β i (some .dead)) w:=by
 refine⟨bM _,fun b _ hf=>⟨rfl,fun j q hq=>?_⟩,fun j q hq=>?_,⟨rfl,rfl⟩,fun _ _ _ _=>px rfl⟩
 .by_cases hj:j=i
  .subst hj;rw[an] at hq;cases hq;simp[Pl.bF]
  .rw[aZ _ _ hj] at hq;exact hf j q hq
 .by_cases hj:j=i
  .subst hj;exact .inr (an _ _ _)
  .exact .inl (by rw[aZ _ _ hj];exact hq)
theorem aL.dead(h:aL P F m β w)(i:Nat):aL P F (up m i none) (up β i (some .dead)) w:=by
 have hs:=Bd β w i
 have C:∀ j q b,up β i (some .dead) j=some q->q.bF=some b->j≠i/\β j=some q:=fun j q b hq e=>by
  by_cases hj:j=i
  .subst hj;rw[an] at hq;cases hq;simp[Pl.bF] at e
  .rw[aZ _ _ hj] at hq;exact⟨hj,hq⟩
 refine⟨fun j r' hj=>?_,fun j k q O b hq U e M=>?_,fun j q b hq e=>h.lt j q b (C j q b hq e).2 e,fun j q b hq e=>h.nf j q b (C j q b hq e).2 e,h.fb⟩
 .by_cases J:j=i
  .subst J;rw[an] at hj;cases hj
  .rw[aZ _ _ J] at hj;obtain⟨q,hq,aA⟩:=h.row j r' hj;exact⟨q,by rw[aZ _ _ J];exact hq,aA.step hs fun b _=>rfl⟩
 .exact h.inj j k q O b (C j q b hq e).2 (C k O b U M).2 e M
theorem DI(h:aL P F m β w){i:Nat}{p:Pl}{b:Nat}(hp:β i=some p)(hb:p.bF=some b)(J:w.heap.size<=w'.heap.size)
 (ho:∀ k,k≠b->w'.heap[k]? =w.heap[k]?) (M:Out w w':=by first|exact⟨rfl,rfl⟩|assumption) (C:∀ r,p≠ .lp r:=by intro _ h;cases h):Step β w β w':=
 ⟨J,fun k _ hf=>⟨ho k fun e=>hf i p hp (e▸hb),hf⟩,fun _ _ hq=>.inl hq,M,fun j r hj _=>px (ho r fun e=>by
  have:=h.inj j i _ p b hj hp (by simp[Pl.bF,e]) hb;subst this;rw[hp] at hj
  exact C r (Option.some.inj hj))⟩
theorem aL.write(h:aL P F m β w){i:Nat}{p:Pl}{b:Nat}(hp:β i=some p)(hb:p.bF=some b)(J:w'.heap.size=w.heap.size)
 (ho:∀ k,k≠b->w'.heap[k]? =w.heap[k]?) (r:Row) (hr:c7 P F β w' r p) (U:Out w w':=by first|exact⟨rfl,rfl⟩|assumption) (M:∀ r,p≠ .lp r:=by intro _ h;cases h):aL P F (up m i (some r)) β w':=by
 have hs:=DI h hp hb oG ho U M;refine⟨fun j r' hj=>?_,h.inj,fun j q c hq e=>by rw[J];exact h.lt j q c hq e,h.nf,h.fb.next (fun c hc=>by rw[J];exact h.fb.lt c hc) (fun _ h=>h) fun t _ O=>ho _ fun e=>h.nf _ _ _ hp hb (e▸O)⟩;by_cases C:j=i
 .subst C;rw[an] at hj;cases hj;exact⟨p,hp,hr⟩
 .rw[aZ _ _ C] at hj;obtain⟨q,hq,aA⟩:=h.row j r' hj;exact⟨q,hq,aA.step hs fun c hc=>ho c fun e=>h.sE hp hb hq C (e▸hc)⟩
theorem aL.move(h:aL P F m β w){i nx:Nat}{p p':Pl}{b:Nat}(hp:β i=some p)(hb:p.bF=some b)(U:p'.bF=some b)(hn:β nx=none)(hw:w'.heap.size=w.heap.size)
 (ho:∀ k,k≠b->w'.heap[k]? =w.heap[k]?) (r:Row) (hr:Step β w (up (up β i (some .dead)) nx (some p')) w'->c7 P F (up (up β i (some .dead)) nx (some p')) w' r p') (yB:Out w w':=by first|exact⟨rfl,rfl⟩|assumption):
 aL P F (up (up m i none) nx (some r)) (up (up β i (some .dead)) nx (some p')) w'/\Step β w (up (up β i (some .dead)) nx (some p')) w':=by
 have cC:i≠nx:=fun e=>by rw[e,hn] at hp;cases hp
 have O:∀ j q,up (up β i (some .dead)) nx (some p') j=some q->(j=nx/\q=p')\/(j=i/\q=.dead)\/(j≠nx/\j≠i/\β j=some q):=fun j q hq=>by
  by_cases hj:j=nx
  .subst hj;rw[an] at hq;cases hq;exact .inl ⟨rfl,rfl⟩
  .rw[aZ _ _ hj] at hq;by_cases C:j=i
   .subst C;rw[an] at hq;cases hq;exact .inr (.inl ⟨rfl,rfl⟩)
   .rw[aZ _ _ C] at hq;exact .inr (.inr ⟨hj,C,hq⟩)
 have hs:Step β w (up (up β i (some .dead)) nx (some p')) w':=by
  refine⟨oG,fun c hc hf=>⟨ho c fun e=>hf i p hp (e▸hb),fun j q hq e=>?_⟩,fun j q hq=>?_,yB,fun j r hj lJ=>px (ho r fun e=>?_)⟩
  rotate_left 2
  .rcases O j _ lJ with⟨rfl,h1⟩|⟨rfl,h1⟩|⟨h1,h2,J⟩
   .rw[hn] at hj;cases hj
   .cases h1
   .exact h2 (h.inj j i _ p b J hp (by simp[Pl.bF,e]) hb)
  .rcases O j q hq with⟨rfl,rfl⟩|⟨rfl,rfl⟩|⟨_,_,X⟩
   .rw[U] at e;cases e;exact hf i p hp hb
   .simp[Pl.bF] at e
   .exact hf j q X e
  .by_cases C:j=i
   .subst C;exact .inr (by rw[aZ _ _ cC,an])
   .have hj:j≠nx:=fun e=>by rw[e,hn] at hq;cases hq
    exact .inl (by rw[aZ _ _ hj,aZ _ _ C];exact hq)
 refine⟨⟨fun j r' hj=>?_,fun j k q q' c hq X e M=>?_,fun j q c hq e=>?_,fun j q c hq e=>?_,h.fb.next (fun c hc=>by rw[hw];exact h.fb.lt c hc) (fun _ h=>h) fun t _ hF=>ho _ fun e=>h.nf _ _ _ hp hb (e▸hF)⟩,hs⟩
 .by_cases ko:j=nx
  .subst ko;rw[an] at hj;cases hj;exact⟨p',an _ _ _,hr hs⟩
  .rw[aZ _ _ ko] at hj;by_cases C:j=i
   .subst C;rw[an] at hj;cases hj
   .rw[aZ _ _ C] at hj;obtain⟨q,hq,aA⟩:=h.row j r' hj;exact⟨q,by rw[aZ _ _ ko,aZ _ _ C];exact hq,aA.step hs fun c hc=>ho c fun e=>h.sE hp hb hq C (e▸hc)⟩
 .rcases O j q hq with⟨rfl,rfl⟩|⟨rfl,rfl⟩|⟨h1,h2,J⟩<;>rcases O k q' X with⟨rfl,rfl⟩|⟨rfl,rfl⟩|⟨k1,k2,k3⟩
  .rfl
  .simp[Pl.bF] at M
  .rw[U] at e;cases e;exact absurd M (h.sE hp hb k3 k2)
  .simp[Pl.bF] at e
  .rfl
  .simp[Pl.bF] at e
  .rw[U] at M;cases M;exact absurd e (h.sE hp hb J h2)
  .simp[Pl.bF] at M
  .exact h.inj j k q q' c J k3 e M
 .rw[hw];rcases O j q hq with⟨rfl,rfl⟩|⟨rfl,rfl⟩|⟨_,_,J⟩
  .rw[U] at e;cases e;exact h.lt i p b hp hb
  .simp[Pl.bF] at e
  .exact h.lt j q c J e
 .rcases O j q hq with⟨rfl,rfl⟩|⟨rfl,rfl⟩|⟨_,_,J⟩
  .rw[U] at e;cases e;exact h.nf i p b hp hb
  .simp[Pl.bF] at e
  .exact h.nf j q c J e
end
def oX:Value->D
 | .bool b=>.s (.bool b)
 | .int k n=>.s (.int k n)
 | .string b=>.s (.string b)
 | .pointer none=>.s (.pointer none)
 | .nilFunc=>.s .nilFunc
 | .nilIface=>.s .nilIface
 | .map none=>.s (.map none)
 | .slice none 0 0=>.z
 |_=>.u
def yZ:Value->D
 | .agg cs=>.agg (cs.toList.map oX)
 | .bool b=>.s (.bool b)
 | .int k n=>.s (.int k n)
 | .string b=>.s (.string b)
 | .pointer none=>.s (.pointer none)
 | .nilFunc=>.s .nilFunc
 | .nilIface=>.s .nilIface
 | .map none=>.s (.map none)
 | .slice none 0 0=>.z
 |_=>.u
abbrev Env:=Nat->D
structure St where
 env:Env
 mem:Mem
 nx:Nat
def St.put(st:St)(d:Option Nat)(v:D):St:=
 match d with
 |some t=>{ st with env:=up st.env t v }
 |none=>st
def opd(env:Env):Operand->D
 | .tmp t=>env t
 | .const v=>yZ v
 | .global _=>.u
 | .func f=>.fn (.func f) [] []
def D.core:D->D
 | .cS _ d=>d
 |d=>d
def D.ask:D->Prop
 | .cS c _=>c=true
 |_=>True
section types
variable(P:Program)
def bI(t:TypeId):Bool:=match P.underlying t with
 |some (.struct _)=>true
 |some (.array _ _)=>true
 |_=>false
def aE(t:TypeId):TypeId:=match P.underlying t with
 |some (.slice e)=>e
 |some (.pointer e)=>e
 |some (.array _ e)=>e
 |_=>0
def cL(t:TypeId)(k:Nat):Option (Nat×TypeId):=match P.underlying t with
 |some (.struct fs)=>(fs[k]?).map fun f=>(f.offset,f.type)
 |_=>none
def bq(t:TypeId):List D:=((P.info? t).bind (·.zero)).elim [] fun v=>v.cells.toList.map oX
def pU(t:TypeId):Nat:=match P.underlying t with
 |some (.array n _)=>n
 |_=>0
end types
def D.one:D->Bool
 | .u | .cS _ _ | .agg _ | .bd _=>false
 |_=>true
def aO(P:Program)(t:TypeId):Bool:=
 (P.underlying t).isSome&&(bI P t||P.cellsOf t==1)&&match (P.info? t).bind (·.zero) with
  |some v=>v.cells.toList.all (fun c=>(oX c).one)&&v.cells.size==P.cellsOf t
  |none=>false
def bh(P:Program)(t:TypeId):Bool:=match P.underlying t with
 |some (.slice e)=>aO P e
 |_=>false
def o9(P:Program)(t:TypeId):Bool:=match P.underlying t with
 |some (.array _ e)=>aO P e
 |_=>false
def fA(P:Program)(t:TypeId):Bool:=match P.underlying t with
 |some .string=>true
 |_=>false
def D.cells:D->List D
 | .agg cs=>cs
 |d=>[d]
def kH(P:Program)(t:TypeId)(cs:List D):D:=if bI P t then .agg (cs.take (P.cellsOf t)) else cs.headD .u
def fP(cs:List D)(off:Nat):List D->List D
 |[x]=>cs.set off x
 |xs=>cs.take off++xs++cs.drop (off+xs.length)
structure dJ where
 pre:Prop
 val:D
 a7:List (Nat×Option Row):=[]
 rd:List Nat:=[]
 new:Nat:=0
def cQ(m:Mem):List (Nat×Option Row)->Mem
 |[]=>m
 |(i,r)::us=>cQ (up m i r) us
def mn(op:BinOp)(k:IntKind)(x y:Int):Int:=
 let a:=BitVec.ofInt k.bits x
 let b:=BitVec.ofInt k.bits y
 k.wrap (match op with
  | .and=>a&&& b
  | .or=>a||| b
  | .xor=>a ^^^ b
  |_=>a&&& ~~~b).toNat
def oY(op:BinOp)(x y:Value):Option (Prop×Value):=
 match op,x,y with
 | .shl,.int k a,.int _ b=>some (0<=b,.int k (k.wrap (a*2 ^ (min b.toNat k.bits))))
 | .shr,.int k a,.int _ b=>some (0<=b,.int k (a.fdiv (2 ^ (min b.toNat k.bits))))
 | .add,.int k a,.int k' b=>some (k=k',.int k (k.wrap (a+b)))
 | .sub,.int k a,.int k' b=>some (k=k',.int k (k.wrap (a - b)))
 | .mul,.int k a,.int k' b=>some (k=k',.int k (k.wrap (a*b)))
 | .quo,.int k a,.int k' b=>some (k=k'/\b≠0,.int k (k.wrap (a.tdiv b)))
 | .rem,.int k a,.int k' b=>some (k=k'/\b≠0,.int k (a.tmod b))
 | .and,.int k a,.int k' b=>some (k=k',.int k (mn .and k a b))
 | .or,.int k a,.int k' b=>some (k=k',.int k (mn .or k a b))
 | .xor,.int k a,.int k' b=>some (k=k',.int k (mn .xor k a b))
 | .andNot,.int k a,.int k' b=>some (k=k',.int k (mn .andNot k a b))
 | .eql,.int k a,.int k' b=>some (k=k',.bool (a==b))
 | .neq,.int k a,.int k' b=>some (k=k',.bool (a !=b))
 | .lss,.int k a,.int k' b=>some (k=k',.bool (decide (a<b)))
 | .leq,.int k a,.int k' b=>some (k=k',.bool (decide (a<=b)))
 | .gtr,.int k a,.int k' b=>some (k=k',.bool (decide (b<a)))
 | .geq,.int k a,.int k' b=>some (k=k',.bool (decide (b<=a)))
 | .eql,.string a,.string b=>some (True,.bool (a.toList==b.toList))
 | .neq,.string a,.string b=>some (True,.bool !(a.toList==b.toList))
 | .lss,.string a,.string b=>some (True,.bool (Op.bytesLess a.toList b.toList))
 | .geq,.string a,.string b=>some (True,.bool !(Op.bytesLess a.toList b.toList))
 |_,_,_=>none
def lb:Value->Nat
 | .int _ _=>0
 | .bool _=>1
 | .string _=>2
 |_=>3
def ye(P:Program)(t:TypeId):Nat:=match P.underlying t with
 |some (.int _)=>0
 |some .bool=>1
 |some .string=>2
 |_=>9
def uS(P:Program)(t:TypeId):Bool:=ye P t !=9&&P.cellsOf t==1&&aO P t&& !bI P t
def B5(P:Program)(t:TypeId):Option (List Nat):=match P.underlying t with
 |some (.array n e)=>if uS P e&&P.cellsOf t==n then some (List.replicate n (ye P e)) else none
 |some (.struct fs)=>if(fs.toList.all fun f=>f.name !="_"&&uS P f.type)&&P.runs 0 fs.toList==some fs.toList.length&& !P.stoodInHeld t then some (fs.toList.map fun f=>ye P f.type) else none
 |_=>none
def zT:Value->Value->Bool
 | .int k _,.int k' _=>k==k'
 | .bool _,.bool _=>true
 | .string _,.string _=>true
 |_,_=>false
def qN:List D->List D->Option (List Value×List Value)
 |[],[]=>some ([],[])
 | .s x::xs,.s y::ys=>if zT x y then(qN xs ys).map fun q=>(x::q.1,y::q.2) else none
 |_,_=>none
def uT:Value->Value->Bool
 | .int k a,.int k' b=>k==k'&&a==b
 | .bool a,.bool b=>a==b
 | .string a,.string b=>a.data.toList==b.data.toList
 |_,_=>false
def kf:List Value->List Value->Bool
 |[],[]=>true
 |a::aS,b::bs=>uT a b&&kf aS bs
 |_,_=>false
def zF(P:Program)(op:BinOp)(t:TypeId)(xs ys:List D):Option (Prop×D):=
 match op,B5 P t,qN xs ys with
 | .eql,some ks,some q=>some (q.1.map lb=ks/\P.eqGuardType P.depth t=false,.s (.bool (kf q.1 q.2)))
 | .neq,some ks,some q=>some (q.1.map lb=ks/\P.eqGuardType P.depth t=false,.s (.bool !(kf q.1 q.2)))
 |_,_,_=>none
def vr(P:Program)(t:TypeId):Bool:=match P.underlying t with
 |some .bool=>true
 |_=>false
def AD(P:Program)(t:TypeId):Bool:=match P.underlying t with
 |some (.pointer _)=>true
 |_=>false
def qO(P:Program)(op:BinOp)(t:TypeId)(x y:D):Option (Prop×D):=
 match x,y with
 | .s (.bool a),.s (.bool b)=>match op with
  | .eql=>some (vr P t=true,.s (.bool (a==b)))
  | .neq=>some (vr P t=true,.s (.bool !(a==b)))
  |_=>none
 | .s a,.s b=>(oY op a b).map fun r=>(r.1,.s r.2)
 | .agg xs,.agg ys=>zF P op t xs ys
 |_,_=>none
def lX(P:Program)(m:Mem)(op:BinOp)(t:TypeId)(x:D)(y:Operand):Option dJ:=
 match y,op,x with
 | .const (.slice none 0 0),.eql,.sl _ n=>some { pre:=bh P t=true,val:=if n=0 then .ub else .s (.bool false) }
 | .const (.pointer none),.eql,.rp i _=>match m i with
  |some _=>some { pre:=AD P t=true,val:=.s (.bool false),rd:=[i] }
  |none=>none
 | .const (.pointer none),.neq,.rp i _=>match m i with
  |some _=>some { pre:=AD P t=true,val:=.s (.bool true),rd:=[i] }
  |none=>none
 |_,_,_=>none
def AE(op:UnOp)(x:Value):Option Value:=
 match op,x with
 | .neg,.int k n=>some (.int k (k.wrap (0 - n)))
 | .xor,.int k n=>some (.int k (mn .xor k (if k.signed then -1 else k.max) n))
 | .not,.bool b=>some (.bool !b)
 |_,_=>none
def D.fZ :D->Option Bool
 | .s (.bool b)=>some b
 |_=>none
def D.int? :D->Option Int
 | .s (.int _ n)=>some n
 |_=>none
def kJ(place:Nat->Option (Nat×Nat))(cells:List D):List (Nat×D)->Option (List D)
 |[]=>some cells
 |(i,d)::rest=>
  match place i with
  |none=>none
  |some (off,size)=>if d.cells.length=size/\off+size<=cells.length/\d.cells.all D.one=true then kJ place (fP cells off d.cells) rest else none
def dM(n:Nat)(z:List D):List D:=(List.replicate n z).flatten
def mJ(P:Program)(m:Mem)(t:TypeId):D->Option dJ
 | .sl _ n=>some { pre:=bh P t=true,val:=.s (.int .i64 n) }
 | .rs i _ n=>match m i with
  |some _=>some { pre:=bh P t=true,val:=.s (.int .i64 n),rd:=[i] }
  |none=>none
 | .z=>some { pre:=bh P t=true,val:=.s (.int .i64 0) }
 | .s (.string b)=>some { pre:=fA P t=true,val:=.s (.int .i64 b.size) }
 | .agg _=>some { pre:=o9 P t=true,val:=.s (.int .i64 (pU P t)) }
 |_=>none
def jC(m:Mem)(sz:Nat):D->Option (Prop×List Nat×Nat×List D)
 | .sl es n=>some (n*sz<=es.length,[],n,es.take (n*sz))
 | .z=>some (True,[],0,[])
 | .rs i off n=>match m i with
  |some (.cells cs _)=>some (off+n*sz<=cs.length,[i],n,(cs.drop off).take (n*sz))
  |_=>none
 |_=>none
def rN(P:Program)(m:Mem)(nx:Nat)(t:TypeId)(s x:D):Option dJ:=
 let e:=aE P t
 let sz:=P.cellsOf e
 match jC m sz x with
 |none=>none
 |some (p,rd,k,news)=>
  match s with
  | .z=>some { pre:=bh P t=true/\p/\0<sz/\k<=maxLen/\k*P.bytesOf e<=140737488355328,val:=.rs nx 0 k,a7:=[(nx,some (.cells news e))],rd:=rd,new:=1 }
  | .rs i off n=>match m i with
   |some (.cells cs e')=>some { pre:=bh P t=true/\e'=e/\p/\0<sz/\off+n*sz=cs.length/\n+k<=maxLen/\(n+k)*P.bytesOf e<=140737488355328/\i∉rd,val:=.rs nx 0 (n+k),a7:=[(i,none),(nx,some (.cells (cs.drop off++news) e))],rd:=i::rd,new:=1 }
   |_=>none
  |_=>none
def vt:Value->Value->Bool
 | .agg a,.agg b=>kf a.toList b.toList
 |a,b=>uT a b
def B6:List D->Option (List Value)
 |[]=>some []
 | .s v::ds=>(B6 ds).map (v::·)
 |_=>none
def oZ:D->Option Value
 | .s v=>some v
 | .agg cs=>(B6 cs).map fun vs=>.agg vs.toArray
 |_=>none
def gZ(k:Value):List (Value×D)->Option (Nat×D)
 |[]=>none
 |(k',d)::es=>if vt k' k then some (0,d) else(gZ k es).map fun x=>(x.1+1,x.2)
def nz(k:Value)(d:D)(es:List (Value×D)):List (Value×D):=match gZ k es with
 |some (i,_)=>es.set i (k,d)
 |none=>es++[(k,d)]
def uU(k:Value)(es:List (Value×D)):List (Value×D):=match gZ k es with
 |some (i,_)=>es.eraseIdx i
 |none=>es
def ik(P:Program)(t:TypeId):TypeId:=match P.underlying t with
 |some (.map k _)=>k
 |_=>0
def uV(P:Program)(t:TypeId):TypeId:=match P.underlying t with
 |some (.map _ e)=>e
 |_=>0
def dY(P:Program)(kt:TypeId)(v:Value):Bool:=match P.underlying kt with
 |some (.int k)=>(match v with | .int k' _=>k'==k|_=>false)
 |some .bool=>(match v with | .bool _=>true|_=>false)
 |some .string=>(match v with | .string _=>true|_=>false)
 |some (.array _ _)=>(keyOf P kt v).isSome
 |some (.struct _)=>(keyOf P kt v).isSome
 |_=>false
def wW(P:Program)(t:TypeId):Bool:=match (P.info? t).bind (·.zero) with
 |some (.agg _)=>bI P t
 |some _=> !bI P t
 |none=>false
def kM(P:Program)(t:TypeId):Bool:=match P.underlying t with
 |some (.map kt et)=>(aO P et&&wW P et)&&match P.underlying kt with
  |some (.int _)=>true
  |some .bool=>true
  |some .string=>true
  |some (.array _ _)=>P.keyTypeAt 9 kt&&P.tiled 9 kt
  |some (.struct _)=>P.keyTypeAt 9 kt&&P.tiled 9 kt
  |_=>false
 |_=>false
def sX(P:Program)(t:TypeId):D:=if bI P t then .agg (bq P t) else(bq P t).headD .u
def lf(P:Program)(t:TypeId)(ok:Bool):Option (Nat×D)->D
 |some (_,d)=>if ok then .bd [d,.s (.bool true)] else d
 |none=>if ok then .bd [sX P (uV P t),.s (.bool false)] else sX P (uV P t)
def oD(P:Program)(m:Mem)(t:TypeId)(x k:D)(ok:Bool):Option dJ:=match oZ k,x with
 |some key,.mp i=>match m i with
  |some (.map es)=>some { pre:=kM P t=true/\dY P (ik P t) key=true/\es.all (fun e=>dY P (ik P t) e.1)=true,val:=lf P t ok (gZ key es),rd:=[i] }
  |_=>none
 |some key,.im es=>some { pre:=kM P t=true/\dY P (ik P t) key=true/\es.all (fun e=>dY P (ik P t) e.1)=true,val:=lf P t ok (gZ key es) }
 |some key,.s (.map none)=>some { pre:=kM P t=true/\dY P (ik P t) key=true,val:=lf P t ok none }
 |_,_=>none
def oE(P:Program)(m:Mem)(t:TypeId)(x k v:D):Option dJ:=match oZ k,x with
 |some key,.mp i=>match m i with
  |some (.map es)=>some { pre:=kM P t=true/\dY P (ik P t) key=true/\es.all (fun e=>dY P (ik P t) e.1)=true,val:=.bd [],a7:=[(i,some (.map (nz key v es)))],rd:=[i] }
  |_=>none
 |_,_=>none
def vL(P:Program)(m:Mem)(t:TypeId)(x k:D):Option dJ:=match oZ k,x with
 |some key,.mp i=>match m i with
  |some (.map es)=>some { pre:=kM P t=true/\dY P (ik P t) key=true/\es.all (fun e=>dY P (ik P t) e.1)=true,val:=.bd [],a7:=[(i,some (.map (uU key es)))],rd:=[i] }
  |_=>none
 |_,_=>none
def fh(P:Program)(m:Mem)(nx:Nat)(b:Builtin)(ts:Array TypeId)(args:List D):Option dJ:=
 match b,args with
 | .len,[x]=>mJ P m (ts.getD 0 0) x
 | .append,[s,x]=>if ts.getD 0 0=ts.getD 1 0 then rN P m nx (ts.getD 0 0) s x else none
 | .min,[.s (.int k a),.s (.int k' b)]=>some { pre:=k=k',val:=.s (.int k (if b<a then b else a)) }
 | .clear,[.rs i off n]=>match m i with
  |some (.cells cs e)=>some { pre:=bh P (ts.getD 0 0)=true/\off+n*P.cellsOf e<=cs.length/\e=aE P (ts.getD 0 0),val:=.bd [],a7:=[(i,some (.cells (fP cs off (dM n (bq P e))) e))],rd:=[i] }
  |_=>none
 | .delete,[x,k]=>vL P m (ts.getD 0 0) x k
 |_,_=>none
def fx(d:Option D)(C:Int):Option Int:=match d with
 |none=>some C
 |some d=>d.int?
def mz(P:Program)(m:Mem)(t:TypeId)(x:D)(lo hi C:Option D):Option dJ:=
 match x with
 | .sl es n=>match fx lo 0,fx hi n,C with
  |some l,some h,none=>some { pre:=bh P t=true/\0<=l/\l<=h/\h<=n,val:=.sl ((es.drop (l.toNat*P.cellsOf (aE P t))).take ((h - l).toNat*P.cellsOf (aE P t))) (h - l).toNat }
  |some l,some h,some d=>match d.int? with
   |some k=>some { pre:=bh P t=true/\hi.isSome=true/\0<=l/\l<=h/\h<=k/\k<=n,val:=.sl ((es.drop (l.toNat*P.cellsOf (aE P t))).take ((h - l).toNat*P.cellsOf (aE P t))) (h - l).toNat }
   |none=>none
  |_,_,_=>none
 | .rs i off n=>match m i with
  |some (.cells _ e)=>match fx lo 0,fx hi n,C with
   |some l,some h,none=>some { pre:=(bh P t=true/\P.cellsOf e=P.cellsOf (aE P t))/\0<=l/\l<=h/\h<=n,val:=.rs i (off+l.toNat*P.cellsOf (aE P t)) (h - l).toNat,rd:=[i] }
   |_,_,_=>none
  |_=>none
 | .s (.string b)=>match fx lo 0,fx hi b.size,C with
  |some l,some h,none=>some { pre:=fA P t=true/\0<=l/\l<=h/\h<=b.size,val:=.s (.string (b.extract l.toNat h.toNat)) }
  |_,_,_=>none
 |_=>none
def aW(P:Program)(o:Op)(ρ:Operand->D)(m:Mem)(nx:Nat):Option dJ:=
 match o with
 | .move x=>some { pre:=True,val:=ρ x }
 | .assign x=>some { pre:=True,val:=ρ x }
 | .pick c a b=>match (ρ c).core.fZ with
  |some t=>some { pre:=(t=true->(ρ a).ask/\(ρ a).core.fZ.isSome=true)/\(t=false->(ρ b).ask/\(ρ b).core.fZ.isSome=true),val:=.s (.bool (if t then(ρ a).core.fZ.getD false else(ρ b).core.fZ.getD false)) }
  |none=>none
 | .alloc t=>some { pre:=aO P t=true,val:=.rp nx 0,a7:=[(nx,some (.cells (bq P t) t))],new:=1 }
 | .box t x=>some { pre:=(ρ x).cells.all D.one=true,val:=.rp nx 0,a7:=[(nx,some (.cells (ρ x).cells t))],new:=1 }
 | .build t ps=>match P.underlying t with
  |some (.struct fs)=>(kJ (fun i=>(fs[i]?).map fun f=>(f.offset,P.cellsOf f.type)) (bq P t) (ps.toList.map fun q=>(q.1,ρ q.2))).map fun cs=>{ pre:=aO P t=true/\fs.toList.all (fun f=>(P.info? f.type).isSome)=true,val:=.agg cs }
  |some (.array _ e)=>(kJ (fun i=>some (i*P.cellsOf e,P.cellsOf e)) (bq P t) (ps.toList.map fun q=>(q.1,ρ q.2))).map fun cs=>{ pre:=aO P t=true/\aO P e=true,val:=.agg cs }
  |_=>none
 | .buildSlice t n ps=>(kJ (fun i=>some (i*P.cellsOf (aE P t),P.cellsOf (aE P t))) (dM n (bq P (aE P t))) (ps.toList.map fun q=>(q.1,ρ q.2))).map fun cs=>
   { pre:=cs.all D.one=true/\n*P.cellsOf (aE P t)<=2 ^ 24/\bh P t=true/\n<=maxLen,val:=.rs nx 0 n,a7:=[(nx,some (.cells cs (aE P t)))],new:=1 }
 | .load t a=>match ρ a with
  | .pt cs=>some { pre:=aO P t=true/\P.cellsOf t<=cs.length,val:=kH P t cs }
  | .rp i off=>match m i with
   |some (.cells cs _)=>some { pre:=aO P t=true/\off+P.cellsOf t<=cs.length,val:=kH P t (cs.drop off),rd:=[i] }
   |_=>none
  |_=>none
 | .store t a x=>match ρ a with
  | .rp i off=>match m i with
   |some (.cells cs e)=>some { pre:=aO P t=true/\(ρ x).cells.length=P.cellsOf t/\off+P.cellsOf t<=cs.length/\(ρ x).cells.all D.one=true,val:=.bd [],a7:=[(i,some (.cells (fP cs off (ρ x).cells) e))],rd:=[i] }
   |_=>none
  |_=>none
 | .nilCheck x=>match ρ x with
  | .pt cs=>some { pre:=True,val:=.pt cs }
  | .rp i off=>match m i with
   |some _=>some { pre:=True,val:=.rp i off,rd:=[i] }
   |none=>none
  |_=>none
 | .binOp op t x y _=>match lX P m op t (ρ x) y with
  |some e=>some e
  |none=>(qO P op t (ρ x) (ρ y)).map fun r=>{ pre:=r.1,val:=r.2 }
 | .unOp op _ x=>match ρ x with
  | .s v=>(AE op v).map fun r=>{ pre:=True,val:=.s r }
  |_=>none
 | .convert src dst x=>match P.underlying dst,ρ x with
  |some (.int k),.s (.int _ n)=>some { pre:=aO P src=true,val:=.s (.int k (k.wrap n)) }
  |some (.slice e),.s (.string b)=>match P.underlying e with
   |some (.int .u8)=>some { pre:=fA P src=true/\b.size<=maxLen,val:=.sl (b.data.toList.map fun c=>.s (.int .u8 c.toNat)) b.size }
   |_=>none
  |_,_=>none
 | .makeFunc f fs cs=>some { pre:=True,val:=.fn f (fs.toList.map ρ) (cs.toList.map ρ) }
 | .makeMap _ r=>match r with
  |none=>some { pre:=True,val:=.mp nx,a7:=[(nx,some (.map []))],new:=1 }
  |some _=>none
 | .makeSlice t l c=>match ρ l,ρ c with
  | .s (.int .i64 n),.s (.int .i64 k)=>some { pre:=0<=n/\n=k/\n<=9223372036854775807/\P.bytesOf (aE P t)*n<=281474976710656/\bh P t=true,val:=.rs nx 0 n.toNat,a7:=[(nx,some (.cells (dM n.toNat (bq P (aE P t))) (aE P t)))],new:=1 }
  |_,_=>none
 | .lookup t x k ok=>oD P m t (ρ x) (ρ k) ok
 | .mapUpdate t x k v=>oE P m t (ρ x) (ρ k) (ρ v)
 | .insert t x k v=>oE P m t (ρ x) (ρ k) (ρ v)
 | .slice t x lo hi C=>mz P m t (ρ x) (lo.map ρ) (hi.map ρ) (C.map ρ)
 | .fieldAddr t x k=>match cL P t k,ρ x with
  |some (off,ft),.pt cs=>some { pre:=0<P.cellsOf ft,val:=.pt (cs.drop off) }
  |some (off,ft),.rp i o=>match m i with
   |some _=>some { pre:=0<P.cellsOf ft,val:=.rp i (o+off),rd:=[i] }
   |none=>none
  |_,_=>none
 | .field t x k=>match cL P t k,ρ x with
  |some (off,ft),.agg cs=>some { pre:=aO P ft=true/\off+P.cellsOf ft<=cs.length,val:=kH P ft (cs.drop off) }
  |_,_=>none
 | .indexAddr t x i=>match ρ x,ρ i with
  | .sl es n,.s (.int _ k)=>some { pre:=bh P t=true/\0<=k/\k<n/\(k.toNat+1)*P.cellsOf (aE P t)<=es.length,val:=.pt (es.drop (k.toNat*P.cellsOf (aE P t))) }
  | .rs j off n,.s (.int _ k)=>match m j with
   |some _=>some { pre:=bh P t=true/\0<=k/\k<n,val:=.rp j (off+k.toNat*P.cellsOf (aE P t)),rd:=[j] }
   |none=>none
  | .rp j off,.s (.int _ k)=>match m j with
   |some _=>some { pre:=o9 P t=true/\0<=k/\k<pU P t,val:=.rp j (off+k.toNat*P.cellsOf (aE P t)),rd:=[j] }
   |none=>none
  |_,_=>none
 | .index t x i=>match ρ x,ρ i with
  | .s (.string b),.s (.int _ k)=>some { pre:=fA P t=true/\0<=k/\k<b.size,val:=.s (.int .u8 (b.data.toList.getD k.toNat 0).toNat) }
  | .agg cs,.s (.int _ k)=>some { pre:=o9 P t=true/\0<=k/\k<pU P t/\(k.toNat+1)*P.cellsOf (aE P t)<=cs.length,val:=kH P (aE P t) (cs.drop (k.toNat*P.cellsOf (aE P t))) }
  |_,_=>none
 | .extract x k=>match ρ x with
  | .bd cs=>some { pre:=k<cs.length,val:=cs.getD k .u }
  |_=>none
 | .call c=>match c.callee with
  | .builtin b=>if c.argTypes.size=c.args.size then fh P m nx b c.argTypes (c.args.toList.map ρ) else none
  |_=>none
 |_=>none
def Ad(t:TypeId):Bool:=([183,213]:List Nat).contains t
def mkStr(l:List Int):ByteArray:=⟨(l.map fun n=>UInt8.ofNat n.toNat).toArray⟩
def la(l:List Int):List D:=l.map fun n=>.s (.int .u8 n)
def gf(b:ByteArray):List D:=b.data.toList.map fun c=>.s (.int .u8 c.toNat)
def p0(P:Program)(t:TypeId):Prop:=bh P t=true/\P.underlying (aE P t)=some (.int .u8)/\P.cellsOf (aE P t)=1
def y3(P:Program)(t:TypeId):Bool:=match P.underlying t with
 |some (.interface _)=>false
 |some _=>true
 |none=>false
def PJ:Value->Bool
 | .iface _ _ | .nilIface=>true
 |_=>false
def YN:Value->D
 | .agg cs=>.agg (cs.toList.map .s)
 |v=>.s v
def B7(P:Program)(t:TypeId):Value->D
 | .iface u v=>if u=t then .bd [YN v,.s (.bool true)] else .bd [sX P t,.s (.bool false)]
 |_=>.bd [sX P t,.s (.bool false)]
inductive du(P:Program)(ρ:Operand->D)(m:Mem)(nx:Nat):Op->dJ->Prop
 |add (t p:TypeId) (x y:Operand) (a b:ByteArray) (hx:ρ x=.s (.string a)) (hy:ρ y=.s (.string b)) (h:a.size+b.size<=maxLen):du P ρ m nx (.binOp .add t x y p) { pre:=True,val:=.s (.string (a++b)) }
 |B8 (src dst:TypeId) (x:Operand) (l:List Int) (hx:ρ x=.sl (la l) l.length) (hs:p0 P src) (hd:fA P dst=true):du P ρ m nx (.convert src dst x) { pre:=True,val:=.s (.string (mkStr l)) }
 |zU (src dst:TypeId) (x:Operand) (l:List Int) (i off:Nat) (cs:List D) (e:TypeId) (hx:ρ x=.rs i off l.length) (hi:m i=some (.cells cs e)) (hl:(cs.drop off).take l.length=la l) (hs:p0 P src) (hd:fA P dst=true):
  du P ρ m nx (.convert src dst x) { pre:=True,val:=.s (.string (mkStr l)),rd:=[i] }
 |rune (src dst:TypeId) (x:Operand) (k k':IntKind) (n:Int) (hx:ρ x=.s (.int k n)) (hs:P.underlying src=some (.int k')) (hd:fA P dst=true) (h0:0<=n) (h1:n<128):du P ρ m nx (.convert src dst x) { pre:=True,val:=.s (.string (mkStr [n])) }
 |cut (t:TypeId) (x h c:Operand) (es:List D) (n:Nat) (k:IntKind) (k':IntKind) (hx:ρ x=.sl es n) (hh:ρ h=.s (.int k n)) (hc:ρ c=.s (.int k' n)) (ht:bh P t=true) (hn:n*P.cellsOf (aE P t)=es.length):
  du P ρ m nx (.slice t x none (some h) (some c)) { pre:=True,val:=.sc es n }
 |zV (c:Call) (s x:Operand) (t:TypeId) (es news:List D) (n k:Nat) (p:Prop) (rd:List Nat) (hc:c={ callee:=.builtin .append,args:= #[s,x],argTypes:= #[t,t] }) (hs:ρ s=.sc es n) (hx:jC m (P.cellsOf (aE P t)) (ρ x)=some (p,rd,k,news)) (hp:p)
  (ht:bh P t=true) (hn:n*P.cellsOf (aE P t)=es.length) (hk:0<k) (hz:0<P.cellsOf (aE P t)) (hm:n+k<=maxLen) (hb:(n+k)*P.bytesOf (aE P t)<=140737488355328):
  du P ρ m nx (.call c) { pre:=True,val:=.rs nx 0 (n+k),a7:=[(nx,some (.cells (es++news) (aE P t)))],rd:=rd,new:=1 }
 |xN (c:Call) (s x:Operand) (t u:TypeId) (b:ByteArray) (hc:c={ callee:=.builtin .append,args:= #[s,x],argTypes:= #[t,u] }) (hs:ρ s=.z) (hx:ρ x=.s (.string b)) (ht:p0 P t) (hu:fA P u=true) (hm:b.size<=maxLen) (hb:b.size*P.bytesOf (aE P t)<=140737488355328):
  du P ρ m nx (.call c) { pre:=True,val:=.rs nx 0 b.size,a7:=[(nx,some (.cells (gf b) (aE P t)))],new:=1 }
 |xQ (c:Call) (s x:Operand) (t u:TypeId) (b:ByteArray) (i off n:Nat) (cs:List D) (hc:c={ callee:=.builtin .append,args:= #[s,x],argTypes:= #[t,u] }) (hs:ρ s=.rs i off n) (hx:ρ x=.s (.string b)) (hi:m i=some (.cells cs (aE P t))) (ht:p0 P t) (hu:fA P u=true)
  (hf:off+n=cs.length) (hm:n+b.size<=maxLen) (hb:(n+b.size)*P.bytesOf (aE P t)<=140737488355328):
  du P ρ m nx (.call c) { pre:=True,val:=.rs nx 0 (n+b.size),a7:=[(i,none),(nx,some (.cells (cs.drop off++gf b) (aE P t)))],rd:=[i],new:=1 }
 |Ae (c:Call) (x:Operand) (t:TypeId) (i:Nat) (es:List (Value×D)) (hc:c={ callee:=.builtin .len,args:= #[x],argTypes:= #[t] }) (hx:ρ x=.mp i) (hi:m i=some (.map es)) (ht:kM P t=true):du P ρ m nx (.call c) { pre:=True,val:=.s (.int .i64 es.length),rd:=[i] }
 |yf (c:Call) (s:Operand) (t:TypeId) (i off n:Nat) (r:Row) (hc:c={ callee:=.builtin .unsafeSliceData,args:= #[s],argTypes:= #[t] }) (hs:ρ s=.rs i off n) (hi:m i=some r) (hn:0<n):du P ρ m nx (.call c) { pre:=True,val:=.rp i off,rd:=[i] }
 |yC (c:Call) (p n:Operand) (t u e:TypeId) (l:List Int) (i off:Nat) (cs:List D) (k:IntKind) (hc:c={ callee:=.builtin .unsafeString,args:= #[p,n],argTypes:= #[t,u] }) (hp:ρ p=.rp i off) (hn:ρ n=.s (.int k l.length)) (hi:m i=some (.cells cs e)) (hl:(cs.drop off).take l.length=la l) (h0:l≠[])
  (ht:P.underlying t=some (.pointer e)) (he:P.cellsOf e=1) (hm:l.length<=maxLen) (hr:∀ x∈l,0<=x/\x<256):du P ρ m nx (.call c) { pre:=True,val:=.s (.string (mkStr l)),a7:=[(i,none)],rd:=[i] }
 |BN (t:TypeId) (hb:Ad t=true) (ht:aO P t=true) (hz:bq P t=[.s (.pointer none),.z]):du P ρ m nx (.alloc t) { pre:=True,val:=.rp nx 0,a7:=[(nx,some (.bs false .z t))],new:=1 }
 |Af (t:TypeId) (x:Operand) (d:D) (hb:Ad t=true) (hx:(ρ x).cells=[.s (.pointer none),d]) (hd:d.one=true) (hs:P.cellsOf t=2):du P ρ m nx (.box t x) { pre:=True,val:=.rp nx 0,a7:=[(nx,some (.bs false d t))],new:=1 }
 |CV (t:TypeId) (x:Operand) (lo hi:Option Operand) (hx:ρ x=.z) (jB:fx (lo.map ρ) 0=some 0) (nE:fx (hi.map ρ) 0=some 0) (ht:bh P t=true):du P ρ m nx (.slice t x lo hi none) { pre:=True,val:=.z }
 |Cm (t:TypeId) (x h c:Operand) (k k':IntKind) (hx:ρ x=.z) (hh:ρ h=.s (.int k 0)) (hc:ρ c=.s (.int k' 0)) (ht:bh P t=true):du P ρ m nx (.slice t x none (some h) (some c)) { pre:=True,val:=.z }
 |Cn (t:TypeId) (x h c:Operand) (i off n:Nat) (cs:List D) (e:TypeId) (k k':IntKind) (hx:ρ x=.rs i off n) (hi:m i=some (.cells cs e)) (hh:ρ h=.s (.int k n)) (hc:ρ c=.s (.int k' n)) (ht:bh P t=true) (hl:off+n*P.cellsOf e=cs.length):
  du P ρ m nx (.slice t x none (some h) (some c)) { pre:=True,val:=.rs i off n,rd:=[i] }
 |Ag (b:Bool) (op:BinOp) (t p:TypeId) (x:Operand) (gv:op=if b then .eql else .neq) (hx:ρ x=.z) (ht:bh P t=true):du P ρ m nx (.binOp op t x (.const (.slice none 0 0)) p) { pre:=True,val:=.s (.bool (true==b)) }
 |Ah (b:Bool) (op:BinOp) (t p:TypeId) (x:Operand) (i off n:Nat) (cs:List D) (e:TypeId) (gv:op=if b then .eql else .neq) (hx:ρ x=.rs i off n) (hi:m i=some (.cells cs e)) (hn:0<n) (ht:bh P t=true):
  du P ρ m nx (.binOp op t x (.const (.slice none 0 0)) p) { pre:=True,val:=.s (.bool (false==b)),rd:=[i] }
 |mkIf (t:TypeId) (x:Operand) (v:Value) (hx:oZ (ρ x)=some v) (hv:plain (.iface t v)=true) (ht:y3 P t=true):du P ρ m nx (.makeInterface t x) { pre:=True,val:=.s (.iface t v) }
 |Co (x:Operand) (u t:TypeId) (v:Value) (hx:ρ x=.s v) (hv:PJ v=true) (ht:y3 P t=true) (ho:aO P t=true) (hz:wW P t=true):du P ρ m nx (.typeAssert x u t true) { pre:=True,val:=B7 P t v }
 |copy (c:Call) (x y:Operand) (t:TypeId) (i off n k:Nat) (cs news:List D) (p:Prop) (rd:List Nat) (hc:c={ callee:=.builtin .copy,args:= #[x,y],argTypes:= #[t,t] }) (hx:ρ x=.rs i off n) (hi:m i=some (.cells cs (aE P t)))
  (hy:jC m (P.cellsOf (aE P t)) (ρ y)=some (p,rd,k,news)) (hp:p) (ht:bh P t=true) (hk:k<=n) (hl:off+n*P.cellsOf (aE P t)<=cs.length):
  du P ρ m nx (.call c) { pre:=True,val:=.s (.int .i64 k),a7:=[(i,some (.cells (fP cs off news) (aE P t)))],rd:=i::rd }
 |zW (t:TypeId) (a:Operand) (i:Nat) (u:Bool) (x:D) (T:TypeId) (ha:ρ a=.rp i 1) (hi:m i=some (.bs u x T)) (ht:aO P t=true) (hg:bI P t=false):du P ρ m nx (.load t a) { pre:=True,val:=x,rd:=[i] }
 |xR (t:TypeId) (a y:Operand) (i:Nat) (u:Bool) (x:D) (T:TypeId) (ha:ρ a=.rp i 1) (hi:m i=some (.bs u x T)) (ht:aO P t=true) (hg:bI P t=false) (hy:(ρ y).one=true):du P ρ m nx (.store t a y) { pre:=True,val:=.bd [],a7:=[(i,some (.bs u (ρ y) T))],rd:=[i] }
def ea(ρ:Operand->D):Op->Option (FuncId×List D)
 | .call c=>match c.callee with
  | .value f=>match ρ f with
   | .fn (.func k) fs cs=>some (k,fs++c.args.toList.map ρ++cs)
   |_=>none
  |_=>none
 |_=>none
def Rs(F:Nat->Prop)(β:aJ)(w:World)(ds:List D)(vs:Array Value):Prop:=
 vs.size=ds.length/\∀ (k:Nat) (d:D) (v:Value),ds[k]? =some d->vs[k]? =some v->R F β w d v
def iN:aJ:=fun _=>none
def owned(F:Nat->Prop)(β:aJ):Nat->Prop:=fun b=>F b\/¬ β.free b
def Tr(d:D):Prop:=∀ F β w v,R F β w d v->R (owned F β) iN w d v
def D.jt:D->Bool
 | .s _=>true
 | .ub=>true
 | .bd [.s _,.s _]=>true
 | .bd [.s _]=>true
 | .bd []=>true
 |_=>false
def Kept(w w':World):Prop:=w.heap.size<=w'.heap.size/\(∀ b,b<w.heap.size->w'.heap[b]? =w.heap[b]?)/\Out w w'
def na(P:Program)(f:FuncId):Bool:=match P.funcs[f]? with
 |some fn=> !(fn.name=="runtime.NumGoroutine")&&fn.body.isSome
 |none=>false
def az(P:Program)(f:FuncId)(args:List D)(r:D):Prop:=
 na P f=true/\(∀ a∈args,Tr a)/\∀ F w vs,FB F w->Rs F iN w args vs->
  Calls P f vs w fun e w'=>∃ v,e=.returned v/\R F iN w' r v/\Kept w w'
def nj(P:Program)(f:FuncId)(args:List D)(es:List D)(n:Nat)(t:TypeId):Prop:=
 na P f=true/\(∀ a∈args,Tr a)/\∀ F w vs,FB F w->Rs F iN w args vs->
  Calls P f vs w fun e w'=>∃ v p,e=.returned v/\p≠ .dead/\(∀ b,p.bF=some b->w.heap.size<=b/\b<w'.heap.size)/\
   c7 P (fun x=>F x\/p.bF=some x) iN w' (.cells es t) p/\R F (up iN 0 (some p)) w' (.rs 0 0 n) v/\Kept w w'
def gW(P:Program)(f:FuncId)(args:List D)(m:Mem)(nx:Nat)(ep:D->Mem->Nat->Prop):Prop:=
 na P f=true/\∀ F β w vs,aL P F m β w->(∀ i,nx<=i->β i=none)->Rs F β w args vs->
  Calls P f vs w fun e w'=>∃ v d m' aD β',e=.returned v/\ep d m' aD/\aL P F m' β' w'/\(∀ i,aD<=i->β' i=none)/\R F β' w' d v/\Step β w β' w'/\nx<=aD/\∀ i,i<nx->β i=none->β' i=none
def qC(P:Program)(F:Nat->Prop)(J:aJ)(C:World)(l:Nat)(args:List D)(m:Mem)(nx:Nat)(ep:D->Mem->Nat->Prop):Prop:=
 ∀ β w us,Step J C β w->aL P F m β w->(∀ i,nx<=i->β i=none)->Rs F β w args us->
  ∃ f tmps assign body,(Instr.yield l us).run P w=.ok (.round l f tmps assign body) w/\∀ n,RoundIn Fence.wide n P l f tmps assign body w fun e w'=>
   ∃ v d m' aD β',e=.returned v/\ep d m' aD/\aL P F m' β' w'/\(∀ i,aD<=i->β' i=none)/\R F β' w' d v/\Step β w β' w'/\nx<=aD/\∀ i,i<nx->β i=none->β' i=none
def Es(I:Mem->Nat->Prop):Prop:=∀ m nx m' aD,I m nx->nx<=aD->(∀ i,i<nx->m' i=m i)->I m' aD
def Ua(I:Nat->Mem->Nat->Prop)(Stop:Mem->Nat->Prop)(k:Nat)(d:D)(m:Mem)(nx:Nat):Prop:=
 (d=.s (.bool true)/\I (k+1) m nx)\/(d=.s (.bool false)/\Stop m nx)
def Ai(P:Program)(f:FuncId)(fs cs:List D)(xs:List (List D)):Prop:=
 na P f=true/\∀ (F:Nat->Prop) (l:Nat) (I:Nat->Mem->Nat->Prop) (Stop:Mem->Nat->Prop) (m:Mem) (nx:Nat) (β:aJ) (w:World) (vs:Array Value),(∀ k,Es (I k))->Es Stop->
  aL P F m β w->(∀ i,nx<=i->β i=none)->Rs F β w (fs++[.fn (.yield l) [] []]++cs) vs->
  (∀ k x m nx,xs[k]? =some x->I k m nx->qC P F β w l x m nx (Ua I Stop k))->I 0 m nx->
  Calls P f vs w fun e w'=>∃ v d m' aD β',e=.returned v/\(I xs.length m' aD\/Stop m' aD)/\aL P F m' β' w'/\(∀ i,aD<=i->β' i=none)/\R F β' w' d v/\Step β w β' w'/\nx<=aD/\∀ i,i<nx->β i=none->β' i=none
abbrev gn:=Nat->List D->Mem->Nat->(D->Mem->Nat->Prop)->Prop
def kT:gn:=fun _ _ _ _ _=>False
def pH(ρ:Operand->D):Op->Option (Nat×List D)
 | .call c=>match c.callee with
  | .value f=>match ρ f with
   | .fn (.yield l) [] []=>some (l,c.args.toList.map ρ)
   |_=>none
  |_=>none
 |_=>none
def Sn(P:Program)(br:List Nat)(m:Mem)(a a':D):Prop:=
 ∀ F β w v,(∀ i∈br,∀ r,m i=some r->∃ p,β i=some p/\c7 P F β w r p/\∀ b,p.bF=some b->¬ F b)->R F β w a v->R F iN w a' v
def jx(P:Program)(br:List Nat)(m:Mem):List D->List D->Prop
 |[],[]=>True
 |a::aS,b::bs=>Sn P br m a b/\jx P br m aS bs
 |_,_=>False
def Hv(r:Row):Prop:=∃ cs e,r=.cells cs e/\∀ d∈cs,d.jt=true
def Ub(m:Mem)(br:List Nat)(a7:List (Nat×Option Row))(args:List D):Prop:=
 (∀ i∈br,∃ r,m i=some r/\Hv r)/\(∀ x∈a7,x.1∈br/\∀ r,x.2=some r->Hv r)/\∀ a∈args,Tr a\/∃ i off n,i∈br/\a=.rs i off n
def only(br:List Nat)(m:Mem):Mem:=fun i=>if i∈br then m i else none
def xS(P:Program)(dr:Bool)(st:St)(f:FuncId)(args:List D)(K:D->Mem->Nat->List Nat->List Nat->Prop):Prop:=
 (∃ r,az P f args r/\K r st.mem st.nx [] [])\/
 (∃ M br r,jx P br st.mem args M/\az P f M r/\r.jt=true/\K r st.mem st.nx br [])\/
 (∃ es n t,nj P f args es n t/\K (.rs st.nx 0 n) (up st.mem st.nx (some (.cells es t))) (st.nx+1) [] [st.nx])\/
 (dr=false/\gW P f args st.mem st.nx fun r m nx=>K r m nx [] [])\/
 (∃ r a7 br,(∀ J C,(∀ i∈br,st.mem i≠none->J i=st.mem i)->gW P f args J C fun r' m' aD=>r'=r/\m'=cQ J a7/\aD=C)/\(∀ i∈a7.map (·.1),i∈br/\st.mem i≠none)/\K r (cQ st.mem a7) st.nx br (a7.map (·.1)))\/
 (∃ es n t a7 br,Ub st.mem br a7 args/\(∀ d∈es,d.jt=true)/\(∀ C,gW P f args (only br st.mem) C fun r' m' _=>∃ q,C<=q/\r'=.rs q 0 n/\m' q=some (.cells es t)/\∀ i∈br,m' i=cQ st.mem a7 i)/\
  K (.rs st.nx 0 n) (up (cQ st.mem a7) st.nx (some (.cells es t))) (st.nx+1) br (a7.map (·.1)++[st.nx]))
def asks(env:Env)(o:Op):Prop:=match o with
 | .pick c _ _=>(opd env c).ask
 |o=>∀ x∈o.operands.toList,(opd env x).ask
def bn(env:Env)(o:Op):Operand->D:=match o with
 | .pick _ _ _=>opd env
 |_=>fun x=>(opd env x).core
def lA:D->Bool->Option Bool
 | .s (.bool g),b=>some (g==b)
 | .cS c d,b=>match d with
  | .s (.bool g)=>some (c&&(g==b))
  |_=>bif c then none else some false
 |_,_=>none
abbrev mP:=List (List Nat×List Nat)
def rU(tr:mP)(i j:Nat):Prop:=
 let a:=tr.getD i ([],[])
 let b:=tr.getD j ([],[])
 (∀ x∈a.2,x∉b.1/\x∉b.2)/\∀ x∈b.2,x∉a.1
def wq:D:=.cS false .u
def lq(P:Program)(Y:gn)(ops:Array Oper)(dr:Bool)(o:Oper)(st:St)(K:St->List Nat->List Nat->Prop):Prop:=
 match o.guard with
  |none=>asks st.env o.op/\match ea (bn st.env o.op) o.op with
   |some (f,args)=>xS P dr st f args fun r m nx rd wr=>K (St.put ⟨st.env,m,nx⟩ o.dst r) rd wr
   |none=>match pH (bn st.env o.op) o.op with
    |some (l,args)=>dr=false/\Y l args st.mem st.nx fun r m nx=>K (St.put ⟨st.env,m,nx⟩ o.dst r) [] []
    |none=>match aW P o.op (bn st.env o.op) st.mem st.nx with
     |some e=>e.pre/\K (St.put ⟨st.env,cQ st.mem e.a7,st.nx+e.new⟩ o.dst e.val) e.rd (e.a7.map (·.1))
     |none=>False
  |some (j,b)=>match ((ops[j]?).bind (·.dst)).bind fun t=>lA (st.env t) b with
   |none=>False
   |some c=>match ea (bn st.env o.op) o.op with
    |some (f,args)=>
     (∃ r,(c=true->asks st.env o.op/\az P f args r)/\K (st.put o.dst (.cS c r)) [] [])\/
     ((c=true->asks st.env o.op/\xS P dr st f args fun r m nx rd wr=>K (St.put ⟨st.env,m,nx⟩ o.dst r) rd wr)/\
      (c=false->K (st.put o.dst wq) [] []))
    |none=>match pH (bn st.env o.op) o.op with
     |some (l,args)=>(c=true->asks st.env o.op/\dr=false/\Y l args st.mem st.nx fun r m nx=>K (St.put ⟨st.env,m,nx⟩ o.dst r) [] [])/\(c=false->K (st.put o.dst wq) [] [])
     |none=>match aW P o.op (bn st.env o.op) st.mem st.nx with
      |some e=>if e.a7.isEmpty&&e.new==0 then(c=true->asks st.env o.op/\e.pre)/\K (st.put o.dst (.cS c e.val)) e.rd []
       else(c=true->asks st.env o.op/\e.pre/\K (St.put ⟨st.env,cQ st.mem e.a7,st.nx+e.new⟩ o.dst e.val) e.rd (e.a7.map (·.1)))/\
        (c=false->K (st.put o.dst wq) [] [])
      |none=>c=false/\K (st.put o.dst wq) [] []
def goes(ops:Array Oper)(o:Oper)(st:St):Prop:=o.guard=none\/∃ j b,o.guard=some (j,b)/\(((ops[j]?).bind (·.dst)).bind fun t=>lA (st.env t) b)=some true
def XH(P:Program)(ops:Array Oper)(o:Oper)(st:St)(K:St->List Nat->List Nat->Prop):Prop:=
 goes ops o st/\asks st.env o.op/\∃ e,du P (bn st.env o.op) st.mem st.nx o.op e/\K (St.put ⟨st.env,cQ st.mem e.a7,st.nx+e.new⟩ o.dst e.val) e.rd (e.a7.map (·.1))
def ax(P:Program)(Y:gn)(ops:Array Oper)(dr:Bool)(cf:List (Nat×Nat))(Q:Exit->St->Prop):List Oper->St->mP->Prop
 |[],st,tr=>(∀ q∈cf,rU tr q.1 q.2)/\Q .normal st
 |o::rest,st,tr=>lq P Y ops dr o st (fun st' rd wr=>ax P Y ops dr cf Q rest st' (tr++[(rd,wr)]))\/XH P ops o st fun st' rd wr=>ax P Y ops dr cf Q rest st' (tr++[(rd,wr)])
def cM:Op->Nat
 | .call { callee:=.builtin .len,.. }=>1
 | .call { callee:=.builtin .min,.. }=>0
 | .store .. | .mapUpdate .. | .insert .. | .call _=>2
 | .load .. | .lookup .. | .fieldAddr .. | .indexAddr .. | .slice .. | .nilCheck _ | .convert .. =>1
 | .alloc _ | .box .. | .buildSlice .. | .makeSlice .. | .makeMap .. =>3
 | .binOp .eql .. | .binOp .neq .. =>1
 | .move _ | .assign _ | .pick .. | .build .. | .binOp .. | .unOp .. | .makeFunc .. | .field .. | .index .. | .extract .. =>0
 |_=>2
def B9(C:List Nat)(o:Oper):Nat:=o.after.toList.foldl (fun s e=>if Region.binds .any e then s||| 2 ^ e.on||| C.getD e.on 0 else s) 0
def ju:List Oper->List Nat->List Nat
 |[],acc=>acc
 |o::r,acc=>ju r (acc++[B9 acc o])
def unordered(bs:List Nat)(n:Nat):List (Nat×Nat):=
 (List.range n).flatMap fun j=>((List.range j).filter fun i=> !(bs.getD j 0).testBit i).map fun i=>(i,j)
def Ll(ops:Array Oper)(i j:Nat):Bool:=match ops[i]?,ops[j]? with
 |some x,some y=>x.apart ops y
 |_,_=>true
def Hw(ops:Array Oper)(i j:Nat):Bool:=match ops[i]?,ops[j]? with
 |some x,some y=>(cM y.op==1||cM y.op==2)&&cM x.op !=0&& !(cM x.op==1&&cM y.op==1)
 |_,_=>false
def bV(ops:Array Oper):Option (List (Nat×Nat)):=
 let u:=unordered (ju ops.toList []) ops.size
 if(ops.toList.zipIdx.all fun(o,i)=>o.after.toList.all fun e=> !Region.binds .any e||Nat.blt e.on i)&&u.all fun q=>Ll ops q.1 q.2 then
  some (u.filter fun q=>Hw ops q.1 q.2)
 else none
def zX(ops:Array Oper):Bool:=Nat.blt 0 ops.size&&(List.range (ops.size - 1)).all fun i=>((ju ops.toList []).getD (ops.size - 1) 0).testBit i
def ir(K:St->Prop)(Q:Exit->St->Prop):Exit->St->Prop
 | .normal,st=>K st
 |e,st=>Q e st
def iZ(id:Nat)(Q:Exit->St->Prop):Exit->St->Prop
 | .exit i,st=>if i=id then Q .normal st else Q (.exit i) st
 |e,st=>Q e st
def MQ(Q:Exit->St->Prop):Exit->St->Prop
 | .goto _,_=>False
 |e,st=>Q e st
def dh(i:Nat)(cs:List D)(sz:Nat):D->D
 | .rs j off n=>if j=i then .sl ((cs.drop off).take (n*sz)) n else .rs j off n
 | .rp j off=>if j=i then .pt (cs.drop off) else .rp j off
 |d=>d
def Ay(i:Nat)(es:List (Value×D)):D->D
 | .mp j=>if j=i then .im es else .mp j
 |d=>d
def td(σ:D->D):D->D
 | .agg ds=>.agg (ds.map σ)
 | .cS c d=>.cS c (σ d)
 |d=>σ d
def sub(σ:D->D):D->D
 | .bd ds=>.bd (ds.map (td σ))
 | .fn f fs ds=>.fn f (fs.map (td σ)) (ds.map (td σ))
 |d=>td σ d
def Row.sub(σ:D->D):Row->Row
 | .cells ds e=>.cells (ds.map (Abs.sub σ)) e
 | .map es=>.map (es.map fun x=>(x.1,Abs.sub σ x.2))
 | .bs u x T=>.bs u (Abs.sub σ x) T
 |r=>r
def Wk(d d':D):Prop:=∀ F β w v,R F β w d v->R F β w d' v
inductive aM(P:Program):St->St->Prop
 |refl (st:St):aM P st st
 |trans {a b c:St} (h:aM P a b) (k:aM P b c):aM P a c
 |forget (env env':Env) (m:Mem) (nx:Nat) (h:∀ t,env' t=env t\/env' t=.u):aM P ⟨env,m,nx⟩ ⟨env',m,nx⟩
 |drop (env:Env) (m m':Mem) (nx:Nat) (h:∀ i,m' i=m i\/m' i=none):aM P ⟨env,m,nx⟩ ⟨env,m',nx⟩
 |freeze (env:Env) (m:Mem) (nx i:Nat) (cs:List D) (e:TypeId) (h:m i=some (.cells cs e)):
  aM P ⟨env,m,nx⟩ ⟨fun t=>sub (dh i cs (P.cellsOf e)) (env t),fun j=>if j=i then none else(m j).map (Row.sub (dh i cs (P.cellsOf e))),nx⟩
 |T' (env:Env) (m:Mem) (nx i:Nat) (es:List (Value×D)) (h:m i=some (.map es)):
  aM P ⟨env,m,nx⟩ ⟨fun t=>sub (Ay i es) (env t),fun j=>if j=i then none else(m j).map (Row.sub (Ay i es)),nx⟩
 |sU (env:Env) (m:Mem) (nx t:Nat) (e:TypeId) (h:env t=.z):aM P ⟨env,m,nx⟩ ⟨up env t (.rs nx 0 0),up m nx (some (.cells [] e)),nx+1⟩
 |uP (env env':Env) (m m':Mem) (nx:Nat) (h:∀ t,Wk (env t) (env' t)) (hm:∀ i,m' i=m i\/∃ cs cs' e,m i=some (.cells cs e)/\m' i=some (.cells cs' e)/\cs'.length=cs.length/\∀ (k:Nat) (d d':D),cs[k]? =some d->cs'[k]? =some d'->Wk d d'):
  aM P ⟨env,m,nx⟩ ⟨env',m',nx⟩
def vX(env:Env):List Tmp->List D->Env
 |t::ts,d::ds=>vX (up env t d) ts ds
 |_,_=>env
def afO(K:St->Prop):Exit->St->Prop
 | .normal,st=>K st
 |_,_=>False
def ag9(env:Env)(C:Mem->Nat->Prop)(Q:Exit->St->Prop):Exit->St->Prop
 | .normal,st=>C st.mem st.nx
 | .ret,st=>Q .ret ⟨env,st.mem,st.nx⟩
 | .exit id,st=>Q (.exit id) ⟨env,st.mem,st.nx⟩
 |_,_=>False
def ah7(P:Program)(ops:Array Oper)(Q:Exit->St->Prop):Exit->St->Prop:=fun e st=>e=.normal/\ax P kT ops false [] Q (ops.toList.drop (ops.size - 1)) st []
def Iq(P:Program)(Y:gn)(ops:Array Oper)(cf:List (Nat×Nat))(Q:Exit->St->Prop)(st:St):Prop:=
 ax P Y ops true cf Q ops.toList st []\/(zX ops=true/\ax P kT ops true cf (ah7 P ops Q) (ops.toList.take (ops.size - 1)) st [])
def AW(P:Program)(Y:gn)(rf:Bool):Code->(Exit->St->Prop)->St->Prop
 | .skip,Q,st=>Q .normal st
 | .region _ ops false,Q,st=>ax P Y ops false [] Q ops.toList st []
 | .region _ ops true,Q,st=>match bV ops with
  |some cf=>Iq P Y ops cf Q st
  |none=>False
 | .seq a b,Q,st=>AW P Y rf a (ir (fun st'=>∃ C,aM P st' C/\AW P Y rf b Q C) Q) st
 | .cond c a b,Q,st=>(opd st.env c).ask/\match (opd st.env c).core with
  | .s (.bool t)=>(t=true->AW P Y rf a Q st)/\(t=false->AW P Y rf b Q st)
  | .ub=>AW P Y rf a Q st/\AW P Y rf b Q st
  |_=>False
 | .block id b,Q,st=>AW P Y rf b (iZ id Q) st
 | .scope b,Q,st=>AW P Y rf b (MQ Q) st
 | .loop b,Q,st=>∃ (I:St->Prop) (μ:St->Nat),I st/\∀ st',I st'->AW P Y rf b (ir (fun C=>∃ J,aM P C J/\I J/\μ J<μ st') Q) st'
 | .rangeFunc g ps assign body,Q,st=>rf=true/\(opd st.env g).ask/\∃ f fs cs xs,∃ I:Nat->Mem->Nat->Prop,(opd st.env g).core=.fn (.func f) fs cs/\Ai P f fs cs xs/\(∀ x∈xs,x.length=ps.size/\∀ d∈x,Tr d)/\I 0 st.mem st.nx/\
   (∀ k m nx x,xs[k]? =some x->I k m nx->AW P kT false assign (afO fun s=>AW P kT false body (ag9 st.env (I (k+1)) Q) s) ⟨vX st.env ps.toList x,m,nx⟩)/\
   ∀ m nx,I xs.length m nx->Q .normal ⟨st.env,m,nx⟩
 | .exit id,Q,st=>Q (.exit id) st
 | .label _,Q,st=>Q .normal st
 | .ret,Q,st=>Q .ret st
 |_,_,_=>False
def r8(P:Program)(st:St):ResultVar->Option (Prop×D)
 | .tmp t=>some (True,st.env t)
 | .cell a t=>match st.env a with
  | .rp i off=>match st.mem i with
   |some (.cells cs _)=>some (aO P t=true/\off+P.cellsOf t<=cs.length,kH P t (cs.drop off))
   |_=>none
  | .pt cs=>some (aO P t=true/\P.cellsOf t<=cs.length,kH P t cs)
  |_=>none
def qP(P:Program)(st:St):List ResultVar->List D->(List D->Prop)->Prop
 |[],acc,K=>K acc
 |r::rs,acc,K=>match r8 P st r with
  |some (p,d)=>p/\qP P st rs (acc++[d]) K
  |none=>False
def wG:List D->D
 |[d]=>d
 |ds=>.bd ds
def mK(P:Program)(rs:List ResultVar)(K:D->St->Prop):Exit->St->Prop
 | .normal,st=>qP P st rs [] fun ds=>K (wG ds) st
 | .ret,st=>qP P st rs [] fun ds=>K (wG ds) st
 |_,_=>False
def nn(args:List D):Env:=fun t=>args.getD t .u
section inv
variable{F:Nat->Prop}{β:aJ}{w:World}{v:Value}
theorem R.cI{x:Value}(h:R F β w (.s x) v):v=x/\plain x=true:=by cases h;exact⟨rfl,‹_›⟩
theorem R.Ep(h:R F β w .ub v):∃ b,v=.bool b:=by cases h;exact⟨_,rfl⟩
theorem R.yD(h:R F β w .z v):v=.slice none 0 0:=by cases h;rfl
theorem R.B2(h:R F β w .z v):∃ a,v=.slice a 0 0:=⟨_,h.yD⟩
theorem R.sM{cs:List D}(h:R F β w (.agg cs) v):∃ vs:List Value,v=.agg vs.toArray/\vs.length=cs.length/\∀ (k:Nat) (d:D) (u:Value),cs[k]? =some d->vs[k]? =some u->R F β w d u:=by
 cases h with|agg _ vs hl h=>exact⟨vs,rfl,hl,h⟩
theorem R.Bt{cs:List D}(h:R F β w (.bd cs) v):∃ vs:List Value,v=.tuple vs.toArray/\vs.length=cs.length/\∀ (k:Nat) (d:D) (u:Value),cs[k]? =some d->vs[k]? =some u->R F β w d u:=by
 cases h with|bd _ vs hl h=>exact⟨vs,rfl,hl,h⟩
theorem R.xL(d:D)(h:R F β w d v)(ha:d.ask):R F β w d.core v:=by
 cases h with
 |cS c d v h h'=>exact h ha
 |u v=>exact .u _
 |s v h=>exact .s _ h
 |ub b=>exact .ub _
 |agg cs vs h h'=>exact .agg _ _ h h'
 |bd cs vs h h'=>exact .bd _ _ h h'
 |z=>exact .z
 |yl i l h=>exact .yl _ _ h
 |CU i v h hv=>exact .CU _ _ h hv
 |jy a c=>exact .jy _ _
 |sc es n a h=>exact .sc _ _ _ h
 |sl es n b o cap us h1 h2 C J M O U=>exact .sl _ _ _ _ _ _ h1 h2 C J M O U
 |pt cs b o us h1 h2 C J M=>exact .pt _ _ _ _ h1 h2 C J M
 |l9 i off n v h hv=>exact .l9 _ _ _ _ h hv
 |jO i a h=>exact .jO _ _ h
 |kO i off a b o len room sz h=>exact .kO _ _ _ _ _ _ _ _ h
 |rs i off n cap b o len room sz h h1 h2 C J=>exact .rs _ _ _ _ _ _ _ _ _ h h1 h2 C J
 |tw i off v h hv=>exact .tw _ _ _ h hv
 |rp i off b o len room sz h=>exact .rp _ _ _ _ _ _ _ h
 |AB i v h hv=>exact .AB _ _ h hv
 |mp i r h=>exact .mp _ _ h
 |im es r ms c h1 h2 C J M O U=>exact .im _ _ _ _ h1 h2 C J M O U
 |fn f fs cs us vs h1 h2 C J=>exact .fn _ _ _ _ _ h1 h2 C J
theorem acn{x:Value}(h:plain x=true):x.oneCell'=true:=by cases x<;>simp_all[plain,Value.oneCell']
theorem R.one{d:D}(h:R F β w d v)(hd:d.one=true):v.oneCell'=true:=by
 cases h<;>first|rfl|assumption|(simp[D.one] at hd;done)|(exact acn ‹_›)
theorem R.cells{d:D}(h:R F β w d v)(hd:d.cells.all D.one=true):v.cells.size=d.cells.length/\(∀ (k:Nat) (e:D) (u:Value),d.cells[k]? =some e->v.cells[k]? =some u->R F β w e u/\u.oneCell'=true)/\(∀ u∈v.cells.toList,u.oneCell'=true):=by
 have single:d.cells=[d]->v.cells.size=d.cells.length/\(∀ (k:Nat) (e:D) (u:Value),d.cells[k]? =some e->v.cells[k]? =some u->R F β w e u/\u.oneCell'=true)/\(∀ u∈v.cells.toList,u.oneCell'=true):=fun hs=>by
  have h1:d.one=true:=by simpa[hs] using hd
  have h2:=h.one h1;have J:v.cells= #[v]:=by cases v<;>first|rfl|(simp[Value.oneCell'] at h2;done)
  rw[J,hs];refine⟨rfl,fun k e u hk hu=>?_,fun u hu=>?_⟩
  .cases k with
   |zero=>simp at hk hu;subst hk;subst hu;exact⟨h,h2⟩
   |succ k=>simp at hk
  .simp at hu;subst hu;exact h2
 cases d with
 |agg cs=>
  obtain⟨vs,rfl,hl,hr⟩:=h.sM
  have C:∀ (k:Nat) (u:Value),vs[k]? =some u->u.oneCell'=true:=fun k u hu=>by
   have hk:k<cs.length:=by
    have:=(bX.1 hu).1;omega
   have h1:=hr k cs[k] u (by simp[hk]) hu;exact h1.one (bT.1 hd _ (di hk))
  refine⟨by simpa[Value.cells,D.cells] using hl,fun k e u hk hu=>?_,fun u hu=>?_⟩
  .simp[Value.cells] at hu;exact⟨hr k e u hk hu,C k u hu⟩
  .simp[Value.cells] at hu;obtain⟨k,hk⟩:=dR hu;exact C k u hk
 |_=>exact single rfl
end inv
section opd
variable{F:Nat->Prop}{β:aJ}{w:World}
theorem MU(v:Value):R F β w (oX v) v:=by
 unfold oX;split<;>first|exact .u _|exact .s _ rfl|exact .z
theorem aik(v:Value):R F β w (yZ v) v:=by
 unfold yZ;split
 .rename_i cs
  have:=R.agg (F:=F) (β:=β) (w:=w) (cs.toList.map oX) cs.toList oS (fun k d u hk hu=>by
   simp only[List.getElem?_map,hu,Option.map_some,aV] at hk;subst hk
   exact MU u)
  simpa using this
 all_goals first|exact .u _|exact .s _ rfl|exact .z
def gP(F:Nat->Prop)(β:aJ)(w:World)(env:Env)(a:Act):Prop:=∀ t,R F β w (env t) (a.tmps.getD t undef)
theorem gP.opd{env:Env}{a:Act}(h:gP F β w env a)(x:Operand):R F β w (opd env x) (a.eval x):=by
 cases x with
 |tmp t=>exact h t
 |const v=>exact aik v
 |global g=>exact .u _
 |func f=>exact .fn (.func f) [] [] [] [] rfl rfl oS oS
theorem gP.step{β':aJ}{w':World}{env:Env}{a:Act}(h:gP F β w env a)(hs:Step β w β' w'):gP F β' w' env a:=fun t=>(h t).step hs
theorem gP.put{env:Env}{a:Act}(h:gP F β w env a)(dst:Option Nat)(d:D)(v:Value)(hr:R F β w d v)(hd:∀ t,dst=some t->t<a.tmps.size):
 gP F β w (match dst with|some t=>up env t d|none=>env) (a.put dst v):=by
 cases dst with
 |none=>exact h
 |some t=>
  intro j;have ht:=hd t rfl;by_cases hj:j=t
  .subst hj;simp only[an,Act.put];simpa[Array.getD_eq_getD_getElem?,ht] using hr
  .simp only[aZ _ _ hj,Act.put];have:=h j;simpa[Array.getD_eq_getD_getElem?,Array.getElem?_setIfInBounds_ne (Ne.symm hj)] using this
end opd
section types
variable{P:Program}(w:World)
theorem sG{t:TypeId}(h:aO P t=true):∃ i d z,P.info? t=some i/\P.underlying t=some d/\i.zero=some z/\(bI P t=false->P.cellsOf t=1)/\z.cells.size=P.cellsOf t/\
 bq P t=z.cells.toList.map oX/\i.size=P.cellsOf t/\i.bytes=P.bytesOf t/\(∀ u∈z.cells.toList,(oX u).one=true):=by
 unfold aO at h;simp only[aB,Bool.or_eq_true,beq_iff_eq] at h;obtain⟨⟨h1,h2⟩,C⟩:=h;obtain⟨d,hd⟩:=Option.isSome_iff_exists.1 h1;cases hi:P.info? t with
 |none=>simp[hi] at C
 |some i=>
  cases hz:i.zero with
  |none=>simp[hi,hz] at C
  |some z=>
   simp only[hi,hz,Option.bind_some,aB,beq_iff_eq,bT] at C;refine⟨i,d,z,rfl,hd,hz,fun ha=>?_,C.2,?_,?_,?_,C.1⟩
   .rcases h2 with h2|h2
    .rw[h2] at ha;cases ha
    .exact h2
   .simp[bq,hi,hz]
   .simp[Program.cellsOf,hi]
   .simp[Program.bytesOf,hi]
theorem DL{t:TypeId}(h:(P.underlying t).isSome=true):(isAgg t).run P w=.ok (bI P t) w:=by
 obtain⟨d,hd⟩:=Option.isSome_iff_exists.1 h;simp only[isAgg,Sem.run_bind,run_underlying hd,Result.andThen_ok,bI,hd];cases d<;>rfl
theorem gJ{t:TypeId}(h:(P.info? t).isSome=true):(sizeOf t).run P w=.ok (P.cellsOf t) w:=by
 obtain⟨i,hi⟩:=Option.isSome_iff_exists.1 h;simp[sizeOf,typeInfo,Program.cellsOf,hi]
theorem ia{t:TypeId}(h:aO P t=true):(P.info? t).isSome=true:=by
 obtain⟨i,_,_,hi,_⟩:=sG h;simp[hi]
theorem Bm{t:TypeId}(h:aO P t=true):(P.underlying t).isSome=true:=by
 obtain⟨_,d,_,_,hd,_⟩:=sG h;simp[hd]
theorem A9{t:TypeId}(h:aO P t=true):∃ z,(zeroValue t).run P w=.ok z w/\z.cells.size=P.cellsOf t/\bq P t=z.cells.toList.map oX/\(∀ u∈z.cells.toList,(oX u).one=true):=by
 obtain⟨i,d,z,hi,_,hz,_,h1,h2,_,_,C⟩:=sG h;exact⟨z,by simp[zeroValue,typeInfo,hi,hz],h1,h2,C⟩
theorem jD{t:TypeId}(h:bh P t=true):P.underlying t=some (.slice (aE P t))/\aO P (aE P t)=true:=by
 unfold bh at h;unfold aE;split at h
 .rename_i e he;rw[he];exact⟨rfl,h⟩
 .cases h
theorem LS{t:TypeId}(h:o9 P t=true):P.underlying t=some (.array (pU P t) (aE P t))/\aO P (aE P t)=true:=by
 unfold o9 at h;unfold aE pU;split at h
 .rename_i e he;rw[he];exact⟨rfl,h⟩
 .cases h
theorem xH{t:TypeId}(h:fA P t=true):P.underlying t=some .string:=by
 unfold fA at h;split at h
 .assumption
 .cases h
end types
def aU(P:Program)(F:Nat->Prop)(m:Mem)(nx:Nat)(β:aJ)(w:World)(e:dJ)(s:Sem Next):Prop:=
 ∃ n v w' β',s.run P w=.ok n w'/\(n=.value v\/(n=.skip/\v=undef))/\R F β' w' e.val v/\aL P F (cQ m e.a7) β' w'/\Step β w β' w'/\∀ i,β i=none->(i<nx\/nx+e.new<=i)->β' i=none
section
variable{P:Program}{F:Nat->Prop}{m:Mem}{nx:Nat}{β:aJ}{w:World}
theorem aU.pure(hm:aL P F m β w){pre:Prop}{d:D}{rd:List Nat}{s:Sem Value}{v:Value}(hr:s.run P w=.ok v w)(h:R F β w d v):
 aU P F m nx β w { pre:=pre,val:=d,rd:=rd } (do Pure.pure (Next.value (<- s))):=
 ⟨.value v,v,w,β,by simp[hr],.inl rfl,h,hm,Step.refl β w,fun _ h _=>h⟩
def Rd(F:Nat->Prop)(β:aJ)(w:World)(b o:Nat)(cs:List D):Prop:=
 ∃ us:Nat->Value,(∀ k:Nat,k<cs.length->w.cell? ⟨b,o+k,none⟩=some (us k)/\(us k).oneCell'=true)/\∀ (k:Nat) (d:D),cs[k]? =some d->R F β w d (us k)
theorem Rd.drop{b o:Nat}{cs:List D}(h:Rd F β w b o cs)(k:Nat):Rd F β w b (o+k) (cs.drop k):=by
 obtain⟨us,h1,h2⟩:=h;refine⟨fun j=>us (k+j),fun j hj=>?_,fun j d hj=>?_⟩
 .have:=h1 (k+j) (by simp at hj;omega);rw[<- Nat.add_assoc] at this;exact this
 .exact h2 (k+j) d (by simpa[List.getElem?_drop] using hj)
theorem Rd.take{b o:Nat}{cs:List D}(h:Rd F β w b o cs)(k:Nat):Rd F β w b o (cs.take k):=by
 obtain⟨us,h1,h2⟩:=h;refine⟨us,fun j hj=>h1 j (by simp at hj;omega),fun j d hj=>h2 j d ?_⟩;rw[List.getElem?_take] at hj;split at hj
 .exact hj
 .cases hj
theorem c7.rd{cs:List D}{e:TypeId}{b o len room sz:Nat}(h:c7 P F β w (.cells cs e) (.cells b o len room sz)):Rd F β w b o cs/\len=cs.length/\sz=P.cellsOf e/\len<=room:=by
 cases h with
 |cells _ _ _ _ _ _ c hc hr hlen bS hh=>
  refine⟨⟨fun k=>(c[o+k]?).getD undef,fun k hk=>?_,fun k d hk=>?_⟩,rfl,bS,hlen⟩
  .have:o+k<c.size:=by omega
   obtain⟨v,h1,_,C⟩:=hh k cs[k] (by simp[hk]);exact⟨by simp[World.cell?,hc,h1],by simpa[h1] using C⟩
  .obtain⟨v,h1,h2,_⟩:=hh k d hk;simpa[h1] using h2
theorem R.Iw{cs:List D}{v:Value}(h:R F β w (.pt cs) v):∃ b o,v=.pointer (some ⟨b,o,none⟩)/\¬ F b/\β.free b/\b<w.heap.size/\Rd F β w b o cs:=by
 cases h with|pt _ b o us h1 h2 h3 h4 h5=>exact⟨b,o,rfl,h1,h2,h3,us,h4,h5⟩
theorem R.Wz{cs:List D}{b o:Nat}(h1:¬ F b)(h2:β.free b)(C:b<w.heap.size)(h:Rd F β w b o cs):R F β w (.pt cs) (.pointer (some ⟨b,o,none⟩)):=by
 obtain⟨us,J,M⟩:=h;exact .pt cs b o us h1 h2 C J M
theorem R.Iv(hm:aL P F m β w){i off:Nat}{cs:List D}{e:TypeId}{v:Value}(h:R F β w (.rp i off) v)(hi:m i=some (.cells cs e)):
 ∃ b o room sz,β i=some (.cells b o cs.length room sz)/\v=.pointer (some ⟨b,o+off,none⟩)/\c7 P F β w (.cells cs e) (.cells b o cs.length room sz):=by
 obtain⟨p,hp,aA⟩:=hm.row i _ hi;cases h with
 |tw _ _ _ h _=>
  rw[h] at hp;cases hp;cases aA
 |rp _ _ b o len room sz h=>
  rw[h] at hp;cases hp;obtain⟨_,h2,_,_⟩:=aA.rd;subst h2;exact⟨b,o,room,sz,h,rfl,aA⟩
theorem GK{t:TypeId}(ht:aO P t=true){b o:Nat}{cs:List D}(h:Rd F β w b o cs)(hl:P.cellsOf t<=cs.length):
 ∃ v,(loadVar t ⟨b,o,none⟩).run P w=.ok v w/\R F β w (kH P t cs) v:=by
 obtain⟨us,h1,h2⟩:=h;obtain⟨i,d,z,hi,hd,hz,C,_⟩:=sG ht;unfold loadVar kH;simp only[Sem.run_bind,DL w (Bm ht),Result.andThen_ok];cases ha:bI P t with
 |true=>
  have hc:=run_loadCells (P:=P) w ⟨b,o,none⟩ (P.cellsOf t) us (fun j hj=>by rw[Addr.add_lit];exact(h1 j oG).1);refine⟨_,by simp[gJ w (ia ht),hc];rfl,?_⟩;refine .agg _ _ oP fun k d v hk hv=>?_;simp only[List.getElem?_map] at hv;rw[List.getElem?_take] at hk;split at hk
  .rename_i al;have:(List.range (P.cellsOf t))[k]? =some k:=by simp[al]
   rw[this] at hv;simp at hv;subst hv;exact h2 k d hk
  .cases hk
 |false=>
  have J:=C ha;have h0:=(h1 0 oG).1;rw[Nat.add_zero] at h0;refine⟨us 0,by simp[h0],?_⟩;cases cs with
  |nil=>simp at hl;omega
  |cons d ds=>exact h2 0 d rfl
theorem aaI(hm:aL P F m β w){t:TypeId}{cs:List D}{v:Value}{pre:Prop}(h:R F β w (.pt cs) v)(ht:aO P t=true)(hl:P.cellsOf t<=cs.length):
 aU P F m nx β w { pre:=pre,val:=kH P t cs } (do Pure.pure (Next.value (<- Instr.loadAt t v))):=by
 obtain⟨b,o,rfl,_,_,_,C⟩:=h.Iw;obtain⟨u,hu,hr⟩:=GK ht C hl;exact aU.pure hm (by simp[Instr.loadAt,Instr.sureAddr,hu]) hr
theorem aaJ(hm:aL P F m β w){t:TypeId}{i off:Nat}{cs:List D}{e:TypeId}{v:Value}{pre:Prop}{rd:List Nat}(h:R F β w (.rp i off) v)(hi:m i=some (.cells cs e))
 (ht:aO P t=true) (hl:off+P.cellsOf t<=cs.length):
 aU P F m nx β w { pre:=pre,val:=kH P t (cs.drop off),rd:=rd } (do Pure.pure (Next.value (<- Instr.loadAt t v))):=by
 obtain⟨b,o,room,sz,C,rfl,aA⟩:=h.Iv hm hi;obtain⟨u,hu,hr⟩:=GK ht (aA.rd.1.drop off) oP;exact aU.pure hm (by simp[Instr.loadAt,Instr.sureAddr,hu]) hr
theorem Ls{cs:List D}{off:Nat}{xs:List D}(h:off+xs.length<=cs.length):fP cs off xs=cs.take off++xs++cs.drop (off+xs.length):=by
 unfold fP;split
 .rename_i x;simp at h;rw[List.set_eq_take_append_cons_drop,if_pos oG];simp
 .rfl
theorem KM{cs:List D}{off:Nat}{xs:List D}(h:off+xs.length<=cs.length):(fP cs off xs).length=cs.length:=by
 rw[Ls h];simp;omega
theorem RQ{cs:List D}{off:Nat}{xs:List D}(h:off+xs.length<=cs.length)(k:Nat):(fP cs off xs)[k]? =if k<off then cs[k]? else if k<off+xs.length then xs[k - off]? else cs[k]? :=by
 rw[Ls h];by_cases h1:k<off
 .rw[if_pos h1,List.append_assoc,List.getElem?_append_left oP,List.getElem?_take,if_pos h1]
 .rw[if_neg h1];by_cases h2:k<off+xs.length
  .rw[if_pos h2,List.append_assoc,List.getElem?_append_right oP,List.length_take,Nat.min_eq_left oG,List.getElem?_append_left oG]
  .rw[if_neg h2,List.getElem?_append_right oP,List.length_append,List.length_take,Nat.min_eq_left oG,List.getElem?_drop];congr 1;omega
theorem GL(c:List Value)(off:Nat)(xs:List Value)(h:off+xs.length<=c.length)(k:Nat):(c.take off++xs++c.drop (off+xs.length))[k]? =if k<off then c[k]? else if k<off+xs.length then xs[k - off]? else c[k]? :=by
 by_cases h1:k<off
 .rw[if_pos h1,List.append_assoc,List.getElem?_append_left oP,List.getElem?_take,if_pos h1]
 .rw[if_neg h1];by_cases h2:k<off+xs.length
  .rw[if_pos h2,List.append_assoc,List.getElem?_append_right oP,List.length_take,Nat.min_eq_left oG,List.getElem?_append_left oG]
  .rw[if_neg h2,List.getElem?_append_right oP,List.length_append,List.length_take,Nat.min_eq_left oG,List.getElem?_drop];congr 1;omega
theorem KT(hm:aL P F m β w){i off:Nat}{cs:List D}{e:TypeId}{b o room sz:Nat}(X:β i=some (.cells b o cs.length room sz))(aA:c7 P F β w (.cells cs e) (.cells b o cs.length room sz))
 {ds:List D} {vs:List Value} (hlen:vs.length=ds.length) (o0:off+ds.length<=cs.length) (h1:∀ u∈vs,u.oneCell'=true) (hr:∀ (k:Nat) (d:D) (u:Value),ds[k]? =some d->vs[k]? =some u->R F β w d u):
 ∃ w',(storeCells ⟨b,o+off,none⟩ vs).run P w=.ok () w'/\aL P F (up m i (some (.cells (fP cs off ds) e))) β w'/\Step β w β w':=by
 cases aA with
 |cells _ _ _ _ _ _ c hc uF hle bS hh=>
 have O:=run_storeCells_at P b (o+off) e vs 0 c w hc oG h1;simp only[Nat.add_zero] at O;have yd:=setRow_heap w b c (c.toList.take (o+off)++vs++c.toList.drop (o+off+vs.length)).toArray e (0,0) hc
 have hs:Step β w β (w.setRow b (c.toList.take (o+off)++vs++c.toList.drop (o+off+vs.length)).toArray):=
  DI hm X rfl oS fun k hk=>setRow_other w b k _ hk
 refine⟨_,O,hm.write X rfl oS (fun k hk=>setRow_other w b k _ hk) _ ?_,hs⟩;have hl:=KM (cs:=cs) (off:=off) (xs:=ds) oG
 have IZ:(c.toList.take (o+off)++vs++c.toList.drop (o+off+vs.length)).toArray.size=c.size:=by
  simp only[List.size_toArray,List.length_append,List.length_take,List.length_drop,Array.length_toList];omega
 have key:=c7.cells (P:=P) (F:=F) (β:=β) (w:=w.setRow b (c.toList.take (o+off)++vs++c.toList.drop (o+off+vs.length)).toArray) (fP cs off ds) e b o room sz _ yd (by rw[IZ];exact uF) oG bS (fun k d hk=>by
  rw[RQ oG] at hk;have hv:=GL c.toList (o+off) vs oP (o+k);simp only[List.getElem?_toArray];by_cases h2:k<off
  .rw[if_pos h2] at hk;rw[if_pos oG] at hv;obtain⟨u,C,J,M⟩:=hh k d hk;exact⟨u,by rw[hv];simpa using C,J.step hs,M⟩
  .rw[if_neg h2] at hk;rw[if_neg oG] at hv;by_cases U:k<off+ds.length
   .rw[if_pos U] at hk;rw[if_pos oG] at hv;have al:k - off<vs.length:=by omega
    refine⟨vs[k - off],by rw[hv,show o+k - (o+off)=k - off from by omega];simp[al],?_,h1 _ (di al)⟩;exact(hr (k - off) d vs[k - off] hk (by simp[al])).step hs
   .rw[if_neg U] at hk;rw[if_neg oG] at hv;obtain⟨u,C,J,M⟩:=hh k d hk
    exact⟨u,by rw[hv];simpa using C,J.step hs,M⟩)
 rw[hl] at key;exact key
theorem aco(hm:aL P F m β w){t:TypeId}{i off:Nat}{cs:List D}{e:TypeId}{a x:Value}{d:D}{pre:Prop}{rd:List Nat}(h:R F β w (.rp i off) a)(hx:R F β w d x)(hi:m i=some (.cells cs e))
 (ht:aO P t=true) (hlen:d.cells.length=P.cellsOf t) (hl:off+P.cellsOf t<=cs.length) (h1:d.cells.all D.one=true):
 aU P F m nx β w { pre:=pre,val:=.bd [],a7:=[(i,some (.cells (fP cs off d.cells) e))],rd:=rd } (do Instr.storeAt t a x;Pure.pure Next.skip):=by
 obtain⟨b,o,room,sz,O,rfl,aA⟩:=h.Iv hm hi;obtain⟨J,M,c3⟩:=hx.cells h1;obtain⟨w',C,U,hs⟩:=KT (P:=P) hm O aA (off:=off) (ds:=d.cells) (vs:=x.cells.toList) (by simpa using J) oG c3 (fun k d' u hk hu=>(M k d' u hk (by simpa using hu)).1);refine⟨.skip,undef,w',β,?_,.inr ⟨rfl,rfl⟩,.bd [] [] rfl oS,U,hs,fun _ h _=>h⟩;have bS:x.cells.size=P.cellsOf t:=by omega
 simp[Instr.storeAt,Instr.sureAddr,storeVar,gJ w (ia ht),bS,C]
theorem Ea(hm:aL P F m β w)(hn:β nx=none){cs:List D}{c:List Value}{e:TypeId}(hl:c.length=cs.length)(h1:∀ (k:Nat) (d:D) (u:Value),cs[k]? =some d->c[k]? =some u->R F β w d u/\u.oneCell'=true)(C:List Value):
 aL P F (up m nx (some (.cells cs e))) (up β nx (some (.cells w.heap.size 0 cs.length (cs.length+C.length) (P.cellsOf e)))) (w.alloc (.cells (c++C).toArray e))/\
 Step β w (up β nx (some (.cells w.heap.size 0 cs.length (cs.length+C.length) (P.cellsOf e)))) (w.alloc (.cells (c++C).toArray e)):=by
 have hs:=Bb hm (.cells (c++C).toArray e) hn (.cells w.heap.size 0 cs.length (cs.length+C.length) (P.cellsOf e)) (fun b hb=>by simp[Pl.bF] at hb;exact hb.symm);refine⟨hm.alloc hn _ _ _ (fun b hb=>by simp[Pl.bF] at hb;exact hb.symm) ?_,hs⟩;refine .cells cs e w.heap.size 0 _ _ (c++C).toArray (heap_alloc_new w _) oP oG rfl fun k d hk=>?_;have O:k<cs.length:=(bX.1 hk).1;have J:k<c.length:=by omega
 obtain⟨h2,M⟩:=h1 k d c[k] hk (by simp[J]);refine⟨c[k],?_,h2.step hs,M⟩;rw[Nat.zero_add,List.getElem?_toArray,List.getElem?_append_left J];simp[J]
theorem xI{p:Pl}:∀ i,β i=none->(i<nx\/nx+1<=i)->up β nx (some p) i=none:=fun i h hi=>by
 rw[aZ _ _ oG];exact h
theorem GN(t:TypeId)(v:Value):(newVar t v).run P w=.ok ⟨w.heap.size,0,none⟩ (w.alloc (.cells v.cells t)):=by
 simp[newVar,newRow]
theorem af1(hm:aL P F m β w)(hn:β nx=none){t:TypeId}{d:D}{v:Value}{pre:Prop}(h:R F β w d v)(h1:d.cells.all D.one=true):
 aU P F m nx β w { pre:=pre,val:=.rp nx 0,a7:=[(nx,some (.cells d.cells t))],new:=1 } (do Pure.pure (Next.value (<- Instr.box t v))):=by
 obtain⟨J,M,c3⟩:=h.cells h1;obtain⟨h2,C⟩:=Ea hm hn (cs:=d.cells) (c:=v.cells.toList) (e:=t) (by simpa using J) (fun k e u hk hu=>M k e u hk (by simpa using hu)) [];simp only[List.append_nil,Array.toArray_toList] at h2 C;refine⟨_,_,_,_,by simp[Instr.box,GN];rfl,.inl rfl,?_,h2,C,xI⟩;exact .rp nx 0 w.heap.size 0 _ _ _ (an _ _ _)
theorem BQ{z:Value}{t:TypeId}(hz:bq P t=z.cells.toList.map oX)(C:∀ u∈z.cells.toList,(oX u).one=true):
 z.cells.toList.length=(bq P t).length/\∀ (k:Nat) (d:D) (u:Value),(bq P t)[k]? =some d->z.cells.toList[k]? =some u->R F β w d u/\u.oneCell'=true:=by
 rw[hz];refine⟨oS,fun k d u hk hu=>?_⟩;rw[List.getElem?_map,hu] at hk;simp only[Option.map_some,aV] at hk;subst hk;have:=MU (F:=F) (β:=β) (w:=w) u;exact⟨this,this.one (C u (cx hu))⟩
theorem acp(hm:aL P F m β w)(hn:β nx=none){t:TypeId}{pre:Prop}(ht:aO P t=true):
 aU P F m nx β w { pre:=pre,val:=.rp nx 0,a7:=[(nx,some (.cells (bq P t) t))],new:=1 } (do Pure.pure (Next.value (<- Instr.alloc t true (.tuple #[])))):=by
 obtain⟨z,hz,_,U,X⟩:=A9 (P:=P) w ht;obtain⟨M,O⟩:=BQ (F:=F) (β:=β) (w:=w) U X;obtain⟨C,J⟩:=Ea hm hn (cs:=bq P t) (c:=z.cells.toList) (e:=t) M O [];simp only[List.append_nil,Array.toArray_toList] at C J;refine⟨_,_,_,_,by simp[Instr.alloc,hz,GN];rfl,.inl rfl,?_,C,J,xI⟩;exact .rp nx 0 w.heap.size 0 _ _ _ (an _ _ _)
end
section
variable{P:Program}{F:Nat->Prop}{m:Mem}{nx:Nat}{β:aJ}{w:World}
def Rl(F:Nat->Prop)(β:aJ)(w:World)(cs:List D)(c:List Value):Prop:=
 c.length=cs.length/\∀ (k:Nat) (d:D) (u:Value),cs[k]? =some d->c[k]? =some u->R F β w d u/\u.oneCell'=true
theorem So(off:Nat):∀ (l:List Value) (j:Nat) (cells:Array Value) (k:Nat),off+j+l.length<=cells.size->
 ((l.zipIdx j).foldl (fun cs (c,j)=>cs.setIfInBounds (off+j) c) cells)[k]? =if k<off+j then cells[k]? else if k<off+j+l.length then l[k - (off+j)]? else cells[k]?
 |[],j,cells,k,_=>by
  simp only[List.zipIdx_nil,List.foldl_nil,List.length_nil,Nat.add_zero];split
  .rfl
  .rfl
 |v::l,j,cells,k,h=>by
  simp only[List.zipIdx_cons,List.foldl_cons];simp at h;rw[So off l (j+1) _ k oP];simp only[List.length_cons];by_cases h1:k<off+j
  .rw[if_pos oG,if_pos h1,Array.getElem?_setIfInBounds_ne oG]
  .rw[if_neg h1];by_cases h2:k=off+j
   .subst h2;rw[if_pos oG,if_pos oG];have:off+j<cells.size:=by omega
    simp[this]
   .rw[if_neg oG];by_cases C:k<off+(j+1)+l.length
    .rw[if_pos C,if_pos oG,show k - (off+j)=(k - (off+(j+1)))+1 from by omega];simp
    .rw[if_neg C,if_neg oG,Array.getElem?_setIfInBounds_ne oG]
theorem aaK(off:Nat)(l:List Value)(cells:Array Value)(h:off+l.length<=cells.size):
 (l.zipIdx.foldl (fun cs (c,j)=>cs.setIfInBounds (off+j) c) cells).toList=cells.toList.take off++l++cells.toList.drop (off+l.length):=by
 apply List.ext_getElem?;intro k;rw[GL _ _ _ (by simpa using h) k];have:=So off l 0 cells k (by simpa using h);simpa using this
theorem Iy(place:Nat->Option (Nat×Nat)):∀ (ps:List (Nat×D)) (C:List (Nat×Value)) (cs:List D) (c:Array Value) (cs':List D),Rl F β w cs c.toList->ps.length=C.length->
 (∀ (k:Nat) (p:Nat×D) (q:Nat×Value),ps[k]? =some p->C[k]? =some q->p.1=q.1/\R F β w p.2 q.2)->kJ place cs ps=some cs'->∃ c',Instr.fill place c C=some c'/\Rl F β w cs' c'.toList
 |[],[],cs,c,cs',h,_,_,hf=>by
  simp only[kJ,aV] at hf;subst hf;exact⟨c,rfl,h⟩
 |[],_::_,_,_,_,_,hl,_,_=>by simp at hl
 |_::_,[],_,_,_,_,hl,_,_=>by simp at hl
 |(i,d)::ps,(i',v)::C,cs,c,cs',h,hl,hp,hf=>by
  obtain⟨h1,h2⟩:=hp 0 _ _ rfl rfl;simp only at h1 h2;subst h1;simp only[kJ] at hf;cases U:place i with
  |none=>simp[U] at hf
  |some q=>
   obtain⟨off,size⟩:=q;simp only[U] at hf;split at hf
   .rename_i hc;obtain⟨AK,tK,O⟩:=hc;obtain⟨k1,k2,k3⟩:=h2.cells O;have dw:=h.1;simp at dw
    have J:¬ (v.cells.size≠size||off+v.cells.size>c.size)=true:=by
     simp;omega
    simp only[Instr.fill,U];rw[if_neg J];have M:=aaK off v.cells.toList c oP
    have nZ:v.cells.zipIdx.foldl (fun cs (c,j)=>cs.setIfInBounds (off+j) c) c=(v.cells.toList.zipIdx.foldl (fun cs (c,j)=>cs.setIfInBounds (off+j) c) c):=by
     rw[<- Array.foldl_toList];simp
    rw[nZ];refine Iy place ps C (fP cs off d.cells) _ cs' ?_ (by simpa using hl) (fun k p q hk hq=>hp (k+1) p q hk hq) hf;rw[M];refine⟨?_,fun k e u hk hu=>?_⟩
    .rw[KM oG];simp;omega
    .rw[RQ oG] at hk;rw[GL _ _ _ oP] at hu;simp only[Array.length_toList] at hu;by_cases X:k<off
     .rw[if_pos X] at hk hu;exact h.2 k e u hk hu
     .rw[if_neg X] at hk hu;by_cases g2:k<off+d.cells.length
      .rw[if_pos g2] at hk;rw[if_pos oG] at hu;exact k2 (k - off) e u hk (by simpa using hu)
      .rw[if_neg g2] at hk;rw[if_neg oG] at hu;exact h.2 k e u hk hu
   .cases hf
theorem Tp(z:List D)(hz:0<z.length):∀ (n k:Nat),k<n*z.length->(dM n z)[k]? =z[k % z.length]?
 |0,k,h=>by simp at h
 |n+1,k,h=>by
  have e:dM (n+1) z=z++dM n z:=by simp[dM,List.replicate_succ]
  rw[e];by_cases hk:k<z.length
  .rw[List.getElem?_append_left hk,Nat.mod_eq_of_lt hk]
  .rw[List.getElem?_append_right oG,Tp z hz n (k - z.length) (by rw[Nat.add_mul] at h;omega)];rw[<- Nat.mod_eq_sub_mod oG]
theorem DF(n:Nat)(z:List D):(dM n z).length=n*z.length:=by
 simp[dM,List.length_flatten]
theorem Mo{t:TypeId}{z:Value}(hs:z.cells.size=P.cellsOf t)(hz:bq P t=z.cells.toList.map oX)(X:∀ u∈z.cells.toList,(oX u).one=true)(n N:Nat)(J:N=n*P.cellsOf t)(zero:Array Value)(hzero:0<N->zero=z.cells):
 Rl F β w (dM n (bq P t)) ((Array.range N).map (zero[· % zero.size]!)).toList:=by
 obtain⟨M,O⟩:=BQ (F:=F) (β:=β) (w:=w) hz X;have hlen:(bq P t).length=P.cellsOf t:=by rw[<- M];simpa using hs
 refine⟨by simp[DF,hlen,J],fun k d u hk hu=>?_⟩
 have al:k<N:=by
  have:=(bX.1 hk).1;rw[DF,hlen] at this;omega
 have U:0<N:=by omega
 have C:=hzero U;subst C
 have h0:0<P.cellsOf t:=by
  rcases Nat.eq_zero_or_pos (P.cellsOf t) with h|h
  .rw[h] at J;omega
  .exact h
 rw[Tp _ oG n k (by rw[hlen];omega),hlen] at hk;simp[al] at hu;have hm:k % P.cellsOf t<z.cells.size:=by rw[hs];exact Nat.mod_lt _ h0
 refine O (k % P.cellsOf t) d u hk ?_;rw[<- hu,hs];simp[hm]
theorem ZZ(hm:aL P F m β w){t:TypeId}{fs:Array Field}{ps:List (Nat×D)}{C:Array (Nat×Value)}{cs':List D}{pre:Prop}(ht:aO P t=true)(hu:P.underlying t=some (.struct fs))(M:fs.toList.all (fun f=>(P.info? f.type).isSome)=true)
 (hl:ps.length=C.size) (hp:∀ (k:Nat) (p:Nat×D) (q:Nat×Value),ps[k]? =some p->C[k]? =some q->p.1=q.1/\R F β w p.2 q.2)
 (hf:kJ (fun i=>(fs[i]?).map fun f=>(f.offset,P.cellsOf f.type)) (bq P t) ps=some cs'):
 aU P F m nx β w { pre:=pre,val:=.agg cs' } (do Pure.pure (Next.value (<- Instr.build t C))):=by
 obtain⟨z,hz,kU,X,h4⟩:=A9 (P:=P) w ht;obtain⟨O,U⟩:=BQ (F:=F) (β:=β) (w:=w) X h4
 have J:(fs.mapM fun f=>(do pure (f.offset, <- sizeOf f.type):Sem (Nat×Nat))).run P w=.ok (fs.map fun f=>(f.offset,P.cellsOf f.type)) w:=by
  rw[Array.mapM_eq_mapM_toList]
  have key:∀ l:List Field,l.all (fun f=>(P.info? f.type).isSome)=true->(l.mapM fun f=>(Prod.mk f.offset<$>sizeOf f.type:Sem (Nat×Nat))).run P w=.ok (l.map fun f=>(f.offset,P.cellsOf f.type)) w:=by
   intro l
   induction l with
   |nil=>intro _;simp
   |cons f l ih=>
    intro hl;simp only[List.all_cons,aB] at hl;simp[List.mapM_cons,gJ w hl.1,ih hl.2]
  simp[key fs.toList M, <- Array.toList_map]
 obtain⟨c',yh,hR⟩:=Iy (F:=F) (β:=β) (w:=w) (fun i=>(fs.map fun f=>(f.offset,P.cellsOf f.type))[i]?) ps C.toList (bq P t) z.cells cs' ⟨O,U⟩ (by simpa using hl) (fun k p q hk hq=>hp k p q hk (by simpa using hq)) (by
  rw[<- hf];congr 1;funext i
  simp[Array.getElem?_map])
 refine aU.pure hm (v:=.agg c') ?_ ?_
 .simp only[Instr.build,Sem.run_bind,hz,Result.andThen_ok,run_underlying hu,J,yh,Sem.run_pure]
 .have:=R.agg (F:=F) (β:=β) (w:=w) cs' c'.toList hR.1 (fun k d v hk hv=>(hR.2 k d v hk hv).1);simpa using this
theorem Z6(hm:aL P F m β w){t e:TypeId}{n:Nat}{ps:List (Nat×D)}{C:Array (Nat×Value)}{cs':List D}{pre:Prop}(ht:aO P t=true)(hu:P.underlying t=some (.array n e))(he:aO P e=true)
 (hl:ps.length=C.size) (hp:∀ (k:Nat) (p:Nat×D) (q:Nat×Value),ps[k]? =some p->C[k]? =some q->p.1=q.1/\R F β w p.2 q.2)
 (hf:kJ (fun i=>some (i*P.cellsOf e,P.cellsOf e)) (bq P t) ps=some cs'):
 aU P F m nx β w { pre:=pre,val:=.agg cs' } (do Pure.pure (Next.value (<- Instr.build t C))):=by
 obtain⟨z,hz,kU,O,U⟩:=A9 (P:=P) w ht;obtain⟨J,M⟩:=BQ (F:=F) (β:=β) (w:=w) O U;obtain⟨c',X,hR⟩:=Iy (F:=F) (β:=β) (w:=w) _ ps C.toList (bq P t) z.cells cs' ⟨J,M⟩ (by simpa using hl) (fun k p q hk hq=>hp k p q hk (by simpa using hq)) hf;refine aU.pure hm (v:=.agg c') ?_ ?_
 .simp only[Instr.build,Sem.run_bind,hz,Result.andThen_ok,run_underlying hu,gJ w (ia he),X,Sem.run_pure]
 .have:=R.agg (F:=F) (β:=β) (w:=w) cs' c'.toList hR.1 (fun k d v hk hv=>(hR.2 k d v hk hv).1);simpa using this
theorem Z'(hm:aL P F m β w)(hn:β nx=none){t:TypeId}{n:Nat}{ps:List (Nat×D)}{C:Array (Nat×Value)}{cs':List D}{pre:Prop}(ht:bh P t=true)(h24:n*P.cellsOf (aE P t)<=2 ^ 24)(dO:n<=maxLen)
 (hl:ps.length=C.size) (hp:∀ (k:Nat) (p:Nat×D) (q:Nat×Value),ps[k]? =some p->C[k]? =some q->p.1=q.1/\R F β w p.2 q.2)
 (hf:kJ (fun i=>some (i*P.cellsOf (aE P t),P.cellsOf (aE P t))) (dM n (bq P (aE P t))) ps=some cs'):
 aU P F m nx β w { pre:=pre,val:=.rs nx 0 n,a7:=[(nx,some (.cells cs' (aE P t)))],new:=1 } (do Pure.pure (Next.value (<- Instr.buildSlice t n C))):=by
 obtain⟨hu,he⟩:=jD ht;obtain⟨z,hz,X,M,h4⟩:=A9 (P:=P) w he;have FW:=Mo (F:=F) (β:=β) (w:=w) (P:=P) X M h4 n (n*P.cellsOf (aE P t)) rfl (if n*P.cellsOf (aE P t)=0 then #[] else z.cells) (fun h=>by rw[if_neg oG]);obtain⟨c',J,hR⟩:=Iy (F:=F) (β:=β) (w:=w) _ ps C.toList _ _ cs' FW (by simpa using hl) (fun k p q hk hq=>hp k p q hk (by simpa using hq)) hf;obtain⟨O,U⟩:=Ea hm hn (cs:=cs') (c:=c'.toList) (e:=aE P t) hR.1 hR.2 [];simp only[List.append_nil,Array.toArray_toList,List.length_nil,Nat.add_zero] at O U
 have ss:(if n*P.cellsOf (aE P t)=0 then Result.ok #[] w else Result.ok z.cells w)=.ok (if n*P.cellsOf (aE P t)=0 then #[] else z.cells) w:=by
  split<;>rfl
 have dX:(Instr.buildSlice t n C).run P w=.ok (.slice (some ⟨w.heap.size,0,none⟩) n n) (w.alloc (.cells c' (aE P t))):=by
  unfold Instr.buildSlice;simp only[Sem.run_bind,run_underlying hu,Result.andThen_ok,gJ w (ia he),Sem.run_ite,if_neg (show ¬ n*P.cellsOf (aE P t)>2 ^ 24 by omega)];by_cases vw:n*P.cellsOf (aE P t)=0
  .simp only[vw,↓reduceIte] at J ⊢;simp only[Sem.run_bind,Sem.run_pure,Result.andThen_ok,J];simp[newRow]
  .simp only[vw,↓reduceIte] at J ⊢;simp[J,newRow,hz]
 have dw:cs'.length=n*P.cellsOf (aE P t):=by
  have FX:∀ (place:Nat->Option (Nat×Nat)) (ps:List (Nat×D)) (cs cs':List D),kJ place cs ps=some cs'->cs'.length=cs.length:=by
   intro place ps
   induction ps with
   |nil=>intro cs cs' h;simp only[kJ,aV] at h;rw[h]
   |cons p ps ih=>
    intro cs cs' h;obtain⟨i,d⟩:=p;simp only[kJ] at h;split at h
    .cases h
    .split at h
     .rename_i hc;rw[ih _ _ h,KM oG]
     .cases h
  rw[FX _ _ _ _ hf,DF,M];simp[X]
 refine⟨_,_,_,_,by simp only[Sem.run_bind,dX,Result.andThen_ok,Sem.run_pure];rfl,.inl rfl,?_,O,U,xI⟩;exact .rs nx 0 n n w.heap.size 0 _ _ _ (an _ _ _) (bM _) dO oG oG
theorem aag(hm:aL P F m β w)(hn:β nx=none){t:TypeId}{n:Int}{pre:Prop}(h0:0<=n)(h1:n<=9223372036854775807)(h2:P.bytesOf (aE P t)*n<=281474976710656)(ht:bh P t=true):
 aU P F m nx β w { pre:=pre,val:=.rs nx 0 n.toNat,a7:=[(nx,some (.cells (dM n.toNat (bq P (aE P t))) (aE P t)))],new:=1 } (do Pure.pure (Next.value (<- Instr.makeSlice t (.int .i64 n) (.int .i64 n)))):=by
 obtain⟨hu,he⟩:=jD ht;obtain⟨i,d,z,hi,hd,hz,_,kU,O,bS,lK,h4⟩:=sG he;have tI:(zeroValue (aE P t)).run P w=.ok z w:=by simp[zeroValue,typeInfo,hi,hz]
 have C:=Mo (F:=F) (β:=β) (w:=w) (P:=P) kU O h4 n.toNat (n.toNat*P.cellsOf (aE P t)) rfl (if n.toNat*P.cellsOf (aE P t)=0 then #[] else z.cells) (fun h=>by rw[if_neg oG]);generalize hc:((Array.range (n.toNat*P.cellsOf (aE P t))).map ((if n.toNat*P.cellsOf (aE P t)=0 then #[] else z.cells)[· % (if n.toNat*P.cellsOf (aE P t)=0 then #[] else z.cells).size]!))=c at C;obtain⟨U,X⟩:=Ea hm hn (cs:=dM n.toNat (bq P (aE P t))) (c:=c.toList) (e:=aE P t) C.1 C.2 [];simp only[List.append_nil,Array.toArray_toList,List.length_nil,Nat.add_zero] at U X
 have ss:(if n.toNat*P.cellsOf (aE P t)=0 then Result.ok #[] w else Result.ok z.cells w)=.ok (if n.toNat*P.cellsOf (aE P t)=0 then #[] else z.cells) w:=by
  split<;>rfl
 have J:IntKind.i64.wrap n=n:=Go.IntWalk.i64_in n ⟨oG,h1⟩;have OI:¬ n<0:=by omega
 have M:¬ (P.bytesOf (aE P t):Int)*n>2 ^ 48:=by omega
 have dX:(Instr.makeSlice t (.int .i64 n) (.int .i64 n)).run P w=.ok (.slice (some ⟨w.heap.size,0,none⟩) n.toNat n.toNat) (w.alloc (.cells c (aE P t))):=by
  unfold Instr.makeSlice
  simp only[Sem.run_bind,run_underlying hu,Result.andThen_ok,asInt,asIntOf,Sem.run_pure,typeInfo,run_program,hi,J,lK,OI,M,decide_false,Bool.or_false,Bool.false_or,Bool.false_eq_true,if_false,Sem.run_ite,run_askRoom,gJ w (ia he),
   show ¬ n>n from by omega]
  by_cases vw:n.toNat*P.cellsOf (aE P t)=0
  .simp only[vw,↓reduceIte] at hc ⊢;simp only[Sem.run_bind,Sem.run_pure,Result.andThen_ok,hc];simp[newRow]
  .simp only[vw,↓reduceIte] at hc ⊢;simp only[Sem.run_bind,Sem.run_pure,tI,Result.andThen_ok,hc];simp[newRow]
 have hlen:(dM n.toNat (bq P (aE P t))).length=n.toNat*P.cellsOf (aE P t):=by rw[DF,O];simp[kU]
 refine⟨_,_,_,_,by simp only[Sem.run_bind,dX,Result.andThen_ok,Sem.run_pure];rfl,.inl rfl,?_,U,X,xI⟩;exact .rs nx 0 n.toNat n.toNat w.heap.size 0 _ _ _ (an _ _ _) (bM _) (by simp only[maxLen];omega) oG oG
end
section
variable{P:Program}{F:Nat->Prop}{m:Mem}{nx:Nat}{β:aJ}{w:World}
theorem aU.val(hm:aL P F m β w){pre:Prop}{d:D}{rd:List Nat}{s:Sem Next}{v:Value}(hr:s.run P w=.ok (.value v) w)(h:R F β w d v):aU P F m nx β w { pre:=pre,val:=d,rd:=rd } s:=
 ⟨.value v,v,w,β,hr,.inl rfl,h,hm,Step.refl β w,fun _ h _=>h⟩
theorem vE(op:BinOp)(t:TypeId)(x y:Operand)(a b:Value)(h1:∀ u,a≠ .agg u)(h2:a≠ .nilIface):(eqGuard op t x y a b).run P w=.ok () w:=by
 unfold eqGuard;generalize (!(op matches .eql | .neq))=c;cases c
 .cases a<;>first|rfl|exact absurd rfl h2|exact absurd rfl (h1 _)
 .rfl
theorem Lt{t:TypeId}{x y:Value}{b:Bool}(h:∀ d,(Op.equalIn (d+1) t x y).run P w=.ok b w):(Op.equal t x y).run P w=.ok b w:=h 9999
theorem LU{t:TypeId}{x y:Value}{b:Bool}(h:(Op.equal t x y).run P w=.ok b w):
 (do pure (Value.bool (<- Op.equal t x y)):Sem Value).run P w=.ok (.bool b) w/\(do pure (Value.bool (!(<- Op.equal t x y))):Sem Value).run P w=.ok (.bool !b) w:=by
 constructor<;>simp only[Sem.run_bind,h,Result.andThen_ok,Sem.run_pure]
theorem aea(op:BinOp)(t:TypeId)(x y v:Value)(p:Prop)(h:oY op x y=some (p,v))(hp:p):(binOp op t x y).run P w=.ok v w:=by
 cases x<;>cases y<;>cases op<;>simp only[oY,aV,cN,reduceCtorEq] at h<;>
  (obtain⟨rfl,rfl⟩:=h)<;>
  first
  |(subst hp;simp[binOp,Op.intArith,Op.intCmp,Op.intBits,mn];done)
  |(obtain⟨rfl,hb⟩:=hp;simp[binOp,Op.intDiv,hb];done)
  |(simp[binOp,Op.shift,show ¬ _<(0:Int) from Int.not_lt.2 hp];done)
  |(simp[binOp,Op.stringOp];done)
theorem abe{op:BinOp}{x y v:Value}{p:Prop}(h:oY op x y=some (p,v)):plain v=true/\(∀ u,x≠ .agg u)/\x≠ .nilIface:=by
 cases x<;>cases y<;>cases op<;>simp only[oY,aV,cN,reduceCtorEq] at h<;>(obtain⟨rfl,rfl⟩:=h)<;>simp[plain]
theorem aeb(hm:aL P F m β w)(op:BinOp)(t:TypeId)(ox oy:Operand){a b x y v:Value}{p pre:Prop}(hx:R F β w (.s a) x)(hy:R F β w (.s b) y)(h:oY op a b=some (p,v))(hp:p):
 aU P F m nx β w { pre:=pre,val:=.s v } ((do eqGuard op t ox oy x y;binOp op t x y)>>=fun r=>Pure.pure (Next.value r)):=by
 obtain⟨rfl,_⟩:=hx.cI;obtain⟨rfl,_⟩:=hy.cI;obtain⟨h1,h2,C⟩:=abe h;refine aU.val hm (v:=v) ?_ (.s v h1);simp only[Sem.run_bind,vE op t ox oy x y h2 C,Result.andThen_ok,aea op t x y v p h hp,Sem.run_pure]
theorem aec{t:TypeId}(h:vr P t=true):P.underlying t=some .bool:=by
 unfold vr at h;split at h
 .assumption
 .cases h
theorem aed{t:TypeId}(h:AD P t=true):∃ e,P.underlying t=some (.pointer e):=by
 unfold AD at h;split at h
 .exact⟨_,‹_›⟩
 .cases h
theorem Rv{t:TypeId}(h:vr P t=true)(a b:Bool):(binOp .eql t (.bool a) (.bool b)).run P w=.ok (.bool (a==b)) w/\(binOp .neq t (.bool a) (.bool b)).run P w=.ok (.bool !(a==b)) w:=by
 have hu:=aec h;exact LU (Lt fun d=>by simp[Op.equalIn,run_underlying hu])
theorem RT{t:TypeId}(h:AD P t=true)(a:Addr):(binOp .eql t (.pointer (some a)) (.pointer none)).run P w=.ok (.bool false) w/\(binOp .neq t (.pointer (some a)) (.pointer none)).run P w=.ok (.bool true) w:=by
 obtain⟨e,hu⟩:=aed h;exact LU (Lt fun d=>by simp[Op.equalIn,run_underlying hu])
theorem Rw{t:TypeId}(h:bh P t=true)(a:Option Addr)(l c:Nat):(binOp .eql t (.slice a l c) (.slice none 0 0)).run P w=.ok (.bool a.isNone) w/\(binOp .neq t (.slice a l c) (.slice none 0 0)).run P w=.ok (.bool !a.isNone) w:=by
 obtain⟨hu,_⟩:=jD h;exact LU (Lt fun d=>by cases a<;>simp[Op.equalIn,run_underlying hu])
theorem abf{t:TypeId}(h:bh P t=true)(a:Option Addr)(l c:Nat):(binOp .eql t (.slice a l c) (.slice none 0 0)).run P w=.ok (.bool a.isNone) w:=(Rw h a l c).1
theorem Sm(hm:aL P F m β w){op:BinOp}{b:Bool}{t:TypeId}{ox oy:Operand}{a:Option Addr}{l c:Nat}{pre:Prop}{rd:List Nat}(ht:bh P t=true)(h:op=if b then .eql else .neq):
 aU P F m nx β w { pre:=pre,val:=.s (.bool (a.isNone==b)),rd:=rd } ((do eqGuard op t ox oy (.slice a l c) (.slice none 0 0);binOp op t (.slice a l c) (.slice none 0 0))>>=fun r=>Pure.pure (Next.value r)):=by
 obtain⟨h1,h2⟩:=Rw (P:=P) (w:=w) ht a l c;refine aU.val hm (v:=.bool (a.isNone==b)) ?_ (.s _ rfl);simp only[Sem.run_bind,vE op t ox oy (.slice a l c) _ oS oS,Result.andThen_ok];cases b with
 |true=>simp only[if_true] at h;subst h;rw[h1];cases a<;>rfl
 |false=>simp only[Bool.false_eq_true,if_false] at h;subst h;rw[h2];cases a<;>rfl
theorem Rx(hm:aL P F m β w)(op:BinOp)(t:TypeId)(ox oy:Operand){a b:Bool}{x y:Value}{d:D}{pre:Prop}(hx:R F β w (.s (.bool a)) x)(hy:R F β w (.s (.bool b)) y)(ht:vr P t=true)
 (h:(op=.eql/\d=.s (.bool (a==b)))\/(op=.neq/\d=.s (.bool !(a==b)))):
 aU P F m nx β w { pre:=pre,val:=d } ((do eqGuard op t ox oy x y;binOp op t x y)>>=fun r=>Pure.pure (Next.value r)):=by
 obtain⟨rfl,_⟩:=hx.cI;obtain⟨rfl,_⟩:=hy.cI;rcases h with⟨rfl,rfl⟩|⟨rfl,rfl⟩
 .refine aU.val hm (v:=.bool (a==b)) ?_ (.s _ rfl);simp only[Sem.run_bind,vE _ t ox oy (.bool a) _ oS oS,Result.andThen_ok,(Rv ht a b).1,Sem.run_pure]
 .refine aU.val hm (v:=.bool !(a==b)) ?_ (.s _ rfl);simp only[Sem.run_bind,vE _ t ox oy (.bool a) _ oS oS,Result.andThen_ok,(Rv ht a b).2,Sem.run_pure]
theorem R.ahl{i off:Nat}{v:Value}(h:R F β w (.rp i off) v)(hl:β i≠some .dead):∃ a,v=.pointer (some a):=by
 cases h with
 |tw _ _ _ h _=>exact absurd h hl
 |rp=>exact⟨_,rfl⟩
theorem RU(hm:aL P F m β w)(op:BinOp)(t:TypeId)(ox oy:Operand){i off:Nat}{x y:Value}{d:D}{pre:Prop}{rd:List Nat}{r:Row}(hx:R F β w (.rp i off) x)(hi:m i=some r)(hy:R F β w (.s (.pointer none)) y)(ht:AD P t=true)
 (h:(op=.eql/\d=.s (.bool false))\/(op=.neq/\d=.s (.bool true))):
 aU P F m nx β w { pre:=pre,val:=d,rd:=rd } ((do eqGuard op t ox oy x y;binOp op t x y)>>=fun r=>Pure.pure (Next.value r)):=by
 obtain⟨p,hp,aA⟩:=hm.row i _ hi;obtain⟨a,rfl⟩:=hx.ahl (fun e=>by rw[e] at hp;cases hp;exact aA.live rfl);obtain⟨rfl,_⟩:=hy.cI;rcases h with⟨rfl,rfl⟩|⟨rfl,rfl⟩
 .refine aU.val hm (v:=.bool false) ?_ (.s _ rfl);simp only[Sem.run_bind,vE _ t ox oy (.pointer (some a)) _ oS oS,Result.andThen_ok,(RT ht a).1,Sem.run_pure]
 .refine aU.val hm (v:=.bool true) ?_ (.s _ rfl);simp only[Sem.run_bind,vE _ t ox oy (.pointer (some a)) _ oS oS,Result.andThen_ok,(RT ht a).2,Sem.run_pure]
theorem abg(hm:aL P F m β w)(t:TypeId)(ox oy:Operand){es:List D}{n:Nat}{x:Value}{pre:Prop}(hx:R F β w (.sl es n) x)(ht:bh P t=true):
 aU P F m nx β w { pre:=pre,val:=if n=0 then .ub else .s (.bool false) } ((do eqGuard .eql t ox oy x (.slice none 0 0);binOp .eql t x (.slice none 0 0))>>=fun r=>Pure.pure (Next.value r)):=by
 have C:=fun a l c=>abf (P:=P) (w:=w) ht a l c;cases hx with
 |jy a cap=>
  refine aU.val hm (v:=.bool a.isNone) ?_ (by simpa using R.ub _);simp only[Sem.run_bind,vE _ t ox oy (.slice a 0 cap) _ oS oS,Result.andThen_ok,C,Sem.run_pure]
 |sl _ _ b o cap us h1 h2 J M O U X=>
  refine aU.val hm (v:=.bool false) ?_ ?_
  .simp only[Sem.run_bind,vE _ t ox oy (.slice (some ⟨b,o,none⟩) n cap) _ oS oS,Result.andThen_ok,C,Sem.run_pure];rfl
  .split
   .exact .ub _
   .exact .s _ rfl
theorem af3(hm:aL P F m β w)(op:UnOp){a x v:Value}{pre:Prop}(hx:R F β w (.s a) x)(h:AE op a=some v):
 aU P F m nx β w { pre:=pre,val:=.s v } (do Pure.pure (Next.value (<- Op.unary op x))):=by
 obtain⟨rfl,_⟩:=hx.cI
 have:(Op.unary op x).run P w=.ok v w/\plain v=true:=by
  cases x<;>cases op<;>simp only[AE,aV,reduceCtorEq] at h<;>subst h<;>simp[Op.unary,Op.intArith,Op.intBits,mn,plain]
 exact aU.val hm (by simp[this.1]) (.s _ this.2)
theorem aaq(hm:aL P F m β w)(src dst:TypeId){k k':IntKind}{n:Int}{x:Value}{pre:Prop}(hx:R F β w (.s (.int k' n)) x)(hd:P.underlying dst=some (.int k))(hs:(P.underlying src).isSome=true):
 aU P F m nx β w { pre:=pre,val:=.s (.int k (k.wrap n)) } (do Pure.pure (Next.value (<- convert src dst x))):=by
 obtain⟨rfl,_⟩:=hx.cI;obtain⟨d,hs⟩:=Option.isSome_iff_exists.1 hs;refine aU.val hm (v:=.int k (k.wrap n)) ?_ (.s _ rfl);cases d<;>simp[convert,run_underlying hd,run_underlying hs,Conv.intToInt]
theorem RV{t:TypeId}(h:0<P.cellsOf t):(P.info? t).isSome=true:=by
 cases hi:P.info? t with
 |none=>simp[Program.cellsOf,hi] at h
 |some i=>rfl
theorem Z0(hm:aL P F m β w){t:TypeId}{cs:List D}{x:Value}{k off:Nat}{C:TypeId}{pre:Prop}(hx:R F β w (.pt cs) x)(hf:cL P t k=some (off,C))(h0:0<P.cellsOf C):
 aU P F m nx β w { pre:=pre,val:=.pt (cs.drop off) } (do Pure.pure (Next.value (<- Instr.fieldAt t x k))):=by
 obtain⟨b,o,rfl,h1,h2,M,J⟩:=hx.Iw;unfold cL at hf;split at hf
 .rename_i fs hu;cases hk:fs[k]? with
  |none=>simp[hk] at hf
  |some f=>
   simp[hk] at hf;obtain⟨rfl,rfl⟩:=hf;refine aU.val hm (v:=.pointer (some ⟨b,o+f.offset,none⟩)) ?_ (R.Wz h1 h2 M (J.drop _));simp[Instr.fieldAt,run_underlying hu,hk,Instr.sureAddr,fieldPlace,gJ w (RV h0),Nat.ne_of_gt h0,Addr.add_lit]
 .cases hf
end
section
variable{P:Program}{F:Nat->Prop}{m:Mem}{nx:Nat}{β:aJ}{w:World}
theorem R.MW{i off:Nat}{v:Value}(h:R F β w (.rp i off) v){r:Row}{p:Pl}(hp:β i=some p)(aA:c7 P F β w r p):
 ∃ b o len room sz,β i=some (.cells b o len room sz)/\v=.pointer (some ⟨b,o+off,none⟩):=by
 cases h with
 |tw _ _ _ h _=>rw[h] at hp;cases hp;exact absurd rfl aA.live
 |rp _ _ b o len room sz h=>exact⟨b,o,len,room,sz,h,rfl⟩
theorem Z1(hm:aL P F m β w){t:TypeId}{i o:Nat}{x:Value}{k off:Nat}{C:TypeId}{pre:Prop}{rd:List Nat}{r:Row}(hx:R F β w (.rp i o) x)(hi:m i=some r)(hf:cL P t k=some (off,C))(h0:0<P.cellsOf C):
 aU P F m nx β w { pre:=pre,val:=.rp i (o+off),rd:=rd } (do Pure.pure (Next.value (<- Instr.fieldAt t x k))):=by
 obtain⟨p,hp,aA⟩:=hm.row i _ hi;obtain⟨b,bo,len,room,sz,J,rfl⟩:=hx.MW hp aA;unfold cL at hf;split at hf
 .rename_i fs hu;cases hk:fs[k]? with
  |none=>simp[hk] at hf
  |some f=>
   simp[hk] at hf;obtain⟨rfl,rfl⟩:=hf;refine aU.val hm (v:=.pointer (some ⟨b,bo+(o+f.offset),none⟩)) ?_ (.rp i (o+f.offset) b bo len room sz J);simp[Instr.fieldAt,run_underlying hu,hk,Instr.sureAddr,fieldPlace,gJ w (RV h0),Nat.ne_of_gt h0,Addr.add_lit,Nat.add_assoc]
 .cases hf
theorem Tq{t:TypeId}(ht:aO P t=true){cs:List D}{vs:List Value}{off:Nat}(hl:vs.length=cs.length)(h:∀ (k:Nat) (d:D) (u:Value),cs[k]? =some d->vs[k]? =some u->R F β w d u)(M:off+P.cellsOf t<=cs.length):
 ∃ v,(part t vs.toArray off).run P w=.ok v w/\R F β w (kH P t (cs.drop off)) v:=by
 obtain⟨i,d,z,hi,hd,hz,J,_⟩:=sG ht;unfold part kH;simp only[Sem.run_bind,DL w (Bm ht),Result.andThen_ok];cases ha:bI P t with
 |true=>
  refine⟨.agg ((vs.drop off).take (P.cellsOf t)).toArray,?_,?_⟩
  .simp[gJ w (ia ht)]
  .refine .agg _ _ oP fun k d v hk hv=>?_;rw[List.getElem?_take] at hk hv;split at hk
   .rename_i al;rw[if_pos al] at hv;rw[List.getElem?_drop] at hk hv;exact h _ d v hk hv
   .cases hk
 |false=>
  have:=J ha;have al:off<vs.length:=by omega
  refine⟨vs[off],by simp[al],?_⟩;have C:off<cs.length:=by omega
  have e:(cs.drop off).headD .u=cs[off]:=by simp[List.headD_eq_head?_getD,List.head?_drop,C]
  simp only[Bool.false_eq_true,if_false,e];exact h off _ _ (by simp[C]) (by simp[al])
theorem acq(hm:aL P F m β w){t:TypeId}{cs:List D}{x:Value}{k off:Nat}{C:TypeId}{pre:Prop}(hx:R F β w (.agg cs) x)(hf:cL P t k=some (off,C))(ht:aO P C=true)(J:off+P.cellsOf C<=cs.length):
 aU P F m nx β w { pre:=pre,val:=kH P C (cs.drop off) } (do Pure.pure (Next.value (<- Instr.field t x k))):=by
 obtain⟨vs,rfl,hl,h⟩:=hx.sM;obtain⟨v,hr,hR⟩:=Tq (P:=P) ht hl h J;unfold cL at hf;split at hf
 .rename_i fs hu;cases hk:fs[k]? with
  |none=>simp[hk] at hf
  |some f=>
   simp[hk] at hf;obtain⟨rfl,rfl⟩:=hf;exact aU.val hm (v:=v) (by simp[Instr.field,run_underlying hu,hk,asAgg,hr]) hR
 .cases hf
theorem aaL(hm:aL P F m β w){cs:List D}{x:Value}{k:Nat}{pre:Prop}(hx:R F β w (.bd cs) x)(hk:k<cs.length):
 aU P F m nx β w { pre:=pre,val:=cs.getD k .u } (do Pure.pure (Next.value (<- Instr.extract x k))):=by
 obtain⟨vs,rfl,hl,h⟩:=hx.Bt;have C:k<vs.length:=by omega
 refine aU.val hm (v:=vs[k]) (by simp[Instr.extract,C]) ?_;have e:cs.getD k .u=cs[k]:=by simp[eh,hk]
 rw[e];exact h k _ _ (by simp[hk]) (by simp[C])
theorem R.wc{es:List D}{n:Nat}{v:Value}(h:R F β w (.sl es n) v):(es=[]/\n=0/\∃ a cap,v=.slice a 0 cap)\/
 ∃ b o cap,v=.slice (some ⟨b,o,none⟩) n cap/\n<=cap/\cap<=maxLen/\¬ F b/\β.free b/\b<w.heap.size/\Rd F β w b o es:=by
 cases h with
 |jy a cap=>exact .inl ⟨rfl,rfl,a,cap,rfl⟩
 |sl _ _ b o cap us h1 h2 C J M O U=>exact .inr ⟨b,o,cap,rfl,J,M,h1,h2,C,us,O,U⟩
theorem Z2(hm:aL P F m β w){t:TypeId}{es:List D}{n:Nat}{x y:Value}{U:IntKind}{k:Int}{pre:Prop}(hx:R F β w (.sl es n) x)(hy:R F β w (.s (.int U k)) y)(ht:bh P t=true)(h0:0<=k)(h1:k<n):
 aU P F m nx β w { pre:=pre,val:=.pt (es.drop (k.toNat*P.cellsOf (aE P t))) } (do Pure.pure (Next.value (<- Instr.indexAt t x y))):=by
 obtain⟨hu,he⟩:=jD ht;obtain⟨rfl,_⟩:=hy.cI;rcases hx.wc with⟨_,rfl,_⟩|⟨b,o,cap,rfl,h2,X,J,M,O,C⟩
 .omega
 .refine aU.val hm (v:=.pointer (some ⟨b,o+k.toNat*P.cellsOf (aE P t),none⟩)) ?_ (R.Wz J M O (C.drop _));simp[Instr.indexAt,asIntOf,run_underlying hu,h0,h1,gJ w (ia he),Addr.add_lit]
theorem R.xU{i off n:Nat}{v:Value}(h:R F β w (.rs i off n) v){cs:List D}{e:TypeId}(hm:aL P F m β w)(hi:m i=some (.cells cs e)):
 (cs=[]/\off=0/\n=0/\β i=some .nil/\∃ a,v=.slice a 0 0)\/
 ∃ b o room,β i=some (.cells b o cs.length room (P.cellsOf e))/\c7 P F β w (.cells cs e) (.cells b o cs.length room (P.cellsOf e))/\
  ((n=0/\∃ a,v=.slice a 0 0)\/∃ cap,v=.slice (some ⟨b,o+off,none⟩) n cap/\n<=cap/\cap<=maxLen/\cs.length<=off+cap*P.cellsOf e/\off+cap*P.cellsOf e<=room):=by
 obtain⟨p,hp,aA⟩:=hm.row i _ hi;cases h with
 |l9 _ _ _ _ h _=>rw[h] at hp;cases hp;cases aA
 |jO _ a h=>
  rw[h] at hp;cases hp;cases aA;exact .inl ⟨rfl,rfl,rfl,h,a,rfl⟩
 |kO _ _ a b o len room sz h=>
  rw[h] at hp;cases hp;obtain⟨_,h2,C,_⟩:=aA.rd;subst h2;subst C;exact .inr ⟨b,o,room,h,aA,.inl ⟨rfl,a,rfl⟩⟩
 |rs _ _ _ cap b o len room sz h hn dO h1 h2=>
  rw[h] at hp;cases hp;obtain⟨_,C,J,_⟩:=aA.rd;subst C;subst J;exact .inr ⟨b,o,room,h,aA,.inr ⟨cap,rfl,hn,dO,h1,h2⟩⟩
theorem R.aee{i off n:Nat}{v:Value}(h:R F β w (.rs i off n) v)(hl:∃ p,β i=some p/\p≠ .dead):∃ a cap,v=.slice a n cap:=by
 cases h with
 |l9 _ _ _ _ h _=>obtain⟨p,h1,h2⟩:=hl;rw[h] at h1;cases h1;exact absurd rfl h2
 |jO _ a h=>exact⟨a,0,rfl⟩
 |kO _ _ a=>exact⟨a,0,rfl⟩
 |rs=>exact⟨_,_,rfl⟩
theorem Ts{r:Row}{p:Pl}(h:c7 P F β w r p):p≠ .dead:=h.live
theorem Z3(hm:aL P F m β w){t:TypeId}{i off n:Nat}{x y:Value}{C:IntKind}{k:Int}{pre:Prop}{rd:List Nat}{r:Row}(hx:R F β w (.rs i off n) x)(hi:m i=some r)(hy:R F β w (.s (.int C k)) y)(ht:bh P t=true)(h0:0<=k)(h1:k<n):
 aU P F m nx β w { pre:=pre,val:=.rp i (off+k.toNat*P.cellsOf (aE P t)),rd:=rd } (do Pure.pure (Next.value (<- Instr.indexAt t x y))):=by
 obtain⟨hu,he⟩:=jD ht;obtain⟨rfl,_⟩:=hy.cI;obtain⟨p,hp,aA⟩:=hm.row i _ hi;cases hx with
 |l9 _ _ _ _ h _=>rw[h] at hp;cases hp;exact absurd rfl (Ts aA)
 |jO _ a h=>omega
 |kO _ _ a b o len room sz h=>omega
 |rs _ _ _ cap b o len room sz h hn dO J M=>
  refine aU.val hm (v:=.pointer (some ⟨b,o+(off+k.toNat*P.cellsOf (aE P t)),none⟩)) ?_ (.rp i _ b o len room sz h);simp[Instr.indexAt,asIntOf,run_underlying hu,h0,h1,gJ w (ia he),Addr.add_lit,Nat.add_assoc]
theorem ZY(hm:aL P F m β w){t:TypeId}{i off:Nat}{x y:Value}{J:IntKind}{k:Int}{pre:Prop}{rd:List Nat}{r:Row}(hx:R F β w (.rp i off) x)(hi:m i=some r)(hy:R F β w (.s (.int J k)) y)(ht:o9 P t=true)(h0:0<=k)(h1:k<pU P t):
 aU P F m nx β w { pre:=pre,val:=.rp i (off+k.toNat*P.cellsOf (aE P t)),rd:=rd } (do Pure.pure (Next.value (<- Instr.indexAt t x y))):=by
 obtain⟨hu,he⟩:=LS ht;obtain⟨rfl,_⟩:=hy.cI;obtain⟨p,hp,aA⟩:=hm.row i _ hi;obtain⟨b,bo,len,room,sz,C,rfl⟩:=hx.MW hp aA;refine aU.val hm (v:=.pointer (some ⟨b,bo+(off+k.toNat*P.cellsOf (aE P t)),none⟩)) ?_ (.rp i _ b bo len room sz C);simp[Instr.indexAt,asIntOf,run_underlying hu,h0,h1,gJ w (ia he),Addr.add_lit,Nat.add_assoc,Instr.sureAddr]
theorem aah(hm:aL P F m β w){t:TypeId}{b:ByteArray}{x y:Value}{J:IntKind}{k:Int}{pre:Prop}(hx:R F β w (.s (.string b)) x)(hy:R F β w (.s (.int J k)) y)(ht:fA P t=true)(h0:0<=k)(h1:k<b.size):
 aU P F m nx β w { pre:=pre,val:=.s (.int .u8 (b.data.toList.getD k.toNat 0).toNat) } (do Pure.pure (Next.value (<- Instr.index t x y))):=by
 have hu:=xH ht;obtain⟨rfl,_⟩:=hy.cI;obtain⟨rfl,_⟩:=hx.cI;have hk:k.toNat<b.size:=by omega
 have M:k.toNat<b.data.size:=hk;refine aU.val hm (v:=.int .u8 (b.data.toList.getD k.toNat 0).toNat) ?_ (.s _ rfl)
 have e:b[k.toNat]? =some (b.data.toList.getD k.toNat 0):=by
  have C:b[k.toNat]? =some b[k.toNat]:=getElem?_pos b k.toNat hk;rw[C];congr 1;show b.data[k.toNat]=_;rw[eh,Array.getElem?_toList,Array.getElem?_eq_getElem M];rfl
 simp only[Instr.index,Sem.run_bind,asIntOf,Sem.run_pure,Result.andThen_ok,run_underlying hu,h0,if_true,e]
theorem aai(hm:aL P F m β w){t:TypeId}{cs:List D}{x y:Value}{C:IntKind}{k:Int}{pre:Prop}(hx:R F β w (.agg cs) x)(hy:R F β w (.s (.int C k)) y)(ht:o9 P t=true)(h0:0<=k)(h1:k<pU P t)
 (nD:(k.toNat+1)*P.cellsOf (aE P t)<=cs.length):
 aU P F m nx β w { pre:=pre,val:=kH P (aE P t) (cs.drop (k.toNat*P.cellsOf (aE P t))) } (do Pure.pure (Next.value (<- Instr.index t x y))):=by
 obtain⟨hu,he⟩:=LS ht;obtain⟨rfl,_⟩:=hy.cI;obtain⟨vs,rfl,hl,h⟩:=hx.sM;obtain⟨v,hr,hR⟩:=Tq (P:=P) he hl h (off:=k.toNat*P.cellsOf (aE P t)) (by rw[Nat.add_mul] at nD;omega);exact aU.val hm (v:=v) (by simp[Instr.index,asIntOf,run_underlying hu,h0,h1,gJ w (ia he),hr]) hR
theorem aar(hm:aL P F m β w)(f:Fn){fs cs:List D}{us vs:List Value}{pre:Prop}(hl:us.length=fs.length)(nD:vs.length=cs.length)(h:∀ (k:Nat) (d:D) (v:Value),fs[k]? =some d->us[k]? =some v->R F β w d v)
 (h':∀ (k:Nat) (d:D) (v:Value),cs[k]? =some d->vs[k]? =some v->R F β w d v):
 aU P F m nx β w { pre:=pre,val:=.fn f fs cs } (do Pure.pure (Next.value (<- Instr.makeFunc f us.toArray vs.toArray))):=
 aU.val hm (v:=.func f us.toArray vs.toArray) (by simp[Instr.makeFunc]) (.fn f fs cs us vs hl nD h h')
theorem zo(b:Int)(C:IntKind)(y:Nat)(code:BoundsCode)(h0:0<=b)(h1:b<=y):(Instr.sliceBound (.int C b) y code).run P w=.ok b.toNat w:=by
 simp[Instr.sliceBound,asIntOf,h0,h1]
theorem zr(isSlice:Bool)(len cap:Nat){lo hi:Option Value}{l h:Int}(jB:(lo=none/\l=0)\/∃ C,lo=some (.int C l))(nE:(hi=none/\h=len)\/∃ C,hi=some (.int C h))(h0:0<=l)(h1:l<=h)(h2:h<=cap):
 (Instr.sliceBounds isSlice len cap lo hi none).run P w=.ok (l.toNat,h.toNat,cap) w:=by
 unfold Instr.sliceBounds;simp only[Sem.run_bind,Sem.run_pure,Result.andThen_ok];rcases nE with⟨rfl,rfl⟩|⟨C,rfl⟩<;>rcases jB with⟨rfl,rfl⟩|⟨kl,rfl⟩
 .simp
 .simp[zo (P:=P) (w:=w) l kl len _ h0 oG]
 .simp[zo (P:=P) (w:=w) h C cap _ oG oG]
 .have:=zo (P:=P) (w:=w) h C cap (if isSlice then .sliceAcap else .sliceAlen) oG oG;simp[this,zo (P:=P) (w:=w) l kl h.toNat _ h0 oG]
theorem xE(len cap:Nat){lo:Option Value}{kh km:IntKind}{l h k:Int}(jB:(lo=none/\l=0)\/∃ M,lo=some (.int M l))(h0:0<=l)(h1:l<=h)(h2:h<=k)(J:k<=cap):
 (Instr.sliceBounds true len cap lo (some (.int kh h)) (some (.int km k))).run P w=.ok (l.toNat,h.toNat,k.toNat) w:=by
 unfold Instr.sliceBounds;have C:=zo (P:=P) (w:=w) k km cap .slice3Acap oG J;have e2:=zo (P:=P) (w:=w) h kh k.toNat .slice3B oG oG;simp only[Sem.run_bind,C,e2,Result.andThen_ok,if_true];rcases jB with⟨rfl,rfl⟩|⟨O,rfl⟩
 .simp
 .simp[zo (P:=P) (w:=w) l O h.toNat _ h0 oG]
theorem D.Up{d:D}{b:Int}(h:d.int? =some b):∃ C,d=.s (.int C b):=by
 unfold D.int? at h;split at h
 .cases h;exact⟨_,rfl⟩
 .cases h
def Ro(F:Nat->Prop)(β:aJ)(w:World)(d:Option D)(v:Option Value):Prop:=
 (d=none/\v=none)\/∃ q u,d=some q/\v=some u/\R F β w q u
theorem Ro.su{d:Option D}{v:Option Value}{C b:Int}(h:Ro F β w d v)(hb:fx d C=some b):(v=none/\b=C/\d=none)\/∃ J,v=some (.int J b)/\d.isSome=true:=by
 rcases h with⟨rfl,rfl⟩|⟨q,u,rfl,rfl,hR⟩
 .simp[fx] at hb;exact .inl ⟨rfl,hb.symm,rfl⟩
 .simp only[fx] at hb;obtain⟨J,rfl⟩:=D.Up hb;obtain⟨rfl,_⟩:=hR.cI;exact .inr ⟨_,rfl,rfl⟩
theorem pq{t e:TypeId}(hu:P.underlying t=some (.slice e))(v:Value)(lo hi C:Option Value):(Instr.sliceAt t v lo hi C).run P w=(Instr.slice t v lo hi C).run P w:=by
 simp[Instr.sliceAt,run_underlying hu]
theorem Tt{es:List D}{n l h sz:Nat}{a:Option Addr}{b o cap m':Nat}(h1:¬ F b)(h2:β.free b)(O:b<w.heap.size)(C:Rd F β w b o es)(U:l<=h)(hn:h<=n)(hm:h<=m')(pT:m'<=cap)(dO:cap<=maxLen)
 (ha:a=(if m'=l then some ⟨b,o,none⟩ else some ⟨b,o+l*sz,none⟩)):R F β w (.sl ((es.drop (l*sz)).take ((h - l)*sz)) (h - l)) (.slice a (h - l) (m' - l)):=by
 subst ha;by_cases X:m'=l
 .have:h=l:=by omega
  subst this;simp only[Nat.sub_self,Nat.zero_mul,List.take_zero];exact .jy _ _
 .rw[if_neg X];obtain⟨us,J,M⟩:=(C.drop (l*sz)).take ((h - l)*sz);exact .sl _ _ _ _ _ us h1 h2 O oG oG J M
theorem acr(hm:aL P F m β w){t:TypeId}{x:D}{v:Value}{lo hi mx:Option D}{zb X YW:Option Value}{e:dJ}(hx:R F β w x v)(jB:Ro F β w lo zb)(nE:Ro F β w hi X)(gH:Ro F β w mx YW)
 (hs:mz P m t x lo hi mx=some e) (hp:e.pre):e.a7=[]/\e.new=0/\aU P F m nx β w e (do Pure.pure (Next.value (<- Instr.sliceAt t v zb X YW))):=by
 cases x with
 |sl es n=>
  simp only[mz] at hs;cases J:fx lo 0 with
  |none=>simp[J] at hs
  |some l=>
  cases M:fx hi n with
  |none=>simp[J,M] at hs
  |some h=>
  have U:(zb=none/\l=0)\/∃ C,zb=some (.int C l):=by
   rcases jB.su J with⟨a,b,_⟩|⟨C,a,_⟩
   .exact .inl ⟨a,b⟩
   .exact .inr ⟨C,a⟩
  rcases gH with⟨rfl,rfl⟩|⟨q,u,rfl,rfl,hq⟩
  .simp only[J,M,aV] at hs;subst hs;obtain⟨ht,h0,h1,h2⟩:=hp;obtain⟨hu,he⟩:=jD ht
   have yE:(X=none/\h=(n:Int))\/∃ C,X=some (.int C h):=by
    rcases nE.su M with⟨a,b,_⟩|⟨C,a,_⟩
    .exact .inl ⟨a,b⟩
    .exact .inr ⟨C,a⟩
   refine⟨rfl,rfl,?_⟩;rcases hx.wc with⟨rfl,rfl,a,cap,rfl⟩|⟨b,o,cap,rfl,g1,g2,g3,g4,g5,bY⟩
   .have hb:=zr (P:=P) (w:=w) true 0 cap U (by simpa using yE) h0 h1 oG;have og:l=0:=by omega
    have w9:h=0:=by omega
    subst og;subst w9;refine aU.val hm (v:=.slice (if cap=0 then a else a.map (·.add (0*P.cellsOf (aE P t)))) 0 cap) ?_ (by simpa using R.jy _ _);simp[pq hu,Instr.slice,run_underlying hu,hb,gJ w (ia he)]
   .have hb:=zr (P:=P) (w:=w) true n cap U yE h0 h1 oG;refine aU.val hm (v:=.slice (if cap=l.toNat then some ⟨b,o,none⟩ else some ⟨b,o+l.toNat*P.cellsOf (aE P t),none⟩) (h.toNat - l.toNat) (cap - l.toNat)) ?_ ?_
    .simp[pq hu,Instr.slice,run_underlying hu,hb,gJ w (ia he),Addr.add_lit]
    .have:=Tt (F:=F) (β:=β) (w:=w) (es:=es) (n:=n) (l:=l.toNat) (h:=h.toNat) (sz:=P.cellsOf (aE P t)) (cap:=cap) (m':=cap) g3 g4 g5 bY oG oG oG (bM _) g2 rfl;rw[show(h - l).toNat=h.toNat - l.toNat from by omega];exact this
  .simp only[J,M] at hs;cases rj:q.int? with
   |none=>simp[rj] at hs
   |some k=>
   simp only[rj,aV] at hs;subst hs;obtain⟨ht,I0,h0,h1,h2,h3⟩:=hp;obtain⟨hu,he⟩:=jD ht;obtain⟨km,rfl⟩:=D.Up rj;obtain⟨rfl,_⟩:=hq.cI
   obtain⟨kh,rfl⟩:∃ C,X=some (.int C h):=by
    rcases nE.su M with⟨_,_,c⟩|⟨C,a,_⟩
    .rw[c] at I0;cases I0
    .exact⟨C,a⟩
   refine⟨rfl,rfl,?_⟩;rcases hx.wc with⟨rfl,rfl,a,cap,rfl⟩|⟨b,o,cap,rfl,g1,g2,g3,g4,g5,bY⟩
   .have hb:=xE (P:=P) (w:=w) 0 cap (kh:=kh) (km:=km) U h0 h1 h2 oG;have og:l=0:=by omega
    have w9:h=0:=by omega
    have y7:k=0:=by omega
    subst og;subst w9;subst y7;refine aU.val hm (v:=.slice a 0 0) ?_ (by simpa using R.jy _ _);simp[pq hu,Instr.slice,run_underlying hu,hb,gJ w (ia he)]
   .have hb:=xE (P:=P) (w:=w) n cap (kh:=kh) (km:=km) U h0 h1 h2 oG;refine aU.val hm (v:=.slice (if k.toNat=l.toNat then some ⟨b,o,none⟩ else some ⟨b,o+l.toNat*P.cellsOf (aE P t),none⟩) (h.toNat - l.toNat) (k.toNat - l.toNat)) ?_ ?_
    .simp[pq hu,Instr.slice,run_underlying hu,hb,gJ w (ia he),Addr.add_lit]
    .have:=Tt (F:=F) (β:=β) (w:=w) (es:=es) (n:=n) (l:=l.toNat) (h:=h.toNat) (sz:=P.cellsOf (aE P t)) (cap:=cap) (m':=k.toNat) g3 g4 g5 bY oG oG oG oG g2 rfl;rw[show(h - l).toNat=h.toNat - l.toNat from by omega];exact this
 |rs i off n=>
  simp only[mz] at hs;cases O:m i with
  |none=>simp[O] at hs
  |some r=>
  cases r with
  |map es=>simp[O] at hs
  |raw es=>simp[O] at hs
  |bs u x T=>simp[O] at hs
  |lp k=>simp[O] at hs
  |jz f r=>simp[O] at hs
  |cells cs ee=>
  cases J:fx lo 0 with
  |none=>simp[O,J] at hs
  |some l=>
  cases M:fx hi n with
  |none=>simp[O,J,M] at hs
  |some h=>
  rcases gH with⟨rfl,rfl⟩|⟨q,u,rfl,rfl,hq⟩
  .simp only[O,J,M,aV] at hs;subst hs;obtain⟨⟨ht,bS⟩,h0,h1,h2⟩:=hp;obtain⟨hu,he⟩:=jD ht
   have U:(zb=none/\l=0)\/∃ C,zb=some (.int C l):=by
    rcases jB.su J with⟨a,b,_⟩|⟨C,a,_⟩
    .exact .inl ⟨a,b⟩
    .exact .inr ⟨C,a⟩
   have yE:(X=none/\h=(n:Int))\/∃ C,X=some (.int C h):=by
    rcases nE.su M with⟨a,b,_⟩|⟨C,a,_⟩
    .exact .inl ⟨a,b⟩
    .exact .inr ⟨C,a⟩
   refine⟨rfl,rfl,?_⟩;rcases hx.xU hm O with⟨_,rfl,rfl,jK,a,rfl⟩|⟨b,o,room,hβ,aA,pN⟩
   .have hb:=zr (P:=P) (w:=w) true 0 0 U (by simpa using yE) h0 h1 oG;have og:l=0:=by omega
    have w9:h=0:=by omega
    subst og;subst w9;refine aU.val hm (v:=.slice a 0 0) ?_ (by simpa using R.jO i a jK);simp[pq hu,Instr.slice,run_underlying hu,hb,gJ w (ia he)]
   .rcases pN with⟨rfl,a,rfl⟩|⟨cap,rfl,g1,g2,g3,g4⟩
    .have hb:=zr (P:=P) (w:=w) true 0 0 U (by simpa using yE) h0 h1 oG;have og:l=0:=by omega
     have w9:h=0:=by omega
     subst og;subst w9;refine aU.val hm (v:=.slice a 0 0) ?_ (by simpa using R.kO i off a b o _ room _ hβ);simp[pq hu,Instr.slice,run_underlying hu,hb,gJ w (ia he)]
    .have hb:=zr (P:=P) (w:=w) true n cap U yE h0 h1 oG;refine aU.val hm (v:=.slice (if cap=l.toNat then some ⟨b,o+off,none⟩ else some ⟨b,o+off+l.toNat*P.cellsOf (aE P t),none⟩) (h.toNat - l.toNat) (cap - l.toNat)) ?_ ?_
     .simp[pq hu,Instr.slice,run_underlying hu,hb,gJ w (ia he),Addr.add_lit]
     .rw[show(h - l).toNat=h.toNat - l.toNat from by omega];by_cases dw:cap=l.toNat
      .have:h.toNat=l.toNat:=by omega
       rw[this,dw,Nat.sub_self];exact .kO i _ _ b o _ room _ hβ
      .rw[if_neg dw,Nat.add_assoc];have hmul:(cap - l.toNat)*P.cellsOf ee+l.toNat*P.cellsOf ee=cap*P.cellsOf ee:=by rw[<- Nat.add_mul];congr 1;omega
       exact .rs i _ _ _ b o _ room _ hβ oG oG (by rw[<- bS];omega) (by rw[<- bS];omega)
  .simp only[O,J,M,reduceCtorEq] at hs
 |s x=>
  cases x with
  |string b=>
   simp only[mz] at hs;cases J:fx lo 0 with
   |none=>simp[J] at hs
   |some l=>
   cases M:fx hi b.size with
   |none=>simp[J,M] at hs
   |some h=>
   rcases gH with⟨rfl,rfl⟩|⟨q,u,rfl,rfl,hq⟩
   .simp only[J,M,aV] at hs;subst hs;obtain⟨ht,h0,h1,h2⟩:=hp;have hu:=xH ht;obtain⟨rfl,_⟩:=hx.cI
    have U:(zb=none/\l=0)\/∃ C,zb=some (.int C l):=by
     rcases jB.su J with⟨a,b,_⟩|⟨C,a,_⟩
     .exact .inl ⟨a,b⟩
     .exact .inr ⟨C,a⟩
    have yE:(X=none/\h=(b.size:Int))\/∃ C,X=some (.int C h):=by
     rcases nE.su M with⟨a,b,_⟩|⟨C,a,_⟩
     .exact .inl ⟨a,b⟩
     .exact .inr ⟨C,a⟩
    have hb:=zr (P:=P) (w:=w) false b.size b.size U yE h0 h1 oG;refine⟨rfl,rfl,aU.val hm (v:=.string (b.extract l.toNat h.toNat)) ?_ (.s _ rfl)⟩;simp[Instr.sliceAt,Instr.slice,run_underlying hu,hb]
   .simp only[J,M,reduceCtorEq] at hs
  |_=>simp[mz] at hs
 |_=>simp[mz] at hs
end
section
variable{P:Program}{F:Nat->Prop}{m:Mem}{nx:Nat}{β:aJ}{w w':World}
theorem Bj(hs:w.heap.size<=w'.heap.size)(h:∀ b,b<w.heap.size->w'.heap[b]? =w.heap[b]?)(C:Out w w':=by first|exact⟨rfl,rfl⟩|assumption):Step β w β w':=
 ⟨hs,fun b hb hf=>⟨h b hb,hf⟩,fun _ _ hp=>.inl hp,C,fun _ r _ _=>Ht (h r)⟩
theorem aL.ext(hm:aL P F m β w)(hs:w.heap.size<=w'.heap.size)(h:∀ b,b<w.heap.size->w'.heap[b]? =w.heap[b]?)(J:Out w w':=by first|exact⟨rfl,rfl⟩|assumption):aL P F m β w':=
 ⟨fun i r hi=>by
  obtain⟨p,hp,aA⟩:=hm.row i r hi;exact⟨p,hp,aA.step (Bj hs h) fun b hb=>h b (hm.lt i p b hp hb)⟩,
  hm.inj,fun i p b hp hb=>Nat.lt_of_lt_of_le (hm.lt i p b hp hb) hs,hm.nf,hm.fb.next (fun b hb=>Nat.lt_of_lt_of_le (hm.fb.lt b hb) hs) (fun _ h=>h) fun t _ C=>h _ (hm.fb.lt _ C)⟩
theorem aL.drew(hm:aL P F m β w):aL P F m β w.drew:=hm.ext (bM _) (fun _ _=>rfl)
theorem Sp:Step β w β w.drew:=Bj (bM _) (fun _ _=>rfl)
theorem acs(hm:aL P F m β w){src dst e:TypeId}{b:ByteArray}{x:Value}{pre:Prop}(hx:R F β w (.s (.string b)) x)(hs:fA P src=true)(hd:P.underlying dst=some (.slice e))(he:P.underlying e=some (.int .u8))(dO:b.size<=maxLen):
 aU P F m nx β w { pre:=pre,val:=.sl (b.data.toList.map fun c=>.s (.int .u8 c.toNat)) b.size } (do Pure.pure (Next.value (<- convert src dst x))):=by
 obtain⟨rfl,_⟩:=hx.cI;have hu:=xH hs;generalize pT:(Question.appendCap b.size 0 e).cut (w.tape w.drawn (.appendCap b.size 0 e))=cap
 have M:b.size<=cap/\cap<=maxLen:=by
  have h1:=grownCap_ge w b.size 0 e;have h2:=grownCap_le_maxLen w b.size 0 e dO;unfold grownCap at h1 h2;rw[pT] at h1 h2;exact⟨h1,h2⟩
 generalize hc:b.data.map (fun c=>Value.int .u8 c.toNat)++Array.replicate (cap - b.size) (Value.int .u8 0)=cells
 have O:(convert src dst (.string b)).run P w=.ok (.slice (some ⟨w.heap.size,0,none⟩) b.size cap) ((w.drew.alloc (.cells cells e)).freeze ⟨w.heap.size,cells.size,none⟩ 1):=by
  simp only[convert,Sem.run_bind,run_underlying hu,run_underlying hd,run_underlying he,Result.andThen_ok];unfold Conv.stringToBytes;simp only[Sem.run_bind,run_choose,Question.forced,Bool.false_eq_true,if_false,Result.andThen_ok,pT,hc];simp only[newRow,Sem.run_bind,run_newObj,Result.andThen_ok,Sem.run_pure,markStringish];simp[World.shape?,freeze,Sem.run];rfl
 have X:((w.drew.alloc (.cells cells e)).freeze ⟨w.heap.size,cells.size,none⟩ 1).heap.size=w.heap.size+1:=by simp[World.freeze]
 have hold:∀ k,k<w.heap.size->((w.drew.alloc (.cells cells e)).freeze ⟨w.heap.size,cells.size,none⟩ 1).heap[k]? =w.heap[k]? :=fun k hk=>by
  simp only[World.freeze,Nat.one_ne_zero,if_false,Array.getElem?_modify,if_neg (show ¬ w.heap.size=k by omega)];exact heap_alloc_old w.drew _ hk
 have C:∀ k:Nat,((w.drew.alloc (.cells cells e)).freeze ⟨w.heap.size,cells.size,none⟩ 1).cell? ⟨w.heap.size,k,none⟩=cells[k]? :=fun k=>by
  have:=heap_alloc_new w.drew (.cells cells e);simp only[World.size_drew] at this;simp only[World.cell?,World.freeze,Nat.one_ne_zero,if_false,Array.getElem?_modify,if_true,this,Option.map_some,Option.isSome_none,Bool.false_eq_true]
 refine⟨_,_,_,β,by simp only[Sem.run_bind,O,Result.andThen_ok,Sem.run_pure];rfl,.inl rfl,?_,hm.ext oG hold,Bj oG hold,fun _ h _=>h⟩;have hlen:b.data.toList.length=b.size:=by simp
 refine .sl _ _ _ _ _ (fun k=>.int .u8 (b.data.toList.getD k 0).toNat) (fun U=>?_) (fun i p hp e=>?_) oG M.1 M.2 (fun k hk=>?_) (fun k d hk=>?_)
 .have:=hm.fb.lt _ U;omega
 .have:=hm.lt i p _ hp e;omega
 .rw[Nat.zero_add,C];simp at hk;refine⟨?_,rfl⟩;rw[<- hc,Array.getElem?_append_left (by simpa using hk)];simp[hk]
 .rw[List.getElem?_map] at hk;cases J:b.data.toList[k]? with
  |none=>simp[J] at hk
  |some c=>
   simp[J] at hk;subst hk;have:b.data.toList.getD k 0=c:=by simp only[eh,J,Option.getD_some]
   simp only[this];exact .s _ rfl
theorem af4(hm:aL P F m β w){ts:Array TypeId}{d:D}{x:Value}{e:dJ}{ty:TypeId}(M:ts.size≠0)(hx:R F β w d x)(h:mJ P m (ts.getD 0 0) d=some e)(hp:e.pre):
 e.a7=[]/\e.new=0/\aU P F m nx β w e (do Pure.pure (Next.value (<- Builtin.len_ ts ty #[x]))):=by
 obtain⟨t,C⟩:∃ t,ts[0]? =some t:=⟨ts[0]'oG,oS⟩
 have ht:ts.getD 0 0=t:=by simp[Array.getD_eq_getD_getElem?,C]
 rw[ht] at h
 have sl:∀ {a:Option Addr} {k c:Nat},bh P t=true->x=.slice a k c->(Builtin.len_ ts ty #[x]).run P w=.ok (.int .i64 k) w:=by
  rintro a k c hs rfl;simp[Builtin.len_,C,run_underlying (jD hs).1,goInt]
 cases d with
 |sl es n=>
  simp only[mJ,aV] at h;subst h;refine⟨rfl,rfl,aU.val hm (v:=.int .i64 n) ?_ (.s _ rfl)⟩;rcases hx.wc with⟨_,rfl,a,cap,hv⟩|⟨b,o,cap,hv,_⟩<;>simp only[Sem.run_bind,sl hp hv,Result.andThen_ok,Sem.run_pure]
 |z=>
  simp only[mJ,aV] at h;subst h;refine⟨rfl,rfl,aU.val hm (v:=.int .i64 0) ?_ (.s _ rfl)⟩;obtain⟨a,hv⟩:=hx.B2;simp only[Sem.run_bind,sl hp hv,Result.andThen_ok,Sem.run_pure];rfl
 |rs i off n=>
  simp only[mJ] at h;cases hi:m i with
  |none=>simp[hi] at h
  |some r=>
  simp only[hi,aV] at h;subst h;obtain⟨p,J,aA⟩:=hm.row i _ hi;obtain⟨a,cap,hv⟩:=hx.aee ⟨p,J,Ts aA⟩;refine⟨rfl,rfl,aU.val hm (v:=.int .i64 n) ?_ (.s _ rfl)⟩;simp only[Sem.run_bind,sl hp hv,Result.andThen_ok,Sem.run_pure]
 |agg cs=>
  simp only[mJ,aV] at h;subst h;refine⟨rfl,rfl,aU.val hm (v:=.int .i64 (pU P t)) ?_ (.s _ rfl)⟩;simp[Builtin.len_,C,run_underlying (LS hp).1,goInt]
 |s v=>
  cases v with
  |string b=>
   simp only[mJ,aV] at h;subst h;obtain⟨rfl,_⟩:=hx.cI;refine⟨rfl,rfl,aU.val hm (v:=.int .i64 b.size) ?_ (.s _ rfl)⟩;simp[Builtin.len_,C,run_underlying (xH hp),goInt]
  |_=>simp[mJ] at h
 |_=>simp[mJ] at h
theorem Uq(hm:aL P F m β w){ts:Array TypeId}{ty:TypeId}{k:IntKind}{a b:Int}{x y:Value}{pre:Prop}(hx:R F β w (.s (.int k a)) x)(hy:R F β w (.s (.int k b)) y):
 aU P F m nx β w { pre:=pre,val:=.s (.int k (if b<a then b else a)) } (do Pure.pure (Next.value (<- Builtin.min_ ts ty #[x,y]))):=by
 obtain⟨rfl,_⟩:=hx.cI;obtain⟨rfl,_⟩:=hy.cI;exact aU.val hm (v:=.int k (if b<a then b else a)) (by simp[Builtin.min_,Builtin.min2]) (.s _ rfl)
theorem acu(hm:aL P F m β w){ts:Array TypeId}{ty:TypeId}{i off n:Nat}{x:Value}{cs:List D}{e:TypeId}{pre:Prop}{rd:List Nat}(mR:ts.size≠0)(hx:R F β w (.rs i off n) x)(hi:m i=some (.cells cs e))(ht:bh P (ts.getD 0 0)=true)
 (hl:off+n*P.cellsOf e<=cs.length) (he:e=aE P (ts.getD 0 0)):
 aU P F m nx β w { pre:=pre,val:=.bd [],a7:=[(i,some (.cells (fP cs off (dM n (bq P e))) e))],rd:=rd } (do Pure.pure (Next.value (<- Builtin.clear_ ts ty #[x]))):=by
 obtain⟨t,U⟩:∃ t,ts[0]? =some t:=⟨ts[0]'oG,oS⟩
 have O:ts.getD 0 0=t:=by simp[Array.getD_eq_getD_getElem?,U]
 rw[O] at ht he;obtain⟨hu,X⟩:=jD ht;rw[<- he] at hu X;obtain⟨z,hz,C,h3,h4⟩:=A9 (P:=P) w X;have AL:(bq P e).length=P.cellsOf e:=by rw[h3];simp[C]
 have self:fP cs off (dM 0 (bq P e))=cs:=by
  rw[Ls (by simp[dM];omega)];simp[dM]
 have IY:up m i (some (.cells cs e))=m:=by
  funext j;by_cases hj:j=i
  .subst hj;rw[an,hi]
  .rw[aZ _ _ hj]
 have zero:n=0->(∃ a c,x=.slice a 0 c)->aU P F m nx β w { pre:=pre,val:=.bd [],a7:=[(i,some (.cells (fP cs off (dM n (bq P e))) e))],rd:=rd } (do Pure.pure (Next.value (<- Builtin.clear_ ts ty #[x]))):=by
  rintro rfl ⟨a,c,rfl⟩;refine⟨.value (.tuple #[]),.tuple #[],w,β,?_,.inl rfl,.bd [] [] rfl oS,?_,Step.refl β w,fun _ h _=>h⟩
  .cases a<;>simp[Builtin.clear_,U,run_underlying hu]
  .simp only[cQ,self,IY];exact hm
 rcases hx.xU hm hi with⟨_,rfl,rfl,jK,a,rfl⟩|⟨b,o,room,hβ,aA,pN⟩
 .exact zero rfl ⟨a,0,rfl⟩
 .rcases pN with⟨rfl,a,rfl⟩|⟨cap,rfl,g1,g2,g3,g4⟩
  .exact zero rfl ⟨a,0,rfl⟩
  .cases n with
   |zero=>exact zero rfl ⟨_,cap,rfl⟩
   |succ n=>
    have J:=Mo (F:=F) (β:=β) (w:=w) (P:=P) C h3 h4 (n+1) ((n+1)*P.cellsOf e) rfl z.cells (fun _=>rfl)
    obtain⟨w',bH,iB,hs⟩:=KT (P:=P) hm hβ aA (off:=off) (ds:=dM (n+1) (bq P e)) (vs:=(Builtin.zeroCells z.cells (n+1)).toList) (by
     have:=J.1
     simpa[Builtin.zeroCells,C] using this) (by rw[DF,AL];exact hl) (fun u hu=>by
     have M:(Builtin.zeroCells z.cells (n+1)).toList=((Array.range ((n+1)*P.cellsOf e)).map (z.cells[· % z.cells.size]!)).toList:=by simp[Builtin.zeroCells,C]
     rw[M] at hu;obtain⟨k,hk⟩:=dR hu;have al:=(bX.1 hk).1;have:k<(dM (n+1) (bq P e)).length:=by rw[<- J.1];exact al
     exact(J.2 k _ u (by simp[this];rfl) hk).2) (fun k d u hk hu=>by
     have M:(Builtin.zeroCells z.cells (n+1)).toList=((Array.range ((n+1)*P.cellsOf e)).map (z.cells[· % z.cells.size]!)).toList:=by simp[Builtin.zeroCells,C]
     rw[M] at hu
     exact(J.2 k d u hk hu).1)
    refine⟨.value (.tuple #[]),.tuple #[],w',β,?_,.inl rfl,.bd [] [] rfl oS,iB,hs,fun _ h _=>h⟩;simp[Builtin.clear_,U,run_underlying hu,hz,bH]
theorem Z7(hm:aL P F m β w){cs:List D}{x:Value}{pre:Prop}(hx:R F β w (.pt cs) x):∃ a,x=.pointer (some a)/\aU P F m nx β w { pre:=pre,val:=.pt cs } (Pure.pure (Next.value x)):=by
 obtain⟨b,o,rfl,_⟩:=hx.Iw;exact⟨_,rfl,aU.val hm rfl hx⟩
theorem Z8(hm:aL P F m β w){i off:Nat}{x:Value}{pre:Prop}{rd:List Nat}{r:Row}(hx:R F β w (.rp i off) x)(hi:m i=some r):∃ a,x=.pointer (some a)/\aU P F m nx β w { pre:=pre,val:=.rp i off,rd:=rd } (Pure.pure (Next.value x)):=by
 obtain⟨p,hp,aA⟩:=hm.row i _ hi;obtain⟨b,bo,len,room,sz,C,rfl⟩:=hx.MW hp aA;exact⟨_,rfl,aU.val hm rfl hx⟩
theorem aaM(hm:aL P F m β w)(hn:β nx=none){t:TypeId}{pre:Prop}:
 aU P F m nx β w { pre:=pre,val:=.mp nx,a7:=[(nx,some (.map []))],new:=1 } (do Pure.pure (Next.value (<- Instr.makeMap t none))):=by
 have hp:∀ b,(Pl.map w.heap.size).bF=some b->b=w.heap.size:=fun b hb=>by simp[Pl.bF] at hb;exact hb.symm
 refine⟨.value (.map (some w.heap.size)),_,w.alloc (.map #[] 0),up β nx (some (.map w.heap.size)),?_,.inl rfl,.mp nx _ (an _ _ _),hm.alloc hn _ _ _ hp ?_,Bb hm _ hn _ hp,xI⟩
 .simp[Instr.makeMap]
 .exact .map [] w.heap.size #[] 0 (heap_alloc_new w _) rfl oS oS
theorem aef(hm:aL P F m β w){t:Bool}{U M O:Value}{C J:D}{pre:Prop}(hc:U=.bool t)(ha:R F β w C M)(hb:R F β w J O)(h1:t=true->C.ask/\C.core.fZ.isSome=true)(h2:t=false->J.ask/\J.core.fZ.isSome=true):
 aU P F m nx β w { pre:=pre,val:=.s (.bool (if t then C.core.fZ.getD false else J.core.fZ.getD false)) } (do Pure.pure (Next.value (if<- asBool U then M else O))):=by
 subst hc
 have inv:∀ {d:D} {v:Value},R F β w d v->d.ask/\d.core.fZ.isSome=true->v=.bool (d.core.fZ.getD false):=fun {d v} h hk=>by
  have:=h.xL d hk.1;have hb:=hk.2;unfold D.fZ at hb ⊢;split at hb
  .rename_i b he;rw[he] at this;rw[this.cI.1];rfl
  .cases hb
 cases t with
 |true=>
  have:=inv ha (h1 rfl);rw[this];exact aU.val hm (v:=.bool (C.core.fZ.getD false)) (by simp[asBool]) (.s _ rfl)
 |false=>
  have:=inv hb (h2 rfl);rw[this];exact aU.val hm (v:=.bool (J.core.fZ.getD false)) (by simp[asBool]) (.s _ rfl)
end
end Go.Abs
