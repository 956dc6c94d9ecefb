/- Part 2 of the proof; the last part says what is proved. -/
import Derived.Test.YtonoegleildfnaaGreatCuts1
import Derived.IntWalk
import Derived.KernelRfl
import Derived.RangeFuncLeaves
import Derived.RangeFuncRecord
import Derived.Scope
import Derived.Test.YtonoegleildfnaaGreatChecked
section
namespace Go.Abs
theorem befOf_bit (acc : List Nat) (i : Nat) : ∀ (l : List Edge) (s : Nat), (l.foldl (fun s e => if Region.binds .any e then s ||| 2 ^ e.on ||| acc.getD e.on 0 else s) s).testBit i = true ->
  s.testBit i = true \/ ∃ e ∈ l, Region.binds .any e = true /\ (i = e.on \/ (acc.getD e.on 0).testBit i = true)
 | [], s, h => .inl h
 | e :: l, s, h => by
  rw [List.foldl_cons] at h
  rcases befOf_bit acc i l _ h with h1 | ⟨e', he', hb⟩
  ·by_cases hb : Region.binds .any e = true
   ·rw [if_pos hb] at h1
    simp only [Nat.testBit_or, Bool.or_eq_true, Nat.testBit_two_pow, decide_eq_true_eq] at h1
    rcases h1 with (h1 | h1) | h1
    ·exact .inl h1
    ·exact .inr ⟨e, by simp, hb, .inl h1.symm⟩
    ·exact .inr ⟨e, by simp, hb, .inr h1⟩
   ·rw [if_neg hb] at h1
    exact .inl h1
  ·exact .inr ⟨e', by simp [he'], hb⟩
theorem befs_prefix : ∀ (os : List Oper) (acc : List Nat), ∃ l, befs os acc = acc ++ l /\ l.length = os.length
 | [], acc => ⟨[], by simp [befs], rfl⟩
 | o :: os, acc => by
  obtain ⟨l, h1, h2⟩ := befs_prefix os (acc ++ [befOf acc o])
  exact ⟨befOf acc o :: l, by simp [befs, h1], by simp [h2]⟩
theorem befs_get : ∀ (os : List Oper) (acc : List Nat) (k : Nat) (o : Oper), os[k]? = some o -> (befs os acc).getD (acc.length + k) 0 = befOf ((befs os acc).take (acc.length + k)) o
 | [], acc, k, o, h => by simp at h
 | x :: os, acc, 0, o, h => by
  simp only [List.getElem?_cons_zero, Option.some.injEq] at h
  subst h
  obtain ⟨l, h1, h2⟩ := befs_prefix os (acc ++ [befOf acc x])
  simp [befs, h1]
 | x :: os, acc, k + 1, o, h => by
  have := befs_get os (acc ++ [befOf acc x]) k o (by simpa using h)
  simp only [List.length_append, List.length_cons, List.length_nil] at this
  have e : acc.length + (k + 1) = acc.length + (0 + 1) + k := by omega
  rw [e]
  exact this
theorem bit_listed {ops : Array Oper} {S : Nat -> Bool} (hS : ∀ j, S j = true -> ∀ o, ops[j]? = some o -> ∀ e ∈ o.after, Region.binds .any e = true -> S e.on = true) (i : Nat) :
  ∀ j, S j = true -> ((befs ops.toList []).getD j 0).testBit i = true -> S i = true := by
 intro j
 induction j using Nat.strongRecOn with
 | _ j ih =>
  intro hj hb
  cases ho : ops[j]? with
  | none =>
   obtain ⟨l, h1, h2⟩ := befs_prefix ops.toList []
   have : (befs ops.toList []).getD j 0 = 0 := by
    rw [h1]
    simp only [List.nil_append]
    have : ops.size <= j := by simpa using ho
    simp [List.getElem?_eq_none (show l.length <= j by simpa [h2] using this)]
   rw [this] at hb
   simp at hb
  | some o =>
   have h1 := befs_get ops.toList [] j o (by simpa using ho)
   simp only [List.length_nil, Nat.zero_add] at h1
   rw [h1] at hb
   rcases befOf_bit _ i _ 0 hb with h2 | ⟨e, he, hbe, h2⟩
   ·simp at h2
   ·have hSe := hS j hj o ho e (by simpa using he) hbe
    rcases h2 with rfl | h2
    ·exact hSe
    ·rcases Nat.lt_or_ge e.on j with hlt | hge
     ·refine ih e.on hlt hSe ?_
      simpa [List.getElem?_take, hlt] using h2
     ·simp [List.getElem?_take, Nat.not_lt.2 hge] at h2
theorem mem_unordered {bs : List Nat} {n i j : Nat} (hij : i < j) (hj : j < n) (h : (bs.getD j 0).testBit i = false) : (i, j) ∈ unordered bs n := by
 unfold unordered
 rw [List.mem_flatMap]
 exact ⟨j, by simp [hj], by rw [List.mem_map]; exact ⟨i, by simp only [List.mem_filter, List.mem_range]; exact ⟨hij, by rw [h]; rfl⟩, rfl⟩⟩
theorem upds_not {us : List (Nat × Option Row)} : ∀ {m : Mem} {i : Nat}, i ∉ us.map (·.1) -> upds m us i = m i := by
 induction us with
 | nil => intro m i _; rfl
 | cons u us ih =>
  intro m i h
  obtain ⟨j, r⟩ := u
  simp only [List.map_cons, List.mem_cons, not_or] at h
  simp only [upds]
  rw [ih h.2, up_ne _ _ h.1]
theorem upds_congr {us : List (Nat × Option Row)} : ∀ {m m' : Mem} {i : Nat}, (i ∈ us.map (·.1) \/ m i = m' i) -> upds m us i = upds m' us i := by
 induction us with
 | nil => intro m m' i h; simpa [upds] using h
 | cons u us ih =>
  intro m m' i h
  obtain ⟨j, r⟩ := u
  simp only [upds]
  refine ih ?_
  by_cases hj : i = j
  ·right; subst hj; rw [up_same, up_same]
  ·rcases h with h | h
   ·left
    simp only [List.map_cons, List.mem_cons] at h
    exact h.resolve_left hj
   ·right; rw [up_ne _ _ hj, up_ne _ _ hj, h]
theorem upds_comm {a b : List (Nat × Option Row)} (m : Mem) (h : ∀ i ∈ a.map (·.1), i ∉ b.map (·.1)) : upds (upds m a) b = upds (upds m b) a := by
 funext i
 by_cases ha : i ∈ a.map (·.1)
 ·rw [upds_not (h i ha)]
  exact upds_congr (.inl ha)
 ·rw [upds_not (m := upds m b) ha]
  exact upds_congr (.inr (upds_not ha))
def putE (env : Env) (d : Option Nat) (v : D) : Env := match d with
 | some t => up env t v
 | none => env
theorem putE_not {env : Env} {d : Option Nat} {v : D} {t : Nat} (h : d ≠ some t) : putE env d v t = env t := by
 cases d with
 | none => rfl
 | some u => exact up_ne _ _ fun e => h (by rw [e])
theorem putE_congr {env env' : Env} {d : Option Nat} {v : D} {t : Nat} (h : d = some t \/ env t = env' t) : putE env d v t = putE env' d v t := by
 cases d with
 | none => simpa [putE] using h
 | some u =>
  by_cases hu : t = u
  ·subst hu; simp [putE, up_same]
  ·simp only [putE, up_ne _ _ hu]
   rcases h with h | h
   ·simp only [Option.some.injEq] at h; exact absurd h.symm hu
   ·exact h
theorem putE_comm (env : Env) {d d' : Option Nat} (v v' : D) (h : ∀ t, d = some t -> d' ≠ some t) : putE (putE env d v) d' v' = putE (putE env d' v') d v := by
 funext t
 by_cases hd : d = some t
 ·rw [putE_not (h t hd)]
  exact putE_congr (.inl hd)
 ·rw [putE_not (env := putE env d' v') hd]
  exact putE_congr (.inr (putE_not hd))
def nxt (st : St) (o : Oper) (p : Plan) : St := St.put ⟨st.env, upds st.mem p.ups, st.nx + p.new⟩ o.dst p.val
theorem nxt_env (st : St) (o : Oper) (p : Plan) : (nxt st o p).env = putE st.env o.dst p.val := by unfold nxt; rw [st_put_env]; rfl
theorem nxt_mem (st : St) (o : Oper) (p : Plan) : (nxt st o p).mem = upds st.mem p.ups := st_put_mem _ _ _
theorem nxt_nx (st : St) (o : Oper) (p : Plan) : (nxt st o p).nx = st.nx + p.new := st_put_nx _ _ _
section
variable (oo : Nat -> Oper) (pp : Nat -> Plan) (st₀ : St)
def stF (S : Nat -> Bool) : Nat -> St
 | 0 => st₀
 | k + 1 => if S k then nxt (stF S k) (oo k) (pp k) else stF S k
def sTx : Nat -> St := stF oo pp st₀ fun _ => true
theorem sTx_succ (k : Nat) : sTx oo pp st₀ (k + 1) = nxt (sTx oo pp st₀ k) (oo k) (pp k) := rfl
theorem stF_lt (k : Nat) : ∀ n, k <= n -> stF oo pp st₀ (fun j => decide (j < k)) n = sTx oo pp st₀ k := by
 have below : ∀ n, n <= k -> stF oo pp st₀ (fun j => decide (j < k)) n = sTx oo pp st₀ n := by
  intro n
  induction n with
  | zero => intro _; rfl
  | succ n ih =>
   intro h
   have hd : decide (n < k) = true := by simp; omega
   rw [sTx_succ, <- ih oG]
   simp only [stF, hd, if_true]
 intro n h
 induction n with
 | zero =>
  have : k = 0 := by omega
  subst this
  rfl
 | succ n ih =>
  rcases Nat.lt_or_ge n k with hlt | hge
  ·have : k = n + 1 := by omega
   subst this
   exact below (n + 1) (Nat.le_refl _)
  ·have hd : decide (n < k) = false := by simpa using hge
   simp only [stF, hd, Bool.false_eq_true, if_false]
   exact ih hge
theorem stF_env {S T : Nat -> Bool} {t : Nat} : ∀ n, (∀ j, j < n -> S j ≠ T j -> (oo j).dst ≠ some t) -> (stF oo pp st₀ S n).env t = (stF oo pp st₀ T n).env t := by
 intro n
 induction n with
 | zero => intro _; rfl
 | succ n ih =>
  intro h
  have h1 := ih fun j hj => h j oG
  have h2 := h n oG
  simp only [stF]
  cases hS : S n <;> cases hT : T n <;> simp only [Bool.false_eq_true, if_false, if_true, nxt_env]
  ·exact h1
  ·rw [putE_not (h2 (by simp [hS, hT]))]; exact h1
  ·rw [putE_not (h2 (by simp [hS, hT]))]; exact h1
  ·exact putE_congr (.inr h1)
theorem stF_mem {S T : Nat -> Bool} {i : Nat} : ∀ n, (∀ j, j < n -> S j ≠ T j -> i ∉ (pp j).wr) -> (stF oo pp st₀ S n).mem i = (stF oo pp st₀ T n).mem i := by
 intro n
 induction n with
 | zero => intro _; rfl
 | succ n ih =>
  intro h
  have h1 := ih fun j hj => h j oG
  have h2 := h n oG
  simp only [stF]
  cases hS : S n <;> cases hT : T n <;> simp only [Bool.false_eq_true, if_false, if_true, nxt_mem]
  ·exact h1
  ·rw [upds_not (h2 (by simp [hS, hT]))]; exact h1
  ·rw [upds_not (h2 (by simp [hS, hT]))]; exact h1
  ·exact upds_congr (.inr h1)
theorem stF_same {S T : Nat -> Bool} : ∀ n, (∀ j, j < n -> S j = T j) -> stF oo pp st₀ S n = stF oo pp st₀ T n := by
 intro n
 induction n with
 | zero => intro _; rfl
 | succ n ih =>
  intro h
  simp only [stF, ih fun j hj => h j oG, h n oG]
theorem stF_add {S : Nat -> Bool} {k : Nat} (hk : S k = false) : ∀ n, k < n -> (∀ j, k < j -> j < n -> S j = true -> (∀ t, (oo k).dst = some t -> (oo j).dst ≠ some t) /\ ∀ i ∈ (pp k).wr, i ∉ (pp j).wr) ->
  (stF oo pp st₀ (fun j => if j = k then true else S j) n).env = putE (stF oo pp st₀ S n).env (oo k).dst (pp k).val /\
  (stF oo pp st₀ (fun j => if j = k then true else S j) n).mem = upds (stF oo pp st₀ S n).mem (pp k).ups := by
 intro n
 induction n with
 | zero => intro h; omega
 | succ n ih =>
  intro hkn h
  rcases Nat.lt_or_ge k n with hlt | hge
  ·obtain ⟨h1, h2⟩ := ih hlt fun j hj hjn => h j hj oG
   have hne : n ≠ k := by omega
   simp only [stF, if_neg hne]
   cases hS : S n with
   | false => simp only [Bool.false_eq_true, if_false]; exact ⟨h1, h2⟩
   | true =>
    obtain ⟨h3, h4⟩ := h n hlt oG hS
    simp only [if_true, nxt_env, nxt_mem, h1, h2]
    exact ⟨putE_comm _ _ _ h3, upds_comm _ h4⟩
  ·have : n = k := by omega
   subst this
   have e : stF oo pp st₀ (fun j => if j = n then true else S j) n = stF oo pp st₀ S n := stF_same oo pp st₀ n fun j hj => by simp only [if_neg (show j ≠ n by omega)]
   simp only [stF, if_true, hk, Bool.false_eq_true, if_false, nxt_env, nxt_mem, e]
   exact ⟨trivial, trivial⟩
theorem sTx_nx_le {j k : Nat} (h : j <= k) : (sTx oo pp st₀ j).nx <= (sTx oo pp st₀ k).nx := by
 induction k with
 | zero => have : j = 0 := by omega
           subst this; exact Nat.le_refl _
 | succ k ih =>
  rcases Nat.lt_or_ge j (k + 1) with hlt | hge
  ·rw [sTx_succ, nxt_nx]
   have := ih oG
   omega
  ·have : j = k + 1 := by omega
   subst this; exact Nat.le_refl _
end
end Go.Abs
end
section
namespace Go.Abs
section
variable {P : Program} {ops : Array Oper} {cf : List (Nat × Nat)} {Q : Exit -> St -> Prop}
def Planned (P : Program) (ops : Array Oper) (cf : List (Nat × Nat)) (Q : Exit -> St -> Prop) : List Oper -> List Plan -> St -> Tra -> Prop
 | [], [], st, tr => (∀ q ∈ cf, apartT tr q.1 q.2) /\ Q .normal st
 | o :: os, p :: ps, st, tr => p.Ok P ops o st /\ p.Tidy (kindO o.op) st /\ Planned P ops cf Q os ps (nxt st o p) (tr ++ [(p.rd, p.wr)])
 | _, _, _, _ => False
theorem planned_of {Y : YSpec} : ∀ (os : List Oper) (st : St) (tr : Tra), AOps P Y ops true cf Q os st tr -> ∃ ps, Planned P ops cf Q os ps st tr
 | [], st, tr, h => ⟨[], h⟩
 | o :: os, st, tr, h => by
  simp only [AOps] at h
  rcases aop_plan h with ⟨p, h1, h2, h3⟩ | ⟨h1, _⟩ | ⟨h1, _⟩
  ·obtain ⟨ps, h4⟩ := planned_of os _ _ h3
   exact ⟨p :: ps, h1, h2, h4⟩
  ·cases h1
  ·cases h1
instance : Inhabited Plan := ⟨⟨.u, [], [], 0⟩⟩
theorem planned_at (oo : Nat -> Oper) (pp : Nat -> Plan) (st₀ : St) : ∀ (os : List Oper) (ps : List Plan) (k : Nat) (tr : Tra), (∀ j o, os[j]? = some o -> oo (k + j) = o) -> (∀ j p, ps[j]? = some p -> pp (k + j) = p) -> tr.length = k ->
  (∀ j, j < k -> tr.getD j ([], []) = ((pp j).rd, (pp j).wr)) -> Planned P ops cf Q os ps (sTx oo pp st₀ k) tr ->
  (∀ j, k <= j -> j < k + os.length -> (pp j).Ok P ops (oo j) (sTx oo pp st₀ j) /\ (pp j).Tidy (kindO (oo j).op) (sTx oo pp st₀ j)) /\ Q .normal (sTx oo pp st₀ (k + os.length)) /\
  ∃ tr' : Tra, (∀ j, j < k + os.length -> tr'.getD j ([], []) = ((pp j).rd, (pp j).wr)) /\ ∀ q ∈ cf, apartT tr' q.1 q.2
 | [], [], k, tr, ho, hp, hl, ht, h => ⟨fun j h1 h2 => absurd h2 (by simp; omega), h.2, tr, ht, h.1⟩
 | [], _ :: _, _, _, _, _, _, _, h => h.elim
 | _ :: _, [], _, _, _, _, _, _, h => h.elim
 | o :: os, p :: ps, k, tr, ho, hp, hl, ht, h => by
  have e1 : oo k = o := ho 0 o rfl
  have e2 : pp k = p := hp 0 p rfl
  obtain ⟨h1, h2, h3⟩ := h
  have h3' : Planned P ops cf Q os ps (sTx oo pp st₀ (k + 1)) (tr ++ [(p.rd, p.wr)]) := by rw [sTx_succ, e1, e2]; exact h3
  obtain ⟨a1, a2, tr', a3, a4⟩ := planned_at oo pp st₀ os ps (k + 1) _ (fun j x hj => by have := ho (j + 1) x (by simpa using hj); rw [<- this]; congr 1; omega)
   (fun j x hj => by have := hp (j + 1) x (by simpa using hj); rw [<- this]; congr 1; omega) (by simp [hl])
   (fun j hj => by
    rcases Nat.lt_or_ge j k with hlt | hge
    ·rw [<- ht j hlt]
     simp [List.getElem?_append_left (show j < tr.length by omega)]
    ·have : j = k := by omega
     subst this
     simp [<- hl, List.getElem?_append_right, e2]
     rw [hl, e2]; exact ⟨rfl, rfl⟩) h3'
  have e3 : k + (o :: os).length = k + 1 + os.length := by simp; omega
  rw [e3]
  refine ⟨fun j hj hj2 => ?_, a2, tr', a3, a4⟩
  rcases Nat.lt_or_ge k j with hlt | hge
  ·exact a1 j hlt hj2
  ·have : j = k := by omega
   subst this
   rw [e1, e2]
   exact ⟨h1, h2⟩
theorem drawInfo_spec (h : drawInfo ops = some cf) : (∀ (i : Nat) (o : Oper), ops[i]? = some o -> ∀ e ∈ o.after, Region.binds .any e = true -> e.on < i) /\
  (∀ q ∈ unordered (befs ops.toList []) ops.size, tmpsApart ops q.1 q.2 = true) /\ (∀ q ∈ unordered (befs ops.toList []) ops.size, mayMeet ops q.1 q.2 = true -> q ∈ cf) := by
 unfold drawInfo at h
 simp only at h
 split at h
 ·rename_i hc
  simp only [Bool.and_eq_true] at hc
  cases h
  refine ⟨fun i o hi e he hb => ?_, fun q hq => List.all_eq_true.1 hc.2 q hq, fun q hq hm => by rw [List.mem_filter]; exact ⟨hq, hm⟩⟩
  have h1 := List.all_eq_true.1 hc.1 (o, i) (by
   rw [List.mem_zipIdx_iff_getElem?]
   simpa using hi)
  have h2 := List.all_eq_true.1 h1 e (by simpa using he)
  simpa [hb] using h2
 ·cases h
variable {F : Nat -> Prop} {N₀ : Nat} {β₀ : Pla} {w₀ : World} {a₀ : Act}
structure DS (P : Program) (F : Nat -> Prop) (oo : Nat -> Oper) (pp : Nat -> Plan) (st₀ : St) (n : Nat) (N₀ : Nat) (β₀ : Pla) (w₀ : World) (a₀ : Act) (S : Nat -> Bool) (β : Pla) (w : World) (a : Act) : Prop where
 e : ESim F β w (stF oo pp st₀ S n).env a
 m : MSim P F (stF oo pp st₀ S n).mem β w
 free : ∀ i, st₀.nx <= i -> (∀ k, k < n -> S k = true -> ¬ ((sTx oo pp st₀ k).nx <= i /\ i < (sTx oo pp st₀ k).nx + (pp k).new)) -> β i = none
 step : Step β₀ w₀ β w
 grow : ∀ i, i < N₀ -> β₀ i = none -> β i = none
 size : a.tmps.size = a₀.tmps.size
 defers : a.defers = a₀.defers
theorem draw_any {oo : Nat -> Oper} {pp : Nat -> Plan} {st₀ : St} (hi : drawInfo ops = some cf) (hoo : ∀ j o, ops[j]? = some o -> oo j = o) (hlt : opsLt a₀.tmps.size ops = true)
  (hok : ∀ j, j < ops.size -> (pp j).Ok P ops (oo j) (sTx oo pp st₀ j) /\ (pp j).Tidy (kindO (oo j).op) (sTx oo pp st₀ j)) (hQ : Q .normal (sTx oo pp st₀ ops.size))
  (htr : ∃ tr' : Tra, (∀ j, j < ops.size -> tr'.getD j ([], []) = ((pp j).rd, (pp j).wr)) /\ ∀ q ∈ cf, apartT tr' q.1 q.2)
  (hm0 : ∀ i, st₀.nx <= i -> st₀.mem i = none) (hN : N₀ <= st₀.nx) (r : Option Nat) (n : Nat) :
  ∀ (fuel : Nat) (listed : Array Bool) (β : Pla) (w : World) (a : Act), listed.size = ops.size -> listed.toList.countP (fun b => !b) <= fuel ->
   (∀ j, listed.getD j false = true -> ∀ o, ops[j]? = some o -> ∀ e ∈ o.after, Region.binds .any e = true -> listed.getD e.on false = true) ->
   DS P F oo pp st₀ ops.size N₀ β₀ w₀ a₀ (fun j => listed.getD j false) β w a ->
   wpAnyIn (Fe r) n P .any ops (Post P F N₀ β₀ w₀ a₀ Q) fuel listed a w := by
 obtain ⟨hed, hta, hcf⟩ := drawInfo_spec hi
 obtain ⟨tr', htr1, htr2⟩ := htr
 have hmT : ∀ k, k <= ops.size -> ∀ i, (sTx oo pp st₀ k).nx <= i -> (sTx oo pp st₀ k).mem i = none := by
  intro k
  induction k with
  | zero => intro _ i hi; exact hm0 i hi
  | succ k ih =>
   intro hk i hi
   rw [sTx_succ, nxt_nx] at hi
   rw [sTx_succ, nxt_mem]
   have h1 := (hok k oG).2.wr
   rw [upds_not, ih oG i oG]
   intro hmem
   rcases h1 i hmem with h2 | h2
   ·exact h2 (ih oG i oG)
   ·omega
 have hap : ∀ i j, i < j -> j < ops.size -> ((befs ops.toList []).getD j 0).testBit i = false ->
   (∀ x ∈ (pp i).wr, x ∉ (pp j).wr) /\ (∀ x ∈ (pp i).wr, x ∈ (pp j).rd -> (sTx oo pp st₀ j).mem x = none) /\ (∀ x ∈ (pp j).wr, x ∈ (pp i).rd -> (sTx oo pp st₀ i).mem x = none) := by
  intro i j hij hj hb
  have hu := mem_unordered hij hj hb
  have hoi : ops[i]? = some (oo i) := by
   have : i < ops.size := by omega
   rw [hoo i ops[i] (by simp [this])]; simp [this]
  have hoj : ops[j]? = some (oo j) := by
   rw [hoo j ops[j] (by simp [hj])]; simp [hj]
  obtain ⟨ti, t0i, t1i, t3i⟩ := (hok i oG).2
  obtain ⟨tj, t0j, t1j, t3j⟩ := (hok j hj).2
  by_cases hmm : mayMeet ops i j = true
  ·have h1 := htr2 _ (hcf _ hu hmm)
   unfold apartT at h1
   simp only [htr1 i oG, htr1 j hj] at h1
   exact ⟨fun x hx => (h1.1 x hx).2, fun x hx hr => absurd hr (h1.1 x hx).1, fun x hx hr => absurd hr (h1.2 x hx)⟩
  ·simp only [mayMeet, hoi, hoj, Bool.and_eq_true, Bool.or_eq_true, beq_iff_eq, bne_iff_ne, Bool.not_eq_true', ne_eq] at hmm
   have hk : ∀ o : Oper, kindO o.op = 0 \/ kindO o.op = 1 \/ kindO o.op = 2 \/ kindO o.op = 3 := fun o => by
    unfold kindO; split <;> simp
   have nil : ∀ p : Plan, p.ups = [] -> ∀ x, x ∉ p.wr := fun p hp x hx => by simp [Plan.wr, hp] at hx
   rcases hk (oo j) with kj | kj | kj | kj
   ·have := t0j kj
    exact ⟨fun x _ => nil _ this.2 x, fun x _ hr => (by rw [this.1] at hr; cases hr), fun x hx => absurd hx (nil _ this.2 x)⟩
   ·by_cases k0 : kindO (oo i).op = 0
    ·have := t0i k0
     exact ⟨fun x hx => absurd hx (nil _ this.2 x), fun x hx => absurd hx (nil _ this.2 x), fun x _ hr => by rw [this.1] at hr; cases hr⟩
    ·have k1 : kindO (oo i).op = 1 := by
      rcases hk (oo i) with h | h | h | h
      ·exact absurd h k0
      ·exact h
      ·exact absurd ⟨⟨.inl kj, by omega⟩, by simp [h]⟩ hmm
      ·exact absurd ⟨⟨.inl kj, by omega⟩, by simp [h]⟩ hmm
     exact ⟨fun x hx => absurd hx (nil _ (t1i k1) x), fun x hx => absurd hx (nil _ (t1i k1) x), fun x hx => absurd hx (nil _ (t1j kj) x)⟩
   ·by_cases k0 : kindO (oo i).op = 0
    ·have := t0i k0
     exact ⟨fun x hx => absurd hx (nil _ this.2 x), fun x hx => absurd hx (nil _ this.2 x), fun x _ hr => by rw [this.1] at hr; cases hr⟩
    ·exact absurd ⟨⟨.inr kj, by omega⟩, by simp [kj]⟩ hmm
   ·have hnx := sTx_nx_le oo pp st₀ (show i + 1 <= j by omega)
    rw [sTx_succ, nxt_nx] at hnx
    obtain ⟨h1, h2⟩ := t3j kj
    have hwi : ∀ x ∈ (pp i).wr, x < (sTx oo pp st₀ j).nx := fun x hx => by
     rcases ti x hx with h | h
     ·rcases Nat.lt_or_ge x (sTx oo pp st₀ i).nx with h' | h'
      ·omega
      ·exact absurd (hmT i oG x h') h
     ·omega
    refine ⟨fun x hx hxj => ?_, fun x _ hr => (by rw [h1] at hr; cases hr), fun x hx _ => hmT i oG x ?_⟩
    ·have := hwi x hx
     have := h2 x hxj
     omega
    ·have := h2 x hx
     omega
 have hta' : ∀ i j, i < j -> j < ops.size -> ((befs ops.toList []).getD j 0).testBit i = false -> (oo i).apart ops (oo j) = true := by
  intro i j hij hj hb
  have h1 := hta _ (mem_unordered hij hj hb)
  have hoi : ops[i]? = some (oo i) := by
   have : i < ops.size := by omega
   rw [hoo i ops[i] (by simp [this])]; simp [this]
  have hoj : ops[j]? = some (oo j) := by
   rw [hoo j ops[j] (by simp [hj])]; simp [hj]
  simpa [tmpsApart, hoi, hoj] using h1
 have hend : ∀ listed : Array Bool, listed.size = ops.size -> Region.ready .any ops listed = [] -> ∀ k, k < ops.size -> listed.getD k false = true := by
  intro listed hsz hr k
  induction k using Nat.strongRecOn with
  | _ k ih =>
   intro hk
   cases hl : listed.getD k false with
   | true => rfl
   | false =>
    exfalso
    have : k ∈ Region.ready .any ops listed := by
     rw [mem_ready]
     refine ⟨?_, ops[k], by simp [hk], fun e he hb => ?_⟩
     ·have hk' : k < listed.size := by omega
      simpa [hk'] using hl
     ·have h1 := hed k ops[k] (by simp [hk]) e he hb
      exact ih e.on h1 oG
    rw [hr] at this
    cases this
 have done : ∀ (listed : Array Bool) (β : Pla) (w : World) (a : Act), listed.size = ops.size -> DS P F oo pp st₀ ops.size N₀ β₀ w₀ a₀ (fun j => listed.getD j false) β w a -> Region.ready .any ops listed = [] ->
   Post P F N₀ β₀ w₀ a₀ Q .normal a w := by
  intro listed β w a hsz hds hr
  have e : stF oo pp st₀ (fun j => listed.getD j false) ops.size = sTx oo pp st₀ ops.size := stF_same oo pp st₀ _ fun j hj => hend listed hsz hr j hj
  have h1 := hds.e
  have h2 := hds.m
  rw [e] at h1 h2
  refine ⟨sTx oo pp st₀ ops.size, β, hQ, ⟨h1, h2, fun i hi => hds.free i ?_ fun k hk _ h => ?_⟩, ⟨hds.step, ?_, hds.grow, hds.size, hds.defers⟩⟩
  ·exact Nat.le_trans (sTx_nx_le oo pp st₀ (Nat.zero_le _)) hi
  ·have := sTx_nx_le oo pp st₀ (show k + 1 <= ops.size by omega)
   rw [sTx_succ, nxt_nx] at this
   omega
  ·exact Nat.le_trans hN (sTx_nx_le oo pp st₀ (Nat.zero_le _))
 intro fuel
 induction fuel with
 | zero =>
  intro listed β w a hsz hc hcl hds
  have hr : Region.ready .any ops listed = [] := by
   cases hrr : Region.ready .any ops listed with
   | nil => rfl
   | cons x xs =>
    exfalso
    have hx : x ∈ Region.ready .any ops listed := by rw [hrr]; simp
    rw [mem_ready] at hx
    obtain ⟨h1, o, ho, _⟩ := hx
    have hxs : x < ops.size := (Array.getElem?_eq_some_iff.1 ho).1
    have hx' : x < listed.size := by omega
    have : listed[x] = false := by simpa [hx'] using h1
    have h2 : 0 < listed.toList.countP (fun b => !b) := List.countP_pos_iff.2 ⟨listed[x], by simp, by simp [this]⟩
    omega
  exact ⟨hr, done listed β w a hsz hds hr⟩
 | succ fuel ih =>
  intro listed β w a hsz hc hcl hds
  refine ⟨done listed β w a hsz hds, fun k hk => ?_⟩
  rw [mem_ready] at hk
  obtain ⟨hk1, o, ho, hpre⟩ := hk
  have hkn : k < ops.size := (Array.getElem?_eq_some_iff.1 ho).1
  have hkl : k < listed.size := by omega
  have hkf : listed[k] = false := by simpa [hkl] using hk1
  have hkS : listed.getD k false = false := by simp [hkl, hkf]
  have eo : oo k = o := hoo k o ho
  obtain ⟨hOk, hTidy⟩ := hok k hkn
  have hun1 : ∀ j, j < k -> listed.getD j false = false -> ((befs ops.toList []).getD k 0).testBit j = false := by
   intro j hjk hj
   cases hb : ((befs ops.toList []).getD k 0).testBit j with
   | false => rfl
   | true =>
    exfalso
    have h1 := befs_get ops.toList [] k o (by simpa using ho)
    simp only [List.length_nil, Nat.zero_add] at h1
    rw [h1] at hb
    rcases befOf_bit _ j _ 0 hb with h2 | ⟨e, he, hbe, h2⟩
    ·simp at h2
    ·have hSe := hpre e (by simpa using he) hbe
     rcases h2 with rfl | h2
     ·rw [hj] at hSe; cases hSe
     ·have hlt := hed k o ho e (by simpa using he) hbe
      have h3 : ((befs ops.toList []).getD e.on 0).testBit j = true := by simpa [List.getElem?_take, hlt] using h2
      have := bit_listed (S := fun j => listed.getD j false) hcl j e.on hSe h3
      rw [hj] at this; cases this
  have hun2 : ∀ j, k < j -> listed.getD j false = true -> ((befs ops.toList []).getD j 0).testBit k = false := by
   intro j hkj hj
   cases hb : ((befs ops.toList []).getD j 0).testBit k with
   | false => rfl
   | true =>
    exfalso
    have := bit_listed (S := fun j => listed.getD j false) hcl k j hj hb
    rw [hkS] at this; cases this
  have hdiff : ∀ j, j < ops.size -> listed.getD j false ≠ decide (j < k) -> (j < k /\ listed.getD j false = false) \/ (k < j /\ listed.getD j false = true) := by
   intro j hj hne
   rcases Nat.lt_trichotomy j k with h | h | h
   ·left; refine ⟨h, ?_⟩
    simpa [h] using hne
   ·subst h; simp [hkS] at hne
   ·right; refine ⟨h, ?_⟩
    have : ¬ j < k := by omega
    simpa [this] using hne
  have hSk := stF_lt oo pp st₀ k ops.size oG
  refine runOp_wpOpIn ho ?_
  rw [<- eo]
  refine hOk F β w a (stF oo pp st₀ (fun j => listed.getD j false) ops.size).mem (stF oo pp st₀ (fun j => listed.getD j false) ops.size).env (sTx oo pp st₀ ops.size).nx ?_ hds.e hds.m ?_ ?_ ?_ r n _ _ ?_
  ·intro t ht
   rw [<- hSk]
   refine stF_env oo pp st₀ _ fun j hj hne => ?_
   rcases hdiff j hj hne with ⟨h1, h2⟩ | ⟨h1, h2⟩
   ·have := (Oper.apart_spec (hta' j k h1 hkn (hun1 j h1 h2))).1
    exact fun hd => this t hd ht
   ·have := (Oper.apart_spec (hta' k j h1 hj (hun2 j h1 h2))).2.2
    exact fun hd => this t hd ht
  ·intro i hi hne
   rw [<- hSk] at hne ⊢
   refine stF_mem oo pp st₀ _ fun j hj hne' hw => ?_
   rw [hSk] at hne
   rcases hdiff j hj hne' with ⟨h1, h2⟩ | ⟨h1, h2⟩
   ·exact hne ((hap j k h1 hkn (hun1 j h1 h2)).2.1 i hw hi)
   ·exact hne ((hap k j h1 hj (hun2 j h1 h2)).2.2 i hw hi)
  ·intro i h1 h2
   refine hds.free i (Nat.le_trans (sTx_nx_le oo pp st₀ (Nat.zero_le _)) h1) fun j hj hS h3 => ?_
   rcases Nat.lt_trichotomy j k with h | h | h
   ·have := sTx_nx_le oo pp st₀ (show j + 1 <= k by omega)
    rw [sTx_succ, nxt_nx] at this
    omega
   ·subst h; simp only [hkS] at hS; cases hS
   ·have := sTx_nx_le oo pp st₀ (show k + 1 <= j by omega)
    rw [sTx_succ, nxt_nx] at this
    omega
  ·intro i hi
   refine hds.free i (Nat.le_trans (sTx_nx_le oo pp st₀ (Nat.zero_le _)) hi) fun j hj _ h3 => ?_
   have := sTx_nx_le oo pp st₀ (show j + 1 <= ops.size by omega)
   rw [sTx_succ, nxt_nx] at this
   omega
  ·intro v w' β' g1 g2 g3 g4
   have hS' : (fun j => (listed.setIfInBounds k true).getD j false) = (fun j => if j = k then true else listed.getD j false) := by
    funext j
    by_cases hj : j = k
    ·subst hj; simp [hkl]
    ·rw [if_neg hj, getD_set_ne false (Ne.symm hj)]
   obtain ⟨ae, am⟩ := stF_add oo pp st₀ (S := fun j => listed.getD j false) (k := k) hkS ops.size hkn fun j hkj hj hSj =>
    ⟨(Oper.apart_spec (hta' k j hkj hj (hun2 j hkj hSj))).2.1, (hap k j hkj hj (hun2 j hkj hSj)).1⟩
   refine ih _ β' w' _ (by simpa using hsz) ?_ ?_ ?_
   ·have : (listed.setIfInBounds k true).toList = listed.toList.set k true := by simp
    rw [this, List.countP_set (by simpa using hkl)]
    have h2 : 0 < listed.toList.countP (fun b => !b) := List.countP_pos_iff.2 ⟨listed[k], by simp, by simp [hkf]⟩
    have h3 : listed.toList[k]'(by simpa using hkl) = false := by simpa using hkf
    rw [h3]
    simp only [Bool.not_false, if_true, Bool.not_true, Bool.false_eq_true, if_false]
    omega
   ·intro j hj o' ho' e he hb
    by_cases hjk : j = k
    ·subst hjk
     rw [ho] at ho'; cases ho'
     exact getD_set_true (hpre e he hb)
    ·rw [getD_set_ne false (Ne.symm hjk)] at hj
     exact getD_set_true (hcl j hj o' ho' e he hb)
   ·rw [hS']
    refine ⟨?_, by rw [am]; exact g2, fun i hi hn => ?_, hds.step.trans g3, fun i hi hn => ?_, by rw [put_size]; exact hds.size, by rw [put_defers]; exact hds.defers⟩
    ·rw [ae]
     have hd : ∀ t, (oo k).dst = some t -> t < a.tmps.size := fun t ht => by rw [hds.size]; rw [eo] at ht; exact opsLt_spec hlt ho t ht
     have he := hds.e.step g3
     cases hdst : (oo k).dst with
     | none => exact he
     | some t => exact he.put (some t) _ _ g1 (fun u hu => hd u (by rw [hdst]; exact hu))
    ·have h1 := hn k hkn (by simp)
     have h2 := hds.free i hi fun j hj hSj => hn j hj (by by_cases hjk : j = k <;> simp [hjk, hSj])
     exact g4 i h2 oG
    ·exact g4 i (hds.grow i hi hn) (.inl (Nat.lt_of_lt_of_le (Nat.lt_of_lt_of_le hi hN) (sTx_nx_le oo pp st₀ (Nat.zero_le _))))
theorem region_draw {Y : YSpec} {st : St} {β : Pla} {w : World} {a : Act} {r : Option Nat} {n id : Nat} (hmix : P.follows .mixedOrders = true) (hi : drawInfo ops = some cf) (hlt : opsLt a₀.tmps.size ops = true)
  (h : AOps P Y ops true cf Q ops.toList st []) (hs : Sim P F st β w a) (hsi : Since N₀ β₀ w₀ a₀ st β w a) : (Code.region id ops true).wpIn (Fe r) n P (Post P F N₀ β₀ w₀ a₀ Q) a w := by
 refine wpIn_region_any hmix ?_
 obtain ⟨ps, hps⟩ := planned_of _ _ _ h
 have hpa := planned_at (fun j => ops.toList.getD j default) (fun j => ps.getD j default) st ops.toList ps 0 [] (fun j o hj => by simp at hj; simp [hj]) (fun j p hj => by simp [hj]) rfl (by simp) hps
 simp only [Nat.zero_add, Array.length_toList] at hpa
 obtain ⟨h1, h2, h3⟩ := hpa
 have hsame : stF (fun j => ops.toList.getD j default) (fun j => ps.getD j default) st (fun j => (Array.replicate ops.size false).getD j false) ops.size = st := by
  have : ∀ n, stF (fun j => ops.toList.getD j default) (fun j => ps.getD j default) st (fun j => (Array.replicate ops.size false).getD j false) n = st := by
   intro n
   induction n with
   | zero => rfl
   | succ n ih =>
    have : (Array.replicate ops.size false).getD n false = false := by simp [Array.getD_eq_getD_getElem?, Array.getElem?_replicate]; split <;> rfl
    simp only [stF, this, Bool.false_eq_true, if_false]
    exact ih
  exact this _
 have hdr : Step β w β { w with drawn := w.drawn + 1 } := ⟨Nat.le_refl _, fun _ _ h => ⟨rfl, h⟩, fun _ _ h => .inl h, rfl, rfl⟩
 refine draw_any (st₀ := st) (oo := fun j => ops.toList.getD j default) (pp := fun j => ps.getD j default) hi (fun j o hj => by simp [hj]) hlt (fun j hj => h1 j (Nat.zero_le _) hj) h2 h3 (fun i hi => ?_) hsi.le r n ops.size _ β _ a (by simp) ?_ ?_ ?_
 ·cases hm : st.mem i with
  | none => rfl
  | some row =>
   obtain ⟨p, hp, _⟩ := hs.m.row i row hm
   rw [hs.n i hi] at hp
   cases hp
 ·simpa using List.countP_le_length (p := fun b => !b) (l := (Array.replicate ops.size false).toList)
 ·intro j hj
  exfalso
  have : (Array.replicate ops.size false).getD j false = false := by simp [Array.getD_eq_getD_getElem?, Array.getElem?_replicate]; split <;> rfl
  rw [this] at hj; cases hj
 ·refine ⟨?_, ?_, fun i hi _ => hs.n i hi, hsi.step.trans hdr, hsi.grow, hsi.size, hsi.defers⟩
  ·rw [hsame]; exact hs.e.step hdr
  ·rw [hsame]; exact hs.m.ext (Nat.le_refl _) fun _ _ => rfl
end
end Go.Abs
end
section
namespace Go.Abs
section
variable {P : Program} {F : Nat -> Prop}
theorem fz0_step {β β' : Pla} {w : World} {m : Mem} (hm : MSim P F m β w) {i : Nat} {cs : List D} {e : TypeId} (hrow : m i = some (.cells cs e)) (hβ : β' = up β i (some .dead)) {d : D} {v : Value} (h : R F β w d v) :
  R F β' w (fz0 i cs (P.cellsOf e) d) v := by
 have hs : Step β w β' w := by rw [hβ]; exact step_dead β w i
 have hstep := h.step hs
 obtain ⟨p, hp, hr⟩ := hm.row i _ hrow
 unfold fz0
 split
 ·rename_i j off n
  split
  ·rename_i hji
   subst hji
   cases h with
   | rsd _ _ _ _ h1 _ =>
    rw [h1] at hp
    cases hp
    cases hr
   | rsn _ a h1 =>
    rw [h1] at hp
    cases hp
    cases hr
    simp only [List.drop_nil, List.take_nil]
    exact .sln a 0
   | rsz _ _ a b o len room sz h1 =>
    simp only [Nat.zero_mul, List.take_zero]
    exact .sln a 0
   | rs _ _ _ cap b o len room sz h1 hn hmax h2 h3 =>
    rw [h1] at hp
    cases hp
    have hblk : β j = some (.cells b o len room sz) := h1
    obtain ⟨hrd, hl, hsz, _⟩ := hr.rd
    have hrd' := (hrd.drop off).take (n * P.cellsOf e)
    obtain ⟨us, u1, u2⟩ := hrd'
    refine .sl _ n b (o + off) cap us (hm.nf j _ b hblk rfl) ?_ (hm.lt j _ b hblk rfl) hn hmax u1 fun k d hk => (u2 k d hk).step hs
    rw [hβ]
    intro k q hq
    by_cases hkj : k = j
    ·subst hkj
     rw [up_same] at hq
     cases hq
     simp [Pl.blk]
    ·rw [up_ne _ _ hkj] at hq
     exact hm.free_other hblk rfl hq hkj
  ·exact hstep
 ·rename_i j off
  split
  ·rename_i hji
   subst hji
   cases h with
   | rpd _ _ _ h1 _ =>
    rw [h1] at hp
    cases hp
    cases hr
   | rp _ _ b o len room sz h1 =>
    rw [h1] at hp
    cases hp
    obtain ⟨hrd, hl, hsz, _⟩ := hr.rd
    obtain ⟨us, u1, u2⟩ := hrd.drop off
    refine .pt _ b (o + off) us (hm.nf j _ b h1 rfl) ?_ (hm.lt j _ b h1 rfl) u1 fun k d hk => (u2 k d hk).step hs
    rw [hβ]
    intro k q hq
    by_cases hkj : k = j
    ·subst hkj
     rw [up_same] at hq
     cases hq
     simp [Pl.blk]
    ·rw [up_ne _ _ hkj] at hq
     exact hm.free_other h1 rfl hq hkj
  ·exact hstep
 ·exact hstep
theorem fm0_step {β β' : Pla} {w : World} {m : Mem} (hm : MSim P F m β w) {i : Nat} {es : List (Value × D)} (hrow : m i = some (.map es)) (hβ : β' = up β i (some .dead)) {d : D} {v : Value} (h : R F β w d v) : R F β' w (fm0 i es d) v := by
 have hs : Step β w β' w := by rw [hβ]; exact step_dead β w i
 unfold fm0
 split
 ·rename_i j
  split
  ·rename_i hji
   subst hji
   obtain ⟨r, ms, clock, h1, rfl, h3, h4, h5, h6⟩ := h.mp_inv hm hrow
   refine .im es r ms clock (hm.nf j _ r h1 rfl) ?_ h3 h4 h5 (fun k x m hx hm => (h6 k x m hx hm).1) fun k x m hx hm => (h6 k x m hx hm).2.step hs
   rw [hβ]
   intro k q hq
   by_cases hkj : k = j
   ·subst hkj
    rw [up_same] at hq
    cases hq
    simp [Pl.blk]
   ·rw [up_ne _ _ hkj] at hq
    exact hm.free_other h1 rfl hq hkj
  ·exact h.step hs
 ·exact h.step hs
section subst
variable {σ : D -> D} {β β' : Pla} {w : World}
theorem sub1_step (hσ : ∀ {d v}, R F β w d v -> R F β' w (σ d) v) {d : D} {v : Value} (h : R F β w d v) : R F β' w (sub1 σ d) v := by
 unfold sub1
 split
 ·rename_i ds
  obtain ⟨vs, rfl, hl, hh⟩ := h.agg_inv
  refine .agg _ vs (by simpa using hl) fun k d v hd hv => ?_
  simp only [List.getElem?_map, Option.map_eq_some_iff] at hd
  obtain ⟨d', hd', rfl⟩ := hd
  exact hσ (hh k d' v hd' hv)
 ·cases h with
  | opt c d _ h1 h2 => exact .opt _ _ v (fun hc => hσ (h1 hc)) h2
 ·exact hσ h
theorem sub_step (hσ : ∀ {d v}, R F β w d v -> R F β' w (σ d) v) {d : D} {v : Value} (h : R F β w d v) : R F β' w (sub σ d) v := by
 have map : ∀ (ds : List D) (vs : List Value), (∀ (k : Nat) (d : D) (v : Value), ds[k]? = some d -> vs[k]? = some v -> R F β w d v) ->
   ∀ (k : Nat) (d : D) (v : Value), (ds.map (sub1 σ))[k]? = some d -> vs[k]? = some v -> R F β' w d v := fun ds vs hh k d v hd hv => by
  simp only [List.getElem?_map, Option.map_eq_some_iff] at hd
  obtain ⟨d', hd', rfl⟩ := hd
  exact sub1_step hσ (hh k d' v hd' hv)
 unfold sub
 split
 ·rename_i ds
  obtain ⟨vs, rfl, hl, hh⟩ := h.tup_inv
  exact .tup _ vs (by simpa using hl) (map ds vs hh)
 ·rename_i f fs ds
  cases h with
  | fn _ _ _ us vs hl hl' h1 h2 => exact .fn f _ _ us vs (by simpa using hl) (by simpa using hl') (map fs us h1) (map ds vs h2)
 ·exact sub1_step hσ h
theorem sub_row (hσ : ∀ {d v}, R F β w d v -> R F β' w (σ d) v) (hs : Step β w β' w) {r : Row} {p : Pl} (h : RowR P F β w r p) : RowR P F β' w (r.sub σ) p := by
 cases h with
 | nil e' => exact .nil e'
 | cells ds e' b o room sz c hc hr hlen hsz hh =>
  have := RowR.cells (P := P) (F := F) (β := β') (w := w) (ds.map (Abs.sub σ)) e' b o room sz c hc hr (by simpa using hlen) hsz fun k d hk => by
   simp only [List.getElem?_map, Option.map_eq_some_iff] at hk
   obtain ⟨d', hd', rfl⟩ := hk
   obtain ⟨v, h1, h2, h3⟩ := hh k d' hd'
   exact ⟨v, h1, sub_step hσ h2, h3⟩
  simpa [Row.sub] using this
 | map es r ms clock hc hl hnd hh =>
  refine .map _ r ms clock hc (by simpa using hl) (by simpa [List.map_map, Function.comp_def] using hnd) fun k x mm hk hmk => ?_
  simp only [List.getElem?_map, Option.map_eq_some_iff] at hk
  obtain ⟨x', hx', rfl⟩ := hk
  obtain ⟨h1, h2⟩ := hh k x' mm hx' hmk
  exact ⟨h1, sub_step hσ h2⟩
 | raw r o hc => exact .raw r o hc
 | ren f r _ F₂ h1 h2 h => exact (RowR.ren f r p F₂ h1 h2 h).step hs fun _ _ => rfl
end subst
theorem subst_sound {σ : D -> D} {env : Env} {m : Mem} {nx i : Nat} {row : Row} (h : m i = some row) {w : World} {a : Act} {β : Pla} (hs : Sim P F ⟨env, m, nx⟩ β w a) (hσ : ∀ {d v}, R F β w d v -> R F (up β i (some .dead)) w (σ d) v) :
  ∃ β', Sim P F ⟨fun t => sub σ (env t), fun j => if j = i then none else (m j).map (Row.sub σ), nx⟩ β' w a /\ Since nx β w a ⟨fun t => sub σ (env t), fun j => if j = i then none else (m j).map (Row.sub σ), nx⟩ β' w a := by
 have hstep := step_dead β w i
 have hm := hs.m
 simp only at hm
 have hsub : ∀ j q b, up β i (some .dead) j = some q -> q.blk = some b -> j ≠ i /\ β j = some q := fun j q b hq e => by
  by_cases hj : j = i
  ·subst hj
   rw [up_same] at hq
   cases hq
   simp [Pl.blk] at e
  ·rw [up_ne _ _ hj] at hq
   exact ⟨hj, hq⟩
 have hi : ∃ p, β i = some p := by
  obtain ⟨p, hp, _⟩ := hm.row i _ h
  exact ⟨p, hp⟩
 refine ⟨up β i (some .dead), ⟨fun t => sub_step hσ (hs.e t), ⟨fun j r hj => ?_, fun j k q q' b hq hq' e1 e2 => hm.inj j k q q' b (hsub j q b hq e1).2 (hsub k q' b hq' e2).2 e1 e2,
  fun j q b hq e1 => hm.lt j q b (hsub j q b hq e1).2 e1, fun j q b hq e1 => hm.nf j q b (hsub j q b hq e1).2 e1, hm.fb⟩, fun j hj => ?_⟩, ⟨hstep, Nat.le_refl _, fun j hj hn => ?_, rfl, rfl⟩⟩
 ·simp only at hj
  by_cases hji : j = i
  ·rw [if_pos hji] at hj; cases hj
  ·rw [if_neg hji] at hj
   simp only [Option.map_eq_some_iff] at hj
   obtain ⟨r', hr', rfl⟩ := hj
   obtain ⟨q, hq, hrow⟩ := hm.row j r' hr'
   exact ⟨q, by rw [up_ne _ _ hji]; exact hq, sub_row hσ hstep hrow⟩
 ·have hji : j ≠ i := fun e1 => by
   subst e1
   obtain ⟨p, hp⟩ := hi
   rw [hs.n j hj] at hp
   cases hp
  rw [up_ne _ _ hji]; exact hs.n j hj
 ·have hji : j ≠ i := fun e1 => by
   subst e1
   obtain ⟨p, hp⟩ := hi
   rw [hn] at hp
   cases hp
  rw [up_ne _ _ hji]; exact hn
theorem weak_row {β : Pla} {w : World} {cs cs' : List D} {e : TypeId} {p : Pl} (hl : cs'.length = cs.length) (hw : ∀ (k : Nat) (d d' : D), cs[k]? = some d -> cs'[k]? = some d' -> Wk d d') (h : RowR P F β w (.cells cs e) p) : RowR P F β w (.cells cs' e) p := by
 cases h with
 | nil _ =>
  have : cs' = [] := List.length_eq_zero_iff.1 (by simpa using hl)
  subst this
  exact .nil e
 | cells _ _ b o room sz c hc hr hlen hsz hh =>
  rw [<- hl]
  refine .cells cs' e b o room sz c hc hr oG hsz fun k d' hd' => ?_
  have hk : k < cs.length := by rw [<- hl]; exact (List.getElem?_eq_some_iff.1 hd').1
  obtain ⟨v, h1, h2, h3⟩ := hh k cs[k] (by simp [hk])
  exact ⟨v, h1, hw k cs[k] d' (by simp [hk]) hd' _ _ _ _ h2, h3⟩
theorem ghost_sound {st st' : St} (h : Ghost P st st') {w : World} {a : Act} : ∀ {β : Pla}, Sim P F st β w a -> ∃ β', Sim P F st' β' w a /\ Since st.nx β w a st' β' w a := by
 induction h with
 | refl st => exact fun {β} hs => ⟨β, hs, Since.refl st β w a⟩
 | trans _ _ ih₁ ih₂ =>
  intro β hs
  obtain ⟨β₁, h1, h2⟩ := ih₁ hs
  obtain ⟨β₂, h3, h4⟩ := ih₂ h1
  exact ⟨β₂, h3, h2.trans h4⟩
 | forget env env' m nx h =>
  intro β hs
  refine ⟨β, ⟨fun t => ?_, hs.m, hs.n⟩, ⟨Step.refl β w, Nat.le_refl _, fun _ _ h => h, rfl, rfl⟩⟩
  rcases h t with h1 | h1
  ·simp only [h1]; exact hs.e t
  ·simp only [h1]; exact .u _
 | drop env m m' nx h =>
  intro β hs
  refine ⟨β, ⟨hs.e, ⟨fun i r hi => ?_, hs.m.inj, hs.m.lt, hs.m.nf, hs.m.fb⟩, hs.n⟩, ⟨Step.refl β w, Nat.le_refl _, fun _ _ h => h, rfl, rfl⟩⟩
  rcases h i with h1 | h1
  ·exact hs.m.row i r (h1.symm.trans hi)
  ·simp only at hi; rw [h1] at hi; cases hi
 | weak env env' m m' nx h hmm =>
  intro β hs
  refine ⟨β, ⟨fun t => h t _ _ _ _ (hs.e t), ⟨fun i r hi => ?_, hs.m.inj, hs.m.lt, hs.m.nf, hs.m.fb⟩, hs.n⟩, ⟨Step.refl β w, Nat.le_refl _, fun _ _ h => h, rfl, rfl⟩⟩
  rcases hmm i with h1 | ⟨cs, cs', e, h1, h2, h3, h4⟩
  ·exact hs.m.row i r (h1.symm.trans hi)
  ·simp only at hi
   rw [h2] at hi
   cases hi
   obtain ⟨p, hp, hr⟩ := hs.m.row i _ h1
   exact ⟨p, hp, weak_row h3 h4 hr⟩
 | freeze env m nx i cs e h =>
  intro β hs
  exact subst_sound h hs fun hr => fz0_step hs.m h rfl hr
 | freezeM env m nx i es h =>
  intro β hs
  exact subst_sound h hs fun hr => fm0_step hs.m h rfl hr
 | nilrow env m nx t e h =>
  intro β hs
  have hm := hs.m
  have hn : β nx = none := hs.n nx (Nat.le_refl _)
  simp only at hm
  have hsub : ∀ j q b, up β nx (some .nil) j = some q -> q.blk = some b -> j ≠ nx /\ β j = some q := fun j q b hq e => by
   by_cases hj : j = nx
   ·subst hj
    rw [up_same] at hq
    cases hq
    simp [Pl.blk] at e
   ·rw [up_ne _ _ hj] at hq
    exact ⟨hj, hq⟩
  have hstep : Step β w (up β nx (some .nil)) w := by
   refine ⟨Nat.le_refl _, fun b _ hf => ⟨rfl, fun j q hq e1 => ?_⟩, fun j q hq => .inl ?_, rfl, rfl⟩
   ·exact hf j q (hsub j q b hq e1).2 e1
   ·rw [up_ne _ _ (fun e1 => by rw [e1, hn] at hq; cases hq)]; exact hq
  refine ⟨up β nx (some .nil), ⟨fun u => ?_, ⟨fun j r hj => ?_, fun j k q q' b hq hq' e1 e2 => hm.inj j k q q' b (hsub j q b hq e1).2 (hsub k q' b hq' e2).2 e1 e2,
   fun j q b hq e1 => hm.lt j q b (hsub j q b hq e1).2 e1, fun j q b hq e1 => hm.nf j q b (hsub j q b hq e1).2 e1, hm.fb⟩, fun j hj => ?_⟩, ⟨hstep, Nat.le_succ _, fun j hj hb => ?_, rfl, rfl⟩⟩
  ·by_cases hu : u = t
   ·subst hu
    have h1 := hs.e u
    simp only at h1
    rw [h] at h1
    obtain ⟨x, hx⟩ := h1.z_inv
    simp only [up_same, hx]
    exact .rsn nx x (up_same _ _ _)
   ·simp only [up_ne _ _ hu]
    exact (hs.e u).step hstep
  ·simp only at hj
   by_cases hji : j = nx
   ·subst hji
    rw [up_same] at hj
    cases hj
    exact ⟨.nil, up_same _ _ _, .nil e⟩
   ·rw [up_ne _ _ hji] at hj
    obtain ⟨q, hq, hrow⟩ := hm.row j r hj
    exact ⟨q, by rw [up_ne _ _ hji]; exact hq, hrow.step hstep fun _ _ => rfl⟩
  ·simp only at hj
   rw [up_ne _ _ (show j ≠ nx by omega)]
   exact hs.n j (by simp only; omega)
  ·simp only at hj
   rw [up_ne _ _ (show j ≠ nx by omega)]
   exact hb
def codeLt (N : Nat) : Code -> Bool
 | .region _ ops _ => opsLt N ops
 | .seq a b => codeLt N a && codeLt N b
 | .cond _ a b => codeLt N a && codeLt N b
 | .block _ b => codeLt N b
 | .loop b => codeLt N b
 | .scope b => codeLt N b
 | .rangeFunc _ ps a b => (ps.toList.all fun t => Nat.blt t N) && (codeLt N a && codeLt N b)
 | _ => true
theorem wpIn_loop_rel {Fc : Fence} {n : Nat} {Q : Exit -> Act -> World -> Prop} {c : Code} (J : Nat -> Act -> World -> Prop) {j₀ : Nat} {a : Act} {w : World} (h₀ : J j₀ a w)
  (round : ∀ j a w, J j a w -> c.wpIn Fc n P (Exit.then (fun a' w' => ∃ j', j' < j /\ J j' a' w') Q) a w) : (Code.loop c).wpIn Fc n P Q a w := by
 intro b k cs hro hb hr
 have key : ∀ j a w, J j a w ->
   ∃ e a' w', Q e a' w' /\ ArrivesIn (Machine.fenced P Fc) P (lone (b.atR a (.code c :: .inLoop c :: k)) cs w) b k cs e a' w' := by
  intro j
  induction j using Nat.strongRecOn with
  | _ j ih =>
   intro a w hI
   obtain ⟨e, a₁, w₁, hq, harr⟩ := round j a w hI b (.inLoop c :: k) cs hro hb hr
   cases e with
   | normal =>
    obtain ⟨j', hlt, hI₁⟩ := hq
    obtain ⟨e₂, a₂, w₂, hq₂, harr₂⟩ := ih j' hlt a₁ w₁ hI₁
    exact ⟨e₂, a₂, w₂, hq₂, .of_steps (StepsIn.trans harr (.one (fenced_calm hb hr rfl) stepR_inLoop)) harr₂⟩
   | exit id => exact ⟨_, a₁, w₁, hq, .pass (x := .inLoop c) rfl (fun _ _ => .inl (by simp)) harr⟩
   | goto l => exact ⟨_, a₁, w₁, hq, .pass (x := .inLoop c) rfl (fun _ _ => .inl (by simp)) harr⟩
   | ret => exact ⟨_, a₁, w₁, hq, .pass (x := .inLoop c) rfl (fun _ _ => .inl (by simp)) harr⟩
   | panic ch => exact ⟨_, a₁, w₁, hq, .pass (x := .inLoop c) rfl (fun _ _ => .inl (by simp)) harr⟩
   | outgrown => exact ⟨_, a₁, w₁, hq, .pass (x := .inLoop c) rfl (fun _ _ => .inl (by simp)) harr⟩
 obtain ⟨e, a', w', hq, harr⟩ := key _ a w h₀
 exact ⟨e, a', w', hq, .of_steps (.one (fenced_calm hb hr rfl) stepR_loop) harr⟩
def mark (b : Nat) : Deferred := { target := .collected b, args := #[] }
def Marks (β : Pla) (w : World) (lo : Nat) : List Deferred -> Nat -> Prop
 | [], _ => True
 | d :: ds, hi => ∃ b, d = mark b /\ lo <= b /\ b < hi /\ w.heap[b]? = some (.deferred (some [])) /\ β.free b /\ Marks β w lo ds b
theorem Marks.step {β β' : Pla} {w w' : World} (hs : Step β w β' w') {lo : Nat} : ∀ {ds : List Deferred} {hi : Nat}, hi <= w.heap.size -> Marks β w lo ds hi -> Marks β' w' lo ds hi
 | [], _, _, _ => trivial
 | d :: ds, hi, hle, ⟨b, h1, h2, h3, h4, h5, h6⟩ => by
  obtain ⟨g1, g2⟩ := hs.imm b oG h5
  exact ⟨b, h1, h2, h3, g1.trans h4, g2, Marks.step hs oG h6⟩
theorem Marks.mono {β : Pla} {w : World} {lo hi hi' : Nat} (h : hi <= hi') : ∀ {ds : List Deferred}, Marks β w lo ds hi -> Marks β w lo ds hi'
 | [], _ => trivial
 | _ :: _, ⟨b, h1, h2, h3, h4⟩ => ⟨b, h1, h2, by omega, h4⟩
theorem Marks.append {β : Pla} {w : World} {lo mid : Nat} (hlm : lo <= mid) {ds' : List Deferred} : ∀ {ds : List Deferred} {hi : Nat}, mid <= hi -> Marks β w mid ds hi -> Marks β w lo ds' mid -> Marks β w lo (ds ++ ds') hi
 | [], _, hle, _, h' => Marks.mono hle h'
 | _ :: _, _, _, ⟨b, h1, h2, h3, h4, h5, h6⟩, h' => ⟨b, h1, by omega, h3, h4, h5, Marks.append hlm h2 h6 h'⟩
structure Big (N : Nat) (β : Pla) (w : World) (a : Act) (st' : St) (β' : Pla) (w' : World) (a' : Act) : Prop where
 step : Step β w β' w'
 le : N <= st'.nx
 grow : ∀ i, i < N -> β i = none -> β' i = none
 size : a'.tmps.size = a.tmps.size
 defers : ∃ ds, a'.defers = ds ++ a.defers /\ Marks β' w' w.heap.size ds w'.heap.size
theorem Since.big {N : Nat} {β β' : Pla} {w w' : World} {a a' : Act} {st' : St} (h : Since N β w a st' β' w' a') : Big N β w a st' β' w' a' :=
 ⟨h.step, h.le, h.grow, h.size, [], h.defers, trivial⟩
theorem Big.trans {N : Nat} {β β₁ β₂ : Pla} {w w₁ w₂ : World} {a a₁ a₂ : Act} {st₁ st₂ : St} (h : Big N β w a st₁ β₁ w₁ a₁) (k : Big st₁.nx β₁ w₁ a₁ st₂ β₂ w₂ a₂) : Big N β w a st₂ β₂ w₂ a₂ := by
 obtain ⟨ds, e1, h1⟩ := h.defers
 obtain ⟨ds', e2, h2⟩ := k.defers
 exact ⟨h.step.trans k.step, Nat.le_trans h.le k.le, fun i hi hn => k.grow i (Nat.lt_of_lt_of_le hi h.le) (h.grow i hi hn), k.size.trans h.size, ds' ++ ds, by rw [e2, e1, List.append_assoc],
  Marks.append h.step.size k.step.size h2 (h1.step k.step (Nat.le_refl _))⟩
theorem Big.since {N : Nat} {β β₁ β₂ : Pla} {w w₁ w₂ : World} {a a₁ a₂ : Act} {st₁ st₂ : St} (h : Big N β w a st₁ β₁ w₁ a₁) (k : Since st₁.nx β₁ w₁ a₁ st₂ β₂ w₂ a₂) : Big N β w a st₂ β₂ w₂ a₂ := h.trans k.big
def PostB (P : Program) (F : Nat -> Prop) (N : Nat) (β : Pla) (w : World) (a : Act) (Q : Exit -> St -> Prop) (e : Exit) (a' : Act) (w' : World) : Prop :=
 ∃ st' β', Q e st' /\ Sim P F st' β' w' a' /\ Big N β w a st' β' w' a'
theorem YCall.base {βb : Pla} {wb : World} {β : Pla} {w : World} (hs : Step βb wb β w) {l : Nat} {args : List D} {m : Mem} {nx : Nat} {K : D -> Mem -> Nat -> Prop} (h : YCall P F βb wb l args m nx K) : YCall P F β w l args m nx K :=
 fun β' w' us hs' => h β' w' us (hs.trans hs')
theorem free_other {β : Pla} {i : Nat} {p : Option Pl} {b : Nat} (h : β.free b) (hp : ∀ q, p = some q -> q.blk ≠ some b) : Pla.free (up β i p) b := fun j q hq => by
 by_cases hj : j = i
 ·subst hj; rw [up_same] at hq; exact hp q hq
 ·rw [up_ne _ _ hj] at hq; exact h j q hq
theorem R.putF {β : Pla} {w : World} {l : Nat} (hF : F l) (o : Obj) {d : D} {v : Value} (h : R F β w d v) : R F β (w.putObj l o) d v :=
 h.gen (by simp) (fun b _ hb hf => ⟨same_of (World.putObj_heap_other fun e => hb (e ▸ hF)), hf, hb⟩) fun _ _ _ h => .inl h
theorem RowR.putF {β : Pla} {w : World} {l : Nat} (hF : F l) (o : Obj) {r : Row} {p : Pl} (hp : ∀ b, p.blk = some b -> b ≠ l) (h : RowR P F β w r p) : RowR P F β (w.putObj l o) r p :=
 h.gen (by simp) (fun b _ hb hf => ⟨same_of (World.putObj_heap_other fun e => hb (e ▸ hF)), hf, hb⟩) (fun _ _ _ h => .inl h) fun b hb => World.putObj_heap_other (hp b hb)
theorem MSim.putF {m : Mem} {β : Pla} {w : World} {l : Nat} (hF : F l) (o : Obj) (h : MSim P F m β w) : MSim P F m β (w.putObj l o) :=
 ⟨fun i r hi => by
  obtain ⟨p, hp, hr⟩ := h.row i r hi
  exact ⟨p, hp, hr.putF hF o fun b hb e => h.nf i p b hp hb (e ▸ hF)⟩, h.inj, fun i p b hp hb => by simpa using h.lt i p b hp hb, h.nf, fun b hb => by simpa using h.fb b hb⟩
theorem Sim.putF {st : St} {β : Pla} {w : World} {a : Act} {l : Nat} (hF : F l) (o : Obj) (h : Sim P F st β w a) : Sim P F st β (w.putObj l o) a :=
 ⟨fun t => (h.e t).putF hF o, h.m.putF hF o, h.n⟩
theorem R.weak {F' : Nat -> Prop} (hF : ∀ b, F' b -> F b) {β : Pla} {w : World} {d : D} {v : Value} (h : R F β w d v) : R F' β w d v :=
 h.gen (Nat.le_refl _) (fun b _ hb hf => ⟨SameB.refl w b, hf, fun e => hb (hF b e)⟩) fun _ _ _ h => .inl h
theorem MSim.weak {F' : Nat -> Prop} (hF : ∀ b, F' b -> F b) {m : Mem} {β : Pla} {w : World} (h : MSim P F m β w) : MSim P F' m β w :=
 ⟨fun i r hi => by
  obtain ⟨p, hp, hr⟩ := h.row i r hi
  exact ⟨p, hp, hr.gen (Nat.le_refl _) (fun b _ hb hf => ⟨SameB.refl w b, hf, fun e => hb (hF b e)⟩) (fun _ _ _ h => .inl h) fun _ _ => rfl⟩, h.inj, h.lt, fun i p b hp hb e => h.nf i p b hp hb (hF b e), fun b hb => h.fb b (hF b hb)⟩
theorem not_free {β : Pla} {b : Nat} (h : ¬ β.free b) : ∃ i p, β i = some p /\ p.blk = some b := by
 unfold Pla.free at h
 simp only [Classical.not_forall] at h
 obtain ⟨i, p, hp, hb⟩ := h
 exact ⟨i, p, hp, Decidable.not_not.1 hb⟩
structure View (il n₀ : Nat) (f : Nat -> Option Nat) (mc : Mem) (nc : Nat) (m : Mem) (nx : Nat) : Prop where
 low : n₀ <= nc
 lt : il < nx
 id : ∀ i, i < n₀ -> f i = some i
 dom : ∀ i, i < nc -> ∃ j, f i = some j /\ j < nx /\ j ≠ il
 out : ∀ i, nc <= i -> f i = none
 inj : ∀ i i' j, f i = some j -> f i' = some j -> i = i'
 rows : ∀ i r, mc i = some r -> ∃ j, f i = some j /\ m j = some (r.renB f)
theorem View.dom' {il n₀ : Nat} {f : Nat -> Option Nat} {mc : Mem} {nc : Nat} {m : Mem} {nx : Nat} (h : View il n₀ f mc nc m nx) {i j : Nat} (hf : f i = some j) : i < nc /\ j < nx /\ j ≠ il := by
 rcases Nat.lt_or_ge i nc with hlt | hge
 ·obtain ⟨j', h1, h2, h3⟩ := h.dom i hlt
  rw [hf] at h1; cases h1
  exact ⟨hlt, h2, h3⟩
 ·rw [h.out i hge] at hf; cases hf
theorem View.ext {il n₀ : Nat} {f : Nat -> Option Nat} {mc : Mem} {nc : Nat} {m m' : Mem} {nx nx' : Nat} (h : View il n₀ f mc nc m nx) (hle : nx <= nx') (he : ∀ i, i < nx -> m' i = m i) : View il n₀ f mc nc m' nx' :=
 ⟨h.low, Nat.lt_of_lt_of_le h.lt hle, h.id, fun i hi => by
  obtain ⟨j, h1, h2, h3⟩ := h.dom i hi
  exact ⟨j, h1, by omega, h3⟩, h.out, h.inj, fun i r hi => by
  obtain ⟨j, h1, h2⟩ := h.rows i r hi
  exact ⟨j, h1, (he j (h.dom' h1).2.1).trans h2⟩⟩
theorem hidden_lt {f : Nat -> Option Nat} {m : Mem} {β : Pla} {w : World} (hm : MSim P F m β w) {b : Nat} (h : hidden F β f b) : b < w.heap.size := by
 rcases h with h | ⟨h, _⟩
 ·exact hm.fb b h
 ·obtain ⟨i, p, hp, hb⟩ := not_free h
  exact hm.lt i p b hp hb
theorem View.enter {il n₀ : Nat} {f : Nat -> Option Nat} {mc : Mem} {nc : Nat} {m : Mem} {nx : Nat} (h : View il n₀ f mc nc m nx) {β : Pla} {w : World} (hm : MSim P F m β w) :
  MSim P (hidden F β f) mc (β.via f) w /\ ∀ i, nc <= i -> (β.via f) i = none := by
 have look : ∀ i p, (β.via f) i = some p -> ∃ j, f i = some j /\ β j = some p := fun i p hp => Option.bind_eq_some_iff.1 hp
 refine ⟨⟨fun i r hi => ?_, fun i i' p q b hp hq e e' => ?_, fun i p b hp e => ?_, fun i p b hp e hF => ?_, fun b hb => hidden_lt hm hb⟩, fun i hi => ?_⟩
 ·obtain ⟨j, h1, h2⟩ := h.rows i r hi
  obtain ⟨p, hp, hr⟩ := hm.row j _ h2
  exact ⟨p, by simp [Pla.via, h1, hp], hr.seen⟩
 ·obtain ⟨j, h1, h2⟩ := look i p hp
  obtain ⟨j', h3, h4⟩ := look i' q hq
  have := hm.inj j j' p q b h2 h4 e e'
  subst this
  exact h.inj i i' j h1 h3
 ·obtain ⟨j, h1, h2⟩ := look i p hp
  exact hm.lt j p b h2 e
 ·obtain ⟨j, h1, h2⟩ := look i p hp
  rcases hF with hF | ⟨_, hF⟩
  ·exact hm.nf j p b h2 e hF
  ·exact hF i p hp e
 ·simp [Pla.via, h.out i hi]
theorem MSim.rawAt {m : Mem} {β : Pla} {w : World} {i l : Nat} {o : Obj} (h : MSim P F m β w) (hm : m i = some (.raw l o)) : β i = some (.raw l) /\ w.heap[l]? = some o /\ ¬ F l /\ l < w.heap.size := by
 obtain ⟨p, hp, hr⟩ := h.row i _ hm
 cases hr with
 | raw _ _ hc => exact ⟨hp, hc, h.nf i _ l hp rfl, h.lt i _ l hp rfl⟩
theorem View.foreign {il n₀ : Nat} {f : Nat -> Option Nat} {mc : Mem} {nc : Nat} {m : Mem} {nx : Nat} (h : View il n₀ f mc nc m nx) {β : Pla} {w : World} (hm : MSim P F m β w) {j : Nat} {p : Pl} {b : Nat} (hj : ∀ i, f i ≠ some j) (hp : β j = some p) (hb : p.blk = some b) :
  (β.via f).free b /\ hidden F β f b := by
 have hfree : (β.via f).free b := fun i q hq e => by
  obtain ⟨j', h1, h2⟩ := Option.bind_eq_some_iff.1 hq
  exact hj i (hm.inj j' j q p b h2 hp e hb ▸ h1)
 exact ⟨hfree, .inr ⟨fun e => e j p hp hb, hfree⟩⟩
structure StepX (l : Nat) (β : Pla) (w : World) (β' : Pla) (w' : World) : Prop where
 size : w.heap.size <= w'.heap.size
 imm : ∀ b, b < w.heap.size -> b ≠ l -> β.free b -> w'.heap[b]? = w.heap[b]? /\ β'.free b
 keep : ∀ i p, β i = some p -> β' i = some p \/ β' i = some .dead
 out : Out w w'
theorem Step.x {β β' : Pla} {w w' : World} (h : Step β w β' w') (l : Nat) : StepX l β w β' w' := ⟨h.size, fun b hb _ => h.imm b hb, h.keep, h.out⟩
theorem StepX.trans {l : Nat} {β₁ β₂ β₃ : Pla} {w₁ w₂ w₃ : World} (h : StepX l β₁ w₁ β₂ w₂) (k : StepX l β₂ w₂ β₃ w₃) : StepX l β₁ w₁ β₃ w₃ := by
 refine ⟨Nat.le_trans h.size k.size, fun b hb hne hf => ?_, fun i p hp => ?_, h.out.trans k.out⟩
 ·obtain ⟨h1, h2⟩ := h.imm b hb hne hf
  obtain ⟨k1, k2⟩ := k.imm b (Nat.lt_of_lt_of_le hb h.size) hne h2
  exact ⟨k1.trans h1, k2⟩
 ·rcases h.keep i p hp with h1 | h1
  ·exact k.keep i p h1
  ·right
   rcases k.keep i _ h1 with h2 | h2 <;> exact h2
theorem StepX.put (l : Nat) (β : Pla) (w : World) (o : Obj) : StepX l β w β (w.putObj l o) := ⟨by simp, fun b _ hne hf => ⟨World.putObj_heap_other hne, hf⟩, fun _ _ h => .inl h, rfl, rfl⟩
theorem find_spec {n j : Nat} {f : Nat -> Option Nat} (hinj : ∀ i i' j, f i = some j -> f i' = some j -> i = i') :
  (∀ i, (List.range n).find? (fun i => f i == some j) = some i -> f i = some j /\ i < n) /\ (∀ i, i < n -> f i = some j -> (List.range n).find? (fun i => f i == some j) = some i) := by
 refine ⟨fun i hi => ⟨by simpa using List.find?_some hi, by simpa using List.mem_of_find?_eq_some hi⟩, fun i hi hf => ?_⟩
 cases h : (List.range n).find? (fun i => f i == some j) with
 | none =>
  have := List.find?_eq_none.1 h i (by simpa using hi)
  simp [hf] at this
 | some k => rw [hinj i k j hf (by simpa using List.find?_some h)]
theorem View.leave {il n₀ : Nat} {f : Nat -> Option Nat} {mc : Mem} {nc : Nat} {m : Mem} {nx : Nat} (h : View il n₀ f mc nc m nx) {β : Pla} {w : World} (hm : MSim P F m β w) (hn : ∀ i, nx <= i -> β i = none) {l : Nat} {o o' : Obj} (hl : m il = some (.raw l o))
  {m' : Mem} {nc' : Nat} {β' : Pla} {w' : World} (hm' : MSim P (hidden F β f) m' β' w') (hs : StepX l (β.via f) w β' w') (hn' : ∀ i, nc' <= i -> β' i = none) (hle : nc <= nc') (hg : ∀ i, i < nc -> (β.via f) i = none -> β' i = none) (ho : w'.heap[l]? = some o') :
  ∃ f' m'' nx'' β'', View il n₀ f' m' nc' m'' nx'' /\ m'' il = some (.raw l o') /\ MSim P F m'' β'' w' /\ (∀ i, nx'' <= i -> β'' i = none) /\ Step β w β'' w' /\ nx <= nx'' /\ ∀ i, i < nx -> β i = none -> β'' i = none := by
 obtain ⟨hβl, hol, hFl, hlt⟩ := hm.rawAt hl
 let f' : Nat -> Option Nat := fun i => if i < nc then f i else if i < nc' then some (nx + (i - nc)) else none
 have f'old : ∀ i, i < nc -> f' i = f i := fun i hi => by simp [f', hi]
 have f'new : ∀ i, nc <= i -> i < nc' -> f' i = some (nx + (i - nc)) := fun i h1 h2 => by simp [f', h2, Nat.not_lt.2 h1]
 have f'out : ∀ i, nc' <= i -> f' i = none := fun i h1 => by simp [f', Nat.not_lt.2 h1, Nat.not_lt.2 (Nat.le_trans hle h1)]
 have f'cases : ∀ i j, f' i = some j -> (f i = some j /\ i < nc /\ j < nx) \/ (nc <= i /\ i < nc' /\ j = nx + (i - nc)) := fun i j hf => by
  rcases Nat.lt_or_ge i nc with h1 | h1
  ·rw [f'old i h1] at hf; exact .inl ⟨hf, h.dom' hf |>.1, (h.dom' hf).2.1⟩
  ·rcases Nat.lt_or_ge i nc' with h2 | h2
   ·rw [f'new i h1 h2] at hf; cases hf; exact .inr ⟨h1, h2, rfl⟩
   ·rw [f'out i h2] at hf; cases hf
 have f'inj : ∀ i i' j, f' i = some j -> f' i' = some j -> i = i' := fun i i' j h1 h2 => by
  rcases f'cases i j h1 with ⟨a1, a2, a3⟩ | ⟨a1, a2, a3⟩ <;> rcases f'cases i' j h2 with ⟨b1, b2, b3⟩ | ⟨b1, b2, b3⟩
  ·exact h.inj i i' j a1 b1
  ·omega
  ·omega
  ·omega
 let inv : Nat -> Option Nat := fun j => (List.range nc').find? fun i => f' i == some j
 have invs : ∀ i j, inv j = some i -> f' i = some j := fun i j hi => ((find_spec f'inj).1 i hi).1
 have invf : ∀ i j, f' i = some j -> inv j = some i := fun i j hf => (find_spec f'inj).2 i (by rcases f'cases i j hf with h1 | h1 <;> omega) hf
 have invn : ∀ j, inv j = none -> ∀ i, f i ≠ some j := fun j hj i hf => by
  have := invf i j (by rw [f'old i (h.dom' hf).1]; exact hf)
  rw [hj] at this; cases this
 let β'' : Pla := fun j => match inv j with | some i => β' i | none => β j
 let m'' : Mem := fun j => match inv j with | some i => (m' i).map (Row.renB f') | none => if j = il then some (.raw l o') else m j
 have βs : ∀ i j, f' i = some j -> β'' j = β' i := fun i j hf => by simp [β'', invf i j hf]
 have βn : ∀ j, inv j = none -> β'' j = β j := fun j hj => by simp [β'', hj]
 have ilnone : inv il = none := by
  cases hi : inv il with
  | none => rfl
  | some i =>
   rcases f'cases i il (invs i il hi) with ⟨a1, a2, a3⟩ | ⟨a1, a2, a3⟩
   ·exact absurd rfl (h.dom' a1).2.2
   ·have := h.lt; omega
 have via : β''.via f' = β' := by
  funext i
  simp only [Pla.via]
  cases hf : f' i with
  | some j => exact βs i j hf
  | none =>
   rcases Nat.lt_or_ge i nc' with h1 | h1
   ·rcases Nat.lt_or_ge i nc with h2 | h2
    ·obtain ⟨j, h3, _⟩ := h.dom i h2
     rw [f'old i h2, h3] at hf; cases hf
    ·rw [f'new i h2 h1] at hf; cases hf
   ·exact (hn' i h1).symm
 have look : ∀ j p, β'' j = some p -> (∃ i, inv j = some i /\ f' i = some j /\ β' i = some p) \/ (inv j = none /\ β j = some p) := fun j p hp => by
  cases hi : inv j with
  | some i => exact .inl ⟨i, rfl, invs i j hi, by rw [<- βs i j (invs i j hi)]; exact hp⟩
  | none => exact .inr ⟨rfl, by rw [<- βn j hi]; exact hp⟩
 have lblk : ∀ b, β.free b -> b ≠ l := fun b hb e => hb il _ hβl (e ▸ rfl)
 have imm : ∀ b, b < w.heap.size -> β.free b -> w'.heap[b]? = w.heap[b]? /\ β''.free b := fun b hb hf => by
  obtain ⟨h1, h2⟩ := hs.imm b hb (lblk b hf) (Pla.free_via hf f)
  refine ⟨h1, fun j p hp => ?_⟩
  rcases look j p hp with ⟨i, _, _, h4⟩ | ⟨_, h4⟩
  ·exact h2 i p h4
  ·exact hf j p h4
 have keep : ∀ j p, β j = some p -> β'' j = some p \/ β'' j = some .dead := fun j p hp => by
  cases hi : inv j with
  | none => exact .inl ((βn j hi).trans hp)
  | some i =>
   have hf := invs i j hi
   rw [βs i j hf]
   rcases f'cases i j hf with ⟨a1, a2, a3⟩ | ⟨a1, a2, a3⟩
   ·exact hs.keep i p (by simp [Pla.via, a1, hp])
   ·rw [hn j oG] at hp; cases hp
 have own : ∀ j p b, inv j = none -> β j = some p -> p.blk = some b -> hidden F β f b /\ (b ≠ l -> b < w.heap.size /\ w'.heap[b]? = w.heap[b]?) := fun j p b hj hp hb => by
  obtain ⟨h1, h2⟩ := h.foreign hm (invn j hj) hp hb
  exact ⟨h2, fun hne => ⟨hm.lt j p b hp hb, (hs.imm b (hm.lt j p b hp hb) hne h1).1⟩⟩
 refine ⟨f', m'', nx + (nc' - nc), β'', ⟨Nat.le_trans h.low hle, by have := h.lt; omega, fun i hi => ?_, fun i hi => ?_, f'out, f'inj, fun i r hi => ?_⟩, ?_, ⟨fun j r hj => ?_, fun i j p q b hp hq e e' => ?_, fun j p b hp e => ?_, fun j p b hp e hF => ?_, fun b hb => ?_⟩, fun i hi => ?_, ⟨hs.size, imm, keep, hs.out⟩, by omega, fun i hi hb => ?_⟩
 ·rw [f'old i (Nat.lt_of_lt_of_le hi h.low)]; exact h.id i hi
 ·rcases Nat.lt_or_ge i nc with h1 | h1
  ·obtain ⟨j, h2, h3, h4⟩ := h.dom i h1
   exact ⟨j, by rw [f'old i h1]; exact h2, by omega, h4⟩
  ·exact ⟨_, f'new i h1 hi, by omega, by have := h.lt; omega⟩
 ·obtain ⟨p, hp, _⟩ := hm'.row i r hi
  have : ∃ j, f' i = some j := by
   rw [<- via] at hp
   obtain ⟨j, h1, _⟩ := Option.bind_eq_some_iff.1 hp
   exact ⟨j, h1⟩
  obtain ⟨j, hj⟩ := this
  exact ⟨j, hj, by simp [m'', invf i j hj, hi]⟩
 ·simp [m'', ilnone]
 ·cases hi : inv j with
  | some i =>
   simp only [m'', hi, Option.map_eq_some_iff] at hj
   obtain ⟨r0, hr0, rfl⟩ := hj
   obtain ⟨p, hp, hr⟩ := hm'.row i r0 hr0
   refine ⟨p, (βs i j (invs i j hi)).trans hp, RowR.hide (F' := hidden F β f) (by rw [via]; exact hr) (fun b hb => .inl hb) fun b g1 g2 => ?_⟩
   obtain ⟨k, q, hq, hqb⟩ := not_free g1
   rcases look k q hq with ⟨i', _, _, h4⟩ | ⟨h3, h4⟩
   ·exact absurd hqb (g2 i' q (by rw [via]; exact h4))
   ·exact (own k q b h3 h4 hqb).1
  | none =>
   simp only [m'', hi] at hj
   split at hj
   ·rename_i e
    subst e
    cases hj
    exact ⟨.raw l, (βn j hi).trans hβl, .raw l o' ho⟩
   ·rename_i hne
    obtain ⟨p, hp, hr⟩ := hm.row j r hj
    refine ⟨p, (βn j hi).trans hp, hr.gen hs.size (fun b hb g1 g2 => ⟨same_of (imm b hb g2).1, (imm b hb g2).2, g1⟩) (fun i p _ => keep i p) fun b hb => ?_⟩
    exact ((own j p b hi hp hb).2 fun e => hne (hm.inj j il p _ b hp hβl hb (e ▸ rfl))).2
 ·rcases look i p hp with ⟨i', a1, a2, a3⟩ | ⟨a1, a2⟩ <;> rcases look j q hq with ⟨j', b1, b2, b3⟩ | ⟨b1, b2⟩
  ·have := hm'.inj i' j' p q b a3 b3 e e'
   subst this
   rw [a2] at b2; cases b2; rfl
  ·exact absurd (own j q b b1 b2 e').1 (hm'.nf i' p b a3 e)
  ·exact absurd (own i p b a1 a2 e).1 (hm'.nf j' q b b3 e')
  ·exact hm.inj i j p q b a2 b2 e e'
 ·rcases look j p hp with ⟨i', a1, a2, a3⟩ | ⟨a1, a2⟩
  ·exact hm'.lt i' p b a3 e
  ·exact Nat.lt_of_lt_of_le (hm.lt j p b a2 e) hs.size
 ·rcases look j p hp with ⟨i', a1, a2, a3⟩ | ⟨a1, a2⟩
  ·exact hm'.nf i' p b a3 e (.inl hF)
  ·exact hm.nf j p b a2 e hF
 ·exact Nat.lt_of_lt_of_le (hm.fb b hb) hs.size
 ·cases hi' : inv i with
  | none => exact (βn i hi').trans (hn i oG)
  | some i0 =>
   rcases f'cases i0 i (invs i0 i hi') with ⟨a1, a2, a3⟩ | ⟨a1, a2, a3⟩ <;> omega
 ·cases hi' : inv i with
  | none => exact (βn i hi').trans hb
  | some i0 =>
   have hf := invs i0 i hi'
   rw [βs i0 i hf]
   rcases f'cases i0 i hf with ⟨a1, a2, a3⟩ | ⟨a1, a2, a3⟩
   ·exact hg i0 a2 (by simp [Pla.via, a1, hb])
   ·omega
theorem setAll_sim {β : Pla} {w : World} : ∀ (ts : List Tmp) (ds : List D) (vs : List Value) (env : Env) (tmps : Array Value), vs.length = ds.length -> (∀ (k : Nat) (d : D) (v : Value), ds[k]? = some d -> vs[k]? = some v -> R F β w d v) ->
  (∀ t, t ∈ ts -> t < tmps.size) -> ESim F β w env { tmps := tmps, defers := [] } ->
  ESim F β w (setAll env ts ds) { tmps := (ts.zip vs).foldl (fun tmps (t, a) => tmps.setIfInBounds t a) tmps, defers := [] } /\ ((ts.zip vs).foldl (fun tmps (t, a) => tmps.setIfInBounds t a) tmps).size = tmps.size
 | [], _, _, env, tmps, _, _, _, h => by simpa [setAll] using h
 | _ :: _, [], [], env, tmps, _, _, _, h => by simpa [setAll] using h
 | _ :: _, [], _ :: _, _, _, hl, _, _, _ => by simp at hl
 | _ :: _, _ :: _, [], _, _, hl, _, _, _ => by simp at hl
 | t :: ts, d :: ds, v :: vs, env, tmps, hl, hR, hlt, h => by
  have h1 : ESim F β w (up env t d) { tmps := tmps.setIfInBounds t v, defers := [] } := by
   have := h.put (some t) d v (hR 0 d v rfl rfl) (fun u hu => by cases hu; exact hlt t (by simp))
   simpa [Act.put, up] using this
  have := setAll_sim ts ds vs (up env t d) (tmps.setIfInBounds t v) (by simpa using hl) (fun k d v hd hv => hR (k + 1) d v (by simpa using hd) (by simpa using hv)) (fun u hu => by simpa using hlt u (by simp [hu])) h1
  simp only [setAll, List.zip_cons_cons, List.foldl_cons]
  exact ⟨this.1, by rw [this.2]; simp⟩
theorem stepR_scope {c : Code} {b : Frame} {a : Act} {k : List Item} {cs : List Frame} {w : World} : step P (lone (b.atR a (.code (.scope c) :: k)) cs w) = .next (lone (b.atR a (.code c :: .inScope c :: k)) cs w) :=
 step_lone_go (by simp [stepG, stepG.exec, Frame.atR])
theorem stepR_inScope {c : Code} {b : Frame} {a : Act} {k : List Item} {cs : List Frame} {w : World} : step P (lone (b.atR a (.inScope c :: k)) cs w) = .next (lone (b.atR a k) cs w) :=
 step_lone_go (by simp [stepG, stepG.exec, Frame.atR])
theorem arrives_scope {I : Machine -> Prop} {m : Machine} {b : Frame} {c : Code} {k : List Item} {cs : List Frame} {e : Exit} {a : Act} {w : World}
  (hn : e ≠ .normal) (hg : ∀ l, e ≠ .goto l) (h : ArrivesIn I P m b (.inScope c :: k) cs e a w) : ArrivesIn I P m b k cs e a w := by
 cases e with
 | normal => exact absurd rfl hn
 | exit id => exact ⟨fun k' hk => h.1 k' (by simp [exitTo, hk]), fun hr hk => h.2 hr (by simp [exitTo, hk])⟩
 | goto l => exact absurd rfl (hg l)
 | ret => exact h
 | panic chain => exact h
 | outgrown => exact h
theorem wpIn_scope {Fc : Fence} {n : Nat} {Q : Exit -> Act -> World -> Prop} {a : Act} {w : World} {c : Code} (h : c.wpIn Fc n P (Exit.noGoto Q) a w) : (Code.scope c).wpIn Fc n P Q a w := by
 intro b k cs hro hb hr
 have h0 : (lone (b.atR a (.code (.scope c) :: k)) cs w).fenced P Fc := fenced_calm hb hr rfl
 obtain ⟨e, a₁, w₁, hq, harr⟩ := h b (.inScope c :: k) cs hro hb hr
 cases e with
 | normal => exact ⟨.normal, a₁, w₁, hq, .head h0 stepR_scope (StepsIn.trans harr (.one (fenced_calm hb hr rfl) stepR_inScope))⟩
 | goto l => exact hq.elim
 | exit id => exact ⟨.exit id, a₁, w₁, hq, .of_steps (.one h0 stepR_scope) (arrives_scope (c := c) (by simp) (by simp) harr)⟩
 | ret => exact ⟨.ret, a₁, w₁, hq, .of_steps (.one h0 stepR_scope) (arrives_scope (c := c) (by simp) (by simp) harr)⟩
 | panic ch => exact ⟨.panic ch, a₁, w₁, hq, .of_steps (.one h0 stepR_scope) (arrives_scope (c := c) (by simp) (by simp) harr)⟩
 | outgrown => exact ⟨.outgrown, a₁, w₁, hq, .of_steps (.one h0 stepR_scope) (arrives_scope (c := c) (by simp) (by simp) harr)⟩
def Jump (env : Env) (Q : Exit -> St -> Prop) : Code -> Mem -> Nat -> Prop
 | .ret, m, nx => Q .ret ⟨env, m, nx⟩
 | .exit id, m, nx => Q (.exit id) ⟨env, m, nx⟩
 | _, _, _ => False
def Beside (il l : Nat) (n₀ : Nat) (o : Obj) (I : Mem -> Nat -> Prop) (m : Mem) (nx : Nat) : Prop := ∃ f mc nc, View il n₀ f mc nc m nx /\ m il = some (.raw l o) /\ I mc nc
theorem Beside.closed {il l n₀ : Nat} {o : Obj} {I : Mem -> Nat -> Prop} : Closed (Beside il l n₀ o I) := by
 rintro m nx m' nx' ⟨f, mc, nc, h1, h2, h3⟩ hle he
 exact ⟨f, mc, nc, h1.ext hle he, (he il h1.lt).trans h2, h3⟩
theorem zip_foldl (ps : Array Tmp) (us : Array Value) (tmps : Array Value) :
  (ps.zip us).foldl (fun tmps (t, a) => tmps.setIfInBounds t a) tmps = (ps.toList.zip us.toList).foldl (fun tmps (t, a) => tmps.setIfInBounds t a) tmps := by
 rw [<- Array.foldl_toList]
 simp
theorem resolve_range {β : Pla} {w : World} {a : Act} {g : Operand} {f : FuncId} {fs cs : List D} (hR : R F β w (.fn (.func f) fs cs) (a.eval g)) (he : enterOk P f = true) (l : Nat) (w' : World) :
  ∃ (us vs : List Value) (d : Deferred), us.length = fs.length /\ vs.length = cs.length /\ (∀ (k : Nat) (d : D) (v : Value), fs[k]? = some d -> us[k]? = some v -> R F β w d v) /\ (∀ (k : Nat) (d : D) (v : Value), cs[k]? = some d -> vs[k]? = some v -> R F β w d v) /\
   (resolve a.eval (rangeCall g l) 0).run P w' = .ok d w' /\ (invoke d.target d.args).run P w' = .ok (.enter f (us.toArray ++ #[.func (.yield l) #[] #[]] ++ vs.toArray)) w' := by
 generalize hv : a.eval g = v at hR
 cases hR with
 | fn _ _ _ us vs hl hl' hh hh' =>
 refine ⟨us, vs, { target := .fn (.func f) vs.toArray, args := us.toArray ++ #[.func (.yield l) #[] #[]] }, hl, hl', hh, hh', ?_, ?_⟩
 ·simp only [resolve, hv, Sem.run_bind, Deferred.ofValue]
  simp [go_sem]
 ·simp only [invoke]
  unfold callFunc
  unfold enterOk at he
  simp only [Sem.run_bind, run_program, Result.andThen_ok]
  split at he
  ·rename_i fn hfn
   simp only [Bool.and_eq_true, Bool.not_eq_true'] at he
   have hb : fn.body.isNone = false := by
    cases hbb : fn.body <;> simp_all
   rw [hfn]
   simp only [he.1, hb, Bool.false_eq_true, if_false, Sem.run_pure]
  ·cases he
theorem Rs.append {β : Pla} {w : World} {aS bs : List D} {xs ys : Array Value} (h : Rs F β w aS xs) (k : Rs F β w bs ys) : Rs F β w (aS ++ bs) (xs ++ ys) := by
 refine ⟨by simp [h.1, k.1], fun j d v hd hv => ?_⟩
 rcases Nat.lt_or_ge j aS.length with hj | hj
 ·rw [List.getElem?_append_left hj] at hd
  rw [Array.getElem?_append_left (by rw [h.1]; exact hj)] at hv
  exact h.2 j d v hd hv
 ·rw [List.getElem?_append_right hj] at hd
  rw [Array.getElem?_append_right (by rw [h.1]; exact hj), h.1] at hv
  exact k.2 _ d v hd hv
theorem aw_sound (hmix : P.follows .mixedOrders = true) : ∀ (c : Code) (F : Nat -> Prop) (r : Option Nat) (n : Nat) (Y : YSpec) (rf : Bool) (N₀ : Nat) (β₀ : Pla) (w₀ : World) (a₀ : Act), (rf = true -> r = none) ->
  (∀ l args m nx K, Y l args m nx K -> YCall P F β₀ w₀ l args m nx K) -> codeLt a₀.tmps.size c = true -> ∀ (Q : Exit -> St -> Prop) (st : St) (β : Pla) (w : World) (a : Act),
  AW P Y rf c Q st -> Sim P F st β w a -> Big N₀ β₀ w₀ a₀ st β w a -> c.wpIn (Fe r) n P (PostB P F N₀ β₀ w₀ a₀ Q) a w := by
 intro c
 induction c with
 | skip => exact fun F r n Y rf N₀ β₀ w₀ a₀ hrf hY _ Q st β w a h hs hsi => wpIn_skip ⟨st, β, h, hs, hsi⟩
 | ret => exact fun F r n Y rf N₀ β₀ w₀ a₀ hrf hY _ Q st β w a h hs hsi => wpIn_ret ⟨st, β, h, hs, hsi⟩
 | exit id => exact fun F r n Y rf N₀ β₀ w₀ a₀ hrf hY _ Q st β w a h hs hsi => wpIn_exit ⟨st, β, h, hs, hsi⟩
 | label l => exact fun F r n Y rf N₀ β₀ w₀ a₀ hrf hY _ Q st β w a h hs hsi => wpIn_label ⟨st, β, h, hs, hsi⟩
 | region id ops draw =>
  intro F r n Y rf N₀ β₀ w₀ a₀ hrf hY hlt Q st β w a h hs hsi
  have hlt' : opsLt a.tmps.size ops = true := by rw [hsi.size]; exact hlt
  cases draw with
  | false =>
   refine wpIn_mono (region_text (N := st.nx) (β₀ := β) (w₀ := w) (a₀ := a) (fun l args m nx K hy => (hY l args m nx K hy).base hsi.step) hlt' h hs (Since.refl st β w a)) fun e a' w' hp => ?_
   obtain ⟨st', β', hq, hs', hsi'⟩ := hp
   exact ⟨st', β', hq, hs', hsi.since hsi'⟩
  | true =>
   simp only [AW] at h
   split at h
   ·rename_i cf hcf
    refine wpIn_mono (region_draw (N₀ := st.nx) (β₀ := β) (w₀ := w) (a₀ := a) hmix hcf hlt' h hs (Since.refl st β w a)) fun e a' w' hp => ?_
    obtain ⟨st', β', hq, hs', hsi'⟩ := hp
    exact ⟨st', β', hq, hs', hsi.since hsi'⟩
   ·exact h.elim
 | seq x y ihx ihy =>
  intro F r n Y rf N₀ β₀ w₀ a₀ hrf hY hlt Q st β w a h hs hsi
  simp only [codeLt, Bool.and_eq_true] at hlt
  refine wpIn_seq (wpIn_mono (ihx F r n Y rf N₀ β₀ w₀ a₀ hrf hY hlt.1 _ st β w a h hs hsi) fun e a' w' hp => ?_)
  obtain ⟨st', β', hq, hs', hsi'⟩ := hp
  cases e with
  | normal =>
   obtain ⟨st'', hg, hy⟩ := hq
   obtain ⟨β'', hs'', hsi''⟩ := ghost_sound hg hs'
   exact ihy F r n Y rf N₀ β₀ w₀ a₀ hrf hY hlt.2 Q st'' β'' w' a' hy hs'' (hsi'.since hsi'')
  | _ => exact ⟨st', β', hq, hs', hsi'⟩
 | cond c x y ihx ihy =>
  intro F r n Y rf N₀ β₀ w₀ a₀ hrf hY hlt Q st β w a h hs hsi
  simp only [codeLt, Bool.and_eq_true] at hlt
  obtain ⟨ha, h⟩ := h
  have hR := (hs.e.opd c).core_of _ ha
  split at h
  ·rename_i t ht
   rw [ht] at hR
   exact wpIn_cond_split hR.s_inv.1 (fun e => ihx F r n Y rf N₀ β₀ w₀ a₀ hrf hY hlt.1 Q st β w a (h.1 e) hs hsi) fun e => ihy F r n Y rf N₀ β₀ w₀ a₀ hrf hY hlt.2 Q st β w a (h.2 e) hs hsi
  ·rename_i ht
   rw [ht] at hR
   obtain ⟨b, hb⟩ := hR.ub_inv
   exact wpIn_cond_split hb (fun _ => ihx F r n Y rf N₀ β₀ w₀ a₀ hrf hY hlt.1 Q st β w a h.1 hs hsi) fun _ => ihy F r n Y rf N₀ β₀ w₀ a₀ hrf hY hlt.2 Q st β w a h.2 hs hsi
  ·exact h.elim
 | scope b ih =>
  intro F r n Y rf N₀ β₀ w₀ a₀ hrf hY hlt Q st β w a h hs hsi
  refine wpIn_scope (wpIn_mono (ih F r n Y rf N₀ β₀ w₀ a₀ hrf hY hlt _ st β w a h hs hsi) fun e a' w' hp => ?_)
  obtain ⟨st', β', hq, hs', hsi'⟩ := hp
  cases e with
  | goto l => exact hq.elim
  | _ => exact ⟨st', β', hq, hs', hsi'⟩
 | block id b ih =>
  intro F r n Y rf N₀ β₀ w₀ a₀ hrf hY hlt Q st β w a h hs hsi
  refine wpIn_block (wpIn_mono (ih F r n Y rf N₀ β₀ w₀ a₀ hrf hY hlt _ st β w a h hs hsi) fun e a' w' hp => ?_)
  obtain ⟨st', β', hq, hs', hsi'⟩ := hp
  cases e with
  | exit i =>
   simp only [blockQ] at hq
   simp only [Exit.inBlock]
   split at hq
   ·rename_i hi
    rw [if_pos hi]
    exact ⟨st', β', hq, hs', hsi'⟩
   ·rename_i hi
    rw [if_neg hi]
    exact ⟨st', β', hq, hs', hsi'⟩
  | _ => exact ⟨st', β', hq, hs', hsi'⟩
 | loop b ih =>
  intro F r n Y rf N₀ β₀ w₀ a₀ hrf hY hlt Q st β w a h hs hsi
  obtain ⟨I, μ, hI, hround⟩ := h
  refine wpIn_loop_rel (fun j a w => ∃ st β, I st /\ μ st = j /\ Sim P F st β w a /\ Big N₀ β₀ w₀ a₀ st β w a) ⟨st, β, hI, rfl, hs, hsi⟩ ?_
  rintro j a w ⟨st, β, hI, hμ, hs, hsi⟩
  refine wpIn_mono (ih F r n Y rf N₀ β₀ w₀ a₀ hrf hY hlt _ st β w a (hround st hI) hs hsi) fun e a' w' hp => ?_
  obtain ⟨st', β', hq, hs', hsi'⟩ := hp
  cases e with
  | normal =>
   obtain ⟨st3, hg, hI3, hlt3⟩ := hq
   obtain ⟨β'', hs'', hsi''⟩ := ghost_sound hg hs'
   exact ⟨μ st3, by omega, st3, β'', hI3, rfl, hs'', hsi'.since hsi''⟩
  | _ => exact ⟨st', β', hq, hs', hsi'⟩
 | rangeFunc g ps assign body iha ihb =>
  intro F r n Y rf N₀ β₀ w₀ a₀ hrf hY hlt Q st β w a h hs hsi
  obtain ⟨env, mem, nx⟩ := st
  obtain ⟨hrft, hask, f, fs, cs, xs, I, hcore, hseq, hxlen, hI0, hround, hdone⟩ := h
  simp only at hask hcore hI0 hround hdone
  have hr := hrf hrft
  subst hr
  simp only [codeLt, Bool.and_eq_true, List.all_eq_true, Nat.blt_eq] at hlt
  obtain ⟨hps, hlta, hltb⟩ := hlt
  have hsz : a.tmps.size = a₀.tmps.size := hsi.size
  have hR := (hs.e.opd g).core_of _ hask
  simp only [hcore] at hR
  refine wpIn_rangeFunc fun fn hfn => ?_
  obtain ⟨rec, hrec⟩ : ∃ rec : LoopState -> Option Code -> Loop, rec = fun st pe => { state := st, pending := pe, fn, tmps := a.tmps, params := ps, assign, body, defers := w.heap.size } := ⟨_, rfl⟩
  obtain ⟨W1, hW1⟩ : ∃ W1, (w.alloc (.deferred (some []))).alloc (.loop (rec .ready none)) = W1 := ⟨_, rfl⟩
  obtain ⟨us, vs, d, hul, hvl, hu, hv, hres, hinv⟩ := resolve_range (P := P) hR hseq.1 (w.heap.size + 1) W1
  have hn : ∀ i, nx <= i -> β i = none := hs.n
  have hFl : ¬ F (w.heap.size + 1) := fun e => by have := hs.m.fb _ e; omega
  let f₀ : Nat -> Option Nat := fun i => if i < nx then some i else none
  have via0 : β.via f₀ = β := by
   funext i
   simp only [Pla.via, f₀]
   split
   ·rfl
   ·exact (hn i oG).symm
  have hmr : MSim P F (fun i => (mem i).map (Row.renB f₀)) β w := ⟨fun i r hi => by
    simp only [Option.map_eq_some_iff] at hi
    obtain ⟨r0, h1, rfl⟩ := hi
    obtain ⟨p, hp, hr⟩ := hs.m.row i r0 h1
    exact ⟨p, hp, RowR.hide (F' := F) (by rw [via0]; exact hr) (fun _ h => h) fun b g1 g2 => absurd (via0 ▸ g2) g1⟩, hs.m.inj, hs.m.lt, hs.m.nf, hs.m.fb⟩
  have hs0 : Step β w β (w.alloc (.deferred (some []))) := step_ext (by simp) fun b hb => heap_alloc_old w _ hb
  have hm0 : MSim P F (fun i => (mem i).map (Row.renB f₀)) β (w.alloc (.deferred (some []))) := hmr.ext (by simp) fun b hb => heap_alloc_old w _ hb
  have hm1 : MSim P F (up (fun i => (mem i).map (Row.renB f₀)) nx (some (.raw (w.heap.size + 1) (.loop (rec .ready none))))) (up β nx (some (.raw (w.heap.size + 1)))) W1 := by
   rw [<- hW1]
   refine hm0.alloc (hn nx (Nat.le_refl _)) _ _ _ (fun b hb => by simp only [Pl.blk, Option.some.injEq] at hb; simp; omega) (.raw _ _ ?_)
   have := World.alloc_heap_new (w.alloc (.deferred (some []))) (.loop (rec .ready none))
   rwa [World.size_alloc] at this
  have hs1 : Step β w (up β nx (some (.raw (w.heap.size + 1)))) W1 := by
   rw [<- hW1]
   exact hs0.trans (step_alloc hm0 _ (hn nx (Nat.le_refl _)) _ (fun b hb => by simp only [Pl.blk, Option.some.injEq] at hb; simp; omega))
  have hD1 : W1.heap[w.heap.size]? = some (.deferred (some [])) := by
   rw [<- hW1]
   rw [heap_alloc_old _ _ (by simp)]
   exact World.alloc_heap_new w _
  have hDfree : Pla.free (up β nx (some (.raw (w.heap.size + 1)))) w.heap.size :=
   free_other (fun i p hp e => by have := hs.m.lt i p _ hp e; omega) (by rintro q hq; cases hq; simp [Pl.blk])
  have hsz1 : W1.heap.size = w.heap.size + 2 := by rw [<- hW1]; simp
  have memNone : ∀ i, nx <= i -> mem i = none := fun i hi => by
   cases hm : mem i with
   | none => rfl
   | some row =>
    obtain ⟨p, hp, _⟩ := hs.m.row i row hm
    rw [hn i hi] at hp
    cases hp
  have own : ∀ {f : Nat -> Option Nat} {mc : Mem} {nc : Nat} {m : Mem} {nx2 : Nat} {β2 : Pla} {w2 : World}, View nx nx f mc nc m nx2 -> Step (up β nx (some (.raw (w.heap.size + 1)))) W1 β2 w2 ->
    ∀ {d : D} {v : Value}, R F β w d v -> R (hidden F β2 f) (β2.via f) w2 d v := fun {_ _ _ _ _ _ _} hview hst {d v} h => by
   have hst' := hs1.trans hst
   refine h.gen hst'.size (fun b hb hf hfree => ?_) fun i p _ hp => ?_
   ·obtain ⟨g1, g2⟩ := hst'.imm b hb hfree
    exact ⟨same_of g1, Pla.free_via g2 _, fun e => e.elim hf fun e => e.1 g2⟩
   ·have hi : i < nx := by
     rcases Nat.lt_or_ge i nx with h1 | h1
     ·exact h1
     ·rw [hn i h1] at hp; cases hp
    simp only [Pla.via, hview.id i hi, Option.bind_some]
    exact hst'.keep i p hp
  refine ⟨w.heap.size + 1, [mark w.heap.size], W1, d, W1, f, _, W1, ?_, hres, fun f' _ => trivial, hinv, fun hd => by simp at hd, fe_calls ?_⟩
  ·rw [<- hW1, hrec]; exact run_enterLoop_outer _ _ _ _ _
  refine (hseq.2 F (w.heap.size + 1) (fun k => Beside nx (w.heap.size + 1) nx (.loop (rec .ready none)) (I k)) (fun m k => ∃ c, Beside nx (w.heap.size + 1) nx (.loop (rec .done (some c))) (Jump env Q c) m k)
   (up (fun i => (mem i).map (Row.renB f₀)) nx (some (.raw (w.heap.size + 1) (.loop (rec .ready none))))) (nx + 1) (up β nx (some (.raw (w.heap.size + 1)))) W1 _ (fun k => Beside.closed) ?_ hm1 ?_ ?_ ?_ ?_).mono ?_
  ·rintro m k m' k' ⟨c, hc⟩ hle he
   exact ⟨c, Beside.closed m k m' k' hc hle he⟩
  ·intro i hi
   rw [up_ne _ _ (show i ≠ nx by omega)]
   exact hn i oG
  ·refine Rs.append (Rs.append ?_ ?_) ?_
   ·exact ⟨by simp [hul], fun k d v hd hv => (hu k d v hd (by simpa using hv)).step hs1⟩
   ·refine ⟨rfl, fun k d v hd hv => ?_⟩
    cases k with
    | zero =>
     simp only [List.getElem?_cons_zero, Option.some.injEq] at hd
     simp only [List.getElem?_toArray, List.getElem?_cons_zero, Option.some.injEq] at hv
     subst hd; subst hv
     exact .fn _ [] [] [] [] rfl rfl (by simp) (by simp)
    | succ k => simp at hd
   ·exact ⟨by simp [hvl], fun k d v hd hv' => (hv k d v hd (by simpa using hv')).step hs1⟩
  ·rintro k x m k' hx ⟨g, mc, nc, hview, hil, hIk⟩ β2 w2 us2 hst2 hm2 hn2 hR2
   obtain ⟨hβi, hheap, _, hlsz⟩ := hm2.rawAt hil
   have hps2 : us2.size = ps.size := by rw [hR2.1]; exact (hxlen x (List.mem_of_getElem? hx)).1
   have hy := run_yield (P := P) (args := us2) hheap (by rw [hrec]; exact hps2)
   simp only [hrec, zip_foldl] at hy
   refine ⟨fn, _, assign, body, hy, fun n' => ?_⟩
   obtain ⟨hmc, hnc⟩ := hview.enter hm2
   have hlF : hidden F β2 g (w.heap.size + 1) := (hview.foreign hm2 (fun i e => (hview.dom' e).2.2 rfl) hβi rfl).2
   have hlfree : (β2.via g).free (w.heap.size + 1) := (hview.foreign hm2 (fun i e => (hview.dom' e).2.2 rfl) hβi rfl).1
   have hE2 : ESim (hidden F β2 g) (β2.via g) w2 env { tmps := a.tmps, defers := [] } := fun t => own hview hst2 (hs.e t)
   obtain ⟨hE3, hsz3⟩ := setAll_sim ps.toList x us2.toList env a.tmps (by simp [hR2.1]) (fun j d v hd hv =>
    ((hxlen x (List.mem_of_getElem? hx)).2 d (List.mem_of_getElem? hd) F β2 w2 v (hR2.2 j d v hd (by simpa using hv))).gen (Nat.le_refl _)
     (fun b _ hb _ => ⟨SameB.refl _ b, Pla.free_via (owned_free hb).2 _, fun e => e.elim (owned_free hb).1 fun e => e.1 (owned_free hb).2⟩) (fun i p _ hp => by cases hp)) (fun t ht => by rw [hsz]; exact hps t ht) hE2
   have hass := iha (hidden F β2 g) (some (w.heap.size + 1)) n' noY false nc (β2.via g) w2
    { tmps := (ps.toList.zip us2.toList).foldl (fun tmps (t, a) => tmps.setIfInBounds t a) a.tmps, defers := [] } (by simp) (fun _ _ _ _ _ h => h.elim) (by show codeLt (Array.size _) assign = true; rw [hsz3, hsz]; exact hlta) _ ⟨setAll env ps.toList x, mc, nc⟩ (β2.via g) w2 _
    (hround k mc nc x hx hIk) ⟨hE3, hmc, hnc⟩ (Since.refl ⟨setAll env ps.toList x, mc, nc⟩ _ _ _).big
   refine roundIn_of_wpIn trivial (wpIn_mono hass fun e a3 w3 hp => ?_)
   obtain ⟨st3, β3, hq3, hs3, hb3⟩ := hp
   cases e with
   | normal =>
    have hlsz3 : w.heap.size + 1 < w3.heap.size := Nat.lt_of_lt_of_le hlsz hb3.step.size
    have heap3 : w3.heap[w.heap.size + 1]? = some (.loop (rec .ready none)) := (hb3.step.imm _ hlsz hlfree).1.trans hheap
    refine ⟨_, run_beginRound heap3 (by rw [hrec]), ?_⟩
    have hs3b := hs3.putF (l := w.heap.size + 1) hlF (.loop { rec .ready none with state := .busy })
    have hbody := ihb (hidden F β2 g) (some (w.heap.size + 1)) n' noY false st3.nx β3 _ a3 (by simp) (fun _ _ _ _ _ h => h.elim) (by rw [hb3.size]; show codeLt (Array.size _) body = true; rw [hsz3, hsz]; exact hltb) _ st3 β3 _ a3 hq3 hs3b (Since.refl st3 _ _ _).big
    refine wpIn_mono hbody fun e a4 w4 hp4 => ?_
    obtain ⟨st4, β4, hq4, hs4, hb4⟩ := hp4
    have hlsz4 : w.heap.size + 1 < w4.heap.size := Nat.lt_of_lt_of_le (by simpa using hlsz3) hb4.step.size
    have heap4 : w4.heap[w.heap.size + 1]? = some (.loop { rec .ready none with state := .busy }) :=
     (hb4.step.imm _ (by simpa using hlsz3) (hb3.step.imm _ hlsz hlfree).2).1.trans (World.putObj_heap_same hlsz3)
    have fin : ∀ (jump : Option Code) (K : D -> Mem -> Nat -> Prop), (∀ f' m'' nx'', View nx nx f' st4.mem st4.nx m'' nx'' -> m'' nx = some (.raw (w.heap.size + 1) (.loop (rec (if jump.isNone then .ready else .done) jump))) -> K (.s (.bool jump.isNone)) m'' nx'') ->
      ∃ v w', (Instr.endRound (w.heap.size + 1) jump).run P w4 = .ok v w' /\ ∃ v' d m' nx' β', Ending.returned v = .returned v' /\ K d m' nx' /\ MSim P F m' β' w' /\ (∀ i, nx' <= i -> β' i = none) /\ R F β' w' d v' /\ Step β2 w2 β' w' /\ k' <= nx' /\ ∀ i, i < k' -> β2 i = none -> β' i = none := fun jump K hK => by
     have hrun := run_endRound (P := P) jump heap4
     have e1 : ∀ s p, ({ ({ rec .ready none with state := .busy } : Loop) with state := s, pending := p } : Loop) = rec s p := fun s p => by rw [hrec]
     rw [e1] at hrun
     obtain ⟨f', m'', nx'', β'', v1, v2, v3, v4, v5, v6, v7⟩ := hview.leave hm2 hn2 hil (o' := .loop (rec (if jump.isNone then .ready else .done) jump)) (hs4.m.putF hlF _)
      (((hb3.step.x _).trans (StepX.put _ β3 w3 _)).trans ((hb4.step.x _).trans (StepX.put _ β4 w4 _))) hs4.n (Nat.le_trans hb3.le hb4.le) (fun i hi hb => hb4.grow i (Nat.lt_of_lt_of_le hi hb3.le) (hb3.grow i hi hb)) (World.putObj_heap_same hlsz4)
     exact ⟨_, _, hrun, .bool jump.isNone, _, m'', nx'', β'', rfl, hK f' m'' nx'' v1 v2, v3, v4, .s _ rfl, v5, v6, v7⟩
    cases e with
    | normal => exact fin none _ fun f' m'' nx'' v1 v2 => .inl ⟨rfl, f', _, _, v1, v2, hq4⟩
    | ret => exact fin (some .ret) _ fun f' m'' nx'' v1 v2 => .inr ⟨rfl, .ret, f', _, _, v1, v2, hq4⟩
    | exit id => exact fin (some (.exit id)) _ fun f' m'' nx'' v1 v2 => .inr ⟨rfl, .exit id, f', _, _, v1, v2, hq4⟩
    | _ => exact hq4.elim
   | _ => exact hq3.elim
  ·refine ⟨f₀, mem, nx, ⟨Nat.le_refl _, by omega, fun i hi => by simp [f₀, hi], fun i hi => ⟨i, by simp [f₀, hi], by omega, by omega⟩, fun i hi => by simp [f₀, Nat.not_lt.2 hi], fun i i' j h1 h2 => ?_, fun i r hi => ?_⟩, up_same _ _ _, hI0⟩
   ·simp only [f₀, Option.ite_none_right_eq_some, Option.some.injEq] at h1 h2
    omega
   ·have hlt : i < nx := by
     rcases Nat.lt_or_ge i nx with h1 | h1
     ·exact h1
     ·rw [memNone i h1] at hi; cases hi
    exact ⟨i, by simp [f₀, hlt], by rw [up_ne _ _ (show i ≠ nx by omega), hi]; rfl⟩
  ·rintro e w6 ⟨v, d6, m6, nx6, β6, rfl, hdis, hm6, hn6, _, hst6, hle6, hgr6⟩
   have fin : ∀ {g : Nat -> Option Nat} {mc : Mem} {nc : Nat} (o' : Obj), View nx nx g mc nc m6 nx6 ->
     Sim P F ⟨env, mc, nc⟩ (β6.via g) (w6.putObj (w.heap.size + 1) o') { a with defers := [mark w.heap.size] ++ a.defers } /\
     Big N₀ β₀ w₀ a₀ ⟨env, mc, nc⟩ (β6.via g) (w6.putObj (w.heap.size + 1) o') { a with defers := [mark w.heap.size] ++ a.defers } := fun {g mc nc} o' hview => by
    obtain ⟨hmc, hnc⟩ := hview.enter hm6
    have hlF : hidden F β6 g (w.heap.size + 1) := by
     have hβ : β6 nx = some (.raw (w.heap.size + 1)) \/ β6 nx = some .dead := hst6.keep nx _ (up_same _ _ _)
     rcases hβ with hβ | hβ
     ·exact (hview.foreign hm6 (fun i e => (hview.dom' e).2.2 rfl) hβ rfl).2
     ·exfalso
      rcases hdis with ⟨f', mc', nc', _, hil', _⟩ | ⟨c, f', mc', nc', _, hil', _⟩
      ·rw [(hm6.rawAt hil').1] at hβ; cases hβ
      ·rw [(hm6.rawAt hil').1] at hβ; cases hβ
    refine ⟨⟨fun t => ((own hview hst6 (hs.e t)).putF hlF o').weak fun b hb => .inl hb, (hmc.putF hlF o').weak fun b hb => .inl hb, hnc⟩, hsi.trans ⟨⟨?_, fun b hb hf => ?_, fun i p hp => ?_, (hs1.out.trans hst6.out).trans ⟨rfl, rfl⟩⟩, hview.low, fun i hi hb => ?_, rfl, [mark w.heap.size], rfl, ?_⟩⟩
    ·have := hst6.size
     simp; omega
    ·obtain ⟨g1, g2⟩ := hs1.imm b hb hf
     obtain ⟨g3, g4⟩ := hst6.imm b oG g2
     exact ⟨(World.putObj_heap_other oG).trans (g3.trans g1), Pla.free_via g4 _⟩
    ·have hi : i < nx := by
      rcases Nat.lt_or_ge i nx with h1 | h1
      ·exact h1
      ·rw [hn i h1] at hp; cases hp
     simp only [Pla.via, hview.id i hi, Option.bind_some]
     exact (hs1.trans hst6).keep i p hp
    ·have hi : i < nx := hi
     simp only [Pla.via, hview.id i hi, Option.bind_some]
     exact hgr6 i oG (by rw [up_ne _ _ oG]; exact hb)
    ·refine ⟨w.heap.size, rfl, Nat.le_refl _, ?_, ?_, ?_, trivial⟩
     ·have := hst6.size
      simp; omega
     ·exact (World.putObj_heap_other oG).trans ((hst6.imm _ oG hDfree).1.trans hD1)
     ·exact Pla.free_via (hst6.imm _ oG hDfree).2 _
   rcases hdis with ⟨g, mc, nc, hview, hil, hI⟩ | ⟨c, g, mc, nc, hview, hil, hj⟩
   ·have hrun : (Instr.endLoop (w.heap.size + 1)).run P w6 = .ok none (w6.putObj (w.heap.size + 1) (.loop (rec .exhausted none))) := by
     have := run_endLoop (P := P) (hm6.rawAt hil).2.1 (by rw [hrec]; simp)
     rw [hrec] at this ⊢
     exact this
    obtain ⟨g1, g2⟩ := fin (.loop (rec .exhausted none)) hview
    exact ⟨none, _, hrun, ⟨env, mc, nc⟩, _, hdone mc nc hI, g1, g2⟩
   ·have hrun : (Instr.endLoop (w.heap.size + 1)).run P w6 = .ok (some c) (w6.putObj (w.heap.size + 1) (.loop (rec .exhausted (some c)))) := by
     have := run_endLoop (P := P) (hm6.rawAt hil).2.1 (by rw [hrec]; simp)
     rw [hrec] at this ⊢
     exact this
    obtain ⟨g1, g2⟩ := fin (.loop (rec .exhausted (some c))) hview
    refine ⟨some c, _, hrun, ?_⟩
    cases c with
    | ret => exact wpIn_ret ⟨⟨env, mc, nc⟩, _, hj, g1, g2⟩
    | exit id => exact wpIn_exit ⟨⟨env, mc, nc⟩, _, hj, g1, g2⟩
    | _ => exact hj.elim
 | _ => intro F r n Y rf N₀ β₀ w₀ a₀ hrf hY hlt Q st β w a h; exact h.elim
end
end Go.Abs
end
section
namespace Go.Abs
section
variable {P : Program} {F : Nat -> Prop} {fn : Func}
def resF (tmps : Array Value) : ResultVar -> Sem Value
 | .tmp t => pure (tmps.getD t undef)
 | .cell x t => do loadVar t (<- asAddr (tmps.getD x undef))
theorem results_eq (fn : Func) (tmps : Array Value) : results fn tmps = (do
  let vs <- fn.results.mapM (resF tmps)
  pure (if h : vs.size = 1 then vs[0] else .tuple vs)) := by
 unfold results
 congr 1
theorem run_res {st : St} {β : Pla} {w : World} {a : Act} (hs : Sim P F st β w a) {r : ResultVar} {p : Prop} {d : D} (h : resD P st r = some (p, d)) (hp : p) :
  ∃ v, (resF a.tmps r).run P w = .ok v w /\ R F β w d v := by
 unfold resD at h
 split at h
 ·cases h
  exact ⟨_, by simp [resF], hs.e _⟩
 ·rename_i x t
  have hx := hs.e x
  split at h
  ·rename_i i off hx'
   rw [hx'] at hx
   split at h
   ·rename_i cs e hm
    cases h
    obtain ⟨b, o, room, sz, hβ, hv, hrow⟩ := hx.rp_inv hs.m hm
    obtain ⟨u, hu, hr⟩ := run_load_rd (P := P) hp.1 (hrow.rd.1.drop off) (by simp; omega)
    refine ⟨u, ?_, hr⟩
    simp only [resF, hv, Sem.run_bind]
    simp [asAddr, hu]
   ·cases h
  ·rename_i cs hx'
   rw [hx'] at hx
   cases h
   obtain ⟨b, o, hv, _, _, _, hrd⟩ := hx.pt_inv
   obtain ⟨u, hu, hr⟩ := run_load_rd (P := P) hp.1 hrd hp.2
   refine ⟨u, ?_, hr⟩
   simp only [resF, hv, Sem.run_bind]
   simp [asAddr, hu]
  ·cases h
theorem run_resL {st : St} {β : Pla} {w : World} {a : Act} (hs : Sim P F st β w a) {K : List D -> Prop} : ∀ (rs : List ResultVar) (acc : List D), retL P st rs acc K ->
  ∃ vs ds, (rs.mapM (resF a.tmps)).run P w = .ok vs w /\ vs.length = ds.length /\ K (acc ++ ds) /\
   ∀ (k : Nat) (d : D) (v : Value), ds[k]? = some d -> vs[k]? = some v -> R F β w d v
 | [], acc, h => ⟨[], [], by simp, rfl, by simpa [retL] using h, by simp⟩
 | r :: rs, acc, h => by
  simp only [retL] at h
  split at h
  ·rename_i p d hr
   obtain ⟨v, h1, h2⟩ := run_res hs hr h.1
   obtain ⟨vs, ds, h3, h4, h5, h6⟩ := run_resL hs rs _ h.2
   refine ⟨v :: vs, d :: ds, ?_, by simp [h4], by simpa using h5, fun k d' v' hd hv => ?_⟩
   ·rw [List.mapM_cons]
    simp only [Sem.run_bind]
    rw [h1]
    simp only [Result.andThen_ok, Sem.run_bind]
    rw [h3]
    simp
   ·cases k with
    | zero => simp at hd hv; subst hd; subst hv; exact h2
    | succ k => exact h6 k d' v' (by simpa using hd) (by simpa using hv)
  ·exact h.elim
theorem run_results {st : St} {β : Pla} {w : World} {a : Act} (hs : Sim P F st β w a) {K : D -> Prop} (h : retL P st fn.results.toList [] fun ds => K (one1 ds)) :
  ∃ v d, (results fn a.tmps).run P w = .ok v w /\ K d /\ R F β w d v := by
 obtain ⟨vs, ds, h1, h2, h3, h4⟩ := run_resL hs _ _ h
 simp only [List.nil_append] at h3
 refine ⟨if h : vs.toArray.size = 1 then vs.toArray[0] else .tuple vs.toArray, one1 ds, ?_, h3, ?_⟩
 ·rw [results_eq, Array.mapM_eq_mapM_toList]
  simp only [Sem.run_bind, map_eq_pure_bind, bind_assoc]
  rw [h1]
  simp
 ·split
  ·rename_i hsz
   simp only [List.size_toArray] at hsz
   obtain ⟨v, rfl⟩ := List.length_eq_one_iff.1 hsz
   obtain ⟨d, rfl⟩ := List.length_eq_one_iff.1 (show ds.length = 1 by simpa using h2.symm)
   exact h4 0 d v rfl rfl
  ·rename_i hsz
   simp only [List.size_toArray] at hsz
   have : one1 ds = .tup ds := by
    unfold one1
    split
    ·rename_i d
     simp at h2
     exact absurd h2 hsz
    ·rfl
   rw [this]
   exact .tup ds vs h2 h4
theorem cell_deferred {w : World} {b : Nat} {x : Option (List Deferred)} (h : w.heap[b]? = some (.deferred x)) (o : Nat) : w.cell? ⟨b, o, none⟩ = none := by
 simp [World.cell?, h]
theorem R.putD_aux {w : World} {b : Nat} {x : Option (List Deferred)} (hb : w.heap[b]? = some (.deferred x)) (o : Obj) (b' : Nat) : SameB w (w.putObj b o) b' := by
 refine ⟨fun k u hu => ?_, fun ms c hm => ?_⟩
 ·have hne : b' ≠ b := fun e => by rw [e, cell_deferred hb] at hu; cases hu
  exact (cell_of_heap (World.putObj_heap_other hne)).trans hu
 ·have hne : b' ≠ b := fun e => by rw [e, hb] at hm; cases hm
  exact (World.putObj_heap_other hne).trans hm
theorem Sim.putD {st : St} {β : Pla} {w : World} {a : Act} {b : Nat} {x : Option (List Deferred)} (hb : w.heap[b]? = some (.deferred x)) (hf : β.free b) (o : Obj) (h : Sim P F st β w a) : Sim P F st β (w.putObj b o) a :=
 ⟨fun t => (h.e t).gen (by simp) (fun b' _ h1 h2 => ⟨R.putD_aux hb o b', h2, h1⟩) fun _ _ _ h => .inl h, ⟨fun i r hi => by
  obtain ⟨p, hp, hr⟩ := h.m.row i r hi
  exact ⟨p, hp, hr.gen (by simp) (fun b' _ h1 h2 => ⟨R.putD_aux hb o b', h2, h1⟩) (fun _ _ _ h => .inl h) fun c hc => World.putObj_heap_other fun e => hf i p hp (e ▸ hc)⟩,
  h.m.inj, fun i p c hp hc => by simpa using h.m.lt i p c hp hc, h.m.nf, fun c hc => by simpa using h.m.fb c hc⟩, h.n⟩
theorem Marks.put {β : Pla} {w : World} {lo b : Nat} (o : Obj) : ∀ {ds : List Deferred} {hi : Nat}, hi <= b -> Marks β w lo ds hi -> Marks β (w.putObj b o) lo ds hi
 | [], _, _, _ => trivial
 | _ :: _, _, hle, ⟨c, h1, h2, h3, h4, h5, h6⟩ => ⟨c, h1, h2, h3, (World.putObj_heap_other oG).trans h4, h5, Marks.put o oG h6⟩
theorem leaves_marks {n : Nat} {tmps : Array Value} {R : Ending -> World -> Prop} {st : St} {β₀ β : Pla} {w₀ : World} {a : Act} : ∀ (ds : List Deferred) (hi : Nat) (w : World), Marks β w w₀.heap.size ds hi -> Sim P F st β w a -> Step β₀ w₀ β w ->
  (∀ w', Sim P F st β w' a -> Step β₀ w₀ β w' -> ∃ v, (results fn tmps).run P w' = .ok v w' /\ R (.returned v) w') -> LeavesInM (Fe none) n P fn tmps R ds .returning w
 | [], _, w, _, hs, hst, K => K w hs hst
 | d :: ds, hi, w, ⟨b, h1, h2, h3, h4, h5, h6⟩, hs, hst, K => by
  subst h1
  refine ⟨by simp, .inl ⟨b, _, rfl, run_takeDeferred h4, leaves_marks ds b _ (h6.put _ (Nat.le_refl _)) (hs.putD h4 h5 _) ?_ K⟩⟩
  refine ⟨by simpa using hst.size, fun c hc hf => ?_, hst.keep, hst.out.trans ⟨rfl, rfl⟩⟩
  obtain ⟨g1, g2⟩ := hst.imm c hc hf
  exact ⟨(World.putObj_heap_other oG).trans g1, g2⟩
theorem calls_aw (hmix : P.follows .mixedOrders = true) {Y : YSpec} {f : FuncId} {c : Code} (hf : P.funcs[f]? = some fn) (hb : fn.body = some c) (hlt : codeLt fn.ntmps c = true) {args : List D} (hn : Nat.ble args.length fn.ntmps = true) {m : Mem} {nx : Nat} {K : D -> St -> Prop}
  (h : AW P Y true c (retQ P fn.results.toList K) ⟨envOf args, m, nx⟩) {β : Pla} {w : World} {vs : Array Value} (hY : ∀ l args m nx K, Y l args m nx K -> YCall P F β w l args m nx K) (hm : MSim P F m β w) (hnx : ∀ i, nx <= i -> β i = none) (hR : Rs F β w args vs) :
  Calls P f vs w fun e w' => ∃ v d st' β', e = .returned v /\ K d st' /\ R F β' w' d v /\ MSim P F st'.mem β' w' /\ (∀ i, st'.nx <= i -> β' i = none) /\ Step β w β' w' /\ nx <= st'.nx /\ ∀ i, i < nx -> β i = none -> β' i = none := by
 have hle : args.length <= fn.ntmps := by simpa using hn
 refine (callsIn_wide (n := 0)).1 (callsIn_of_wp_marks hf hb trivial ?_)
 have hsz : (vs ++ Array.replicate (fn.ntmps - vs.size) undef).size = fn.ntmps := by
  simp only [Array.size_append, Array.size_replicate, hR.1]
  omega
 let a₀ : Act := { tmps := vs ++ Array.replicate (fn.ntmps - vs.size) undef, defers := [] }
 have hE : ESim F β w (envOf args) a₀ := fun t => by
  unfold envOf
  rcases Nat.lt_or_ge t args.length with hlt | hge
  ·have h1 : args.getD t .u = args[t] := by simp [hlt]
   have h2 : a₀.tmps.getD t undef = vs[t]'(by rw [hR.1]; exact hlt) := by
    show (vs ++ Array.replicate (fn.ntmps - vs.size) undef).getD t undef = _
    have h3 : t < vs.size := by rw [hR.1]; exact hlt
    simp [Array.getD_eq_getD_getElem?, Array.getElem?_append_left h3, h3]
   rw [h1, h2]
   exact hR.2 t _ _ (by simp [hlt]) (by simp [hR.1, hlt])
  ·have h1 : args.getD t .u = .u := by simp [hge]
   rw [h1]; exact .u _
 have := aw_sound hmix c F none 0 Y true nx β w a₀ (fun _ => rfl) hY (by show codeLt (vs ++ Array.replicate (fn.ntmps - vs.size) undef).size c = true; rw [hsz]; exact hlt) _ ⟨envOf args, m, nx⟩ β w a₀ h ⟨hE, hm, hnx⟩ (Since.refl ⟨envOf args, m, nx⟩ β w a₀).big
 refine wpIn_mono this fun e a' w' hp => ?_
 obtain ⟨st', β', hq, hs', hsi'⟩ := hp
 have hend : (retL P st' fn.results.toList [] fun ds => K (one1 ds) st') -> LeavesInM (Fe none) 0 P fn a'.tmps (fun e w' => ∃ v d st' β', e = .returned v /\ K d st' /\ R F β' w' d v /\ MSim P F st'.mem β' w' /\ (∀ i, st'.nx <= i -> β' i = none) /\ Step β w β' w' /\ nx <= st'.nx /\ ∀ i, i < nx -> β i = none -> β' i = none) a'.defers .returning w' := fun hq => by
  obtain ⟨ds, h1, h2⟩ := hsi'.defers
  rw [h1, show a₀.defers = [] from rfl, List.append_nil]
  refine leaves_marks ds _ w' h2 hs' hsi'.step fun w'' hs'' hst'' => ?_
  obtain ⟨v, d, g1, g2, g3⟩ := run_results (K := fun d => K d st') hs'' hq
  exact ⟨v, g1, v, d, st', β', rfl, g2, g3, hs''.m, hs''.n, hst'', hsi'.le, hsi'.grow⟩
 cases e with
 | normal => exact hend hq
 | ret => exact hend hq
 | _ => exact hq.elim
theorem msim_none {w : World} (hF : ∀ b, F b -> b < w.heap.size) : MSim P F (fun _ => none) noRows w :=
 ⟨fun i r h => (by cases h), fun i j p q b h => (by cases h), fun i p b h => (by cases h), fun i p b h => (by cases h), hF⟩
theorem kept_of_step {β' : Pla} {w w' : World} (h : Step noRows w β' w') : Kept w w' :=
 ⟨h.size, fun b hb => (h.imm b hb fun i p hp => by cases hp).1, h.out⟩
theorem Tr.clean {d : D} (h : Tr d) {β : Pla} {w : World} {v : Value} (hv : R F β w d v) : R F noRows w d v :=
 (h F β w v hv).lift fun b hb => ⟨fun e => hb (.inl e), fun i p hp => by cases hp⟩
structure FnOk (P : Program) (f : FuncId) (fn : Func) (c : Code) : Prop where
 hf : P.funcs[f]? = some fn
 hb : fn.body = some c
 hlt : codeLt fn.ntmps c = true
 he : enterOk P f = true
theorem acall_of (hmix : P.follows .mixedOrders = true) {f : FuncId} {c : Code} (hf : FnOk P f fn c) {args : List D} (hn : Nat.ble args.length fn.ntmps = true) {m : Mem} {nx : Nat} {Post : D -> Mem -> Nat -> Prop}
  (h : AW P noY true c (retQ P fn.results.toList fun d st => Post d st.mem st.nx) ⟨envOf args, m, nx⟩) : ACalls P f args m nx Post :=
 ⟨hf.he, fun F β w vs hm hnx hR => (calls_aw hmix hf.hf hf.hb hf.hlt hn h (fun _ _ _ _ _ h => h.elim) hm hnx hR).mono fun e w' ⟨v, d, st', β', h1, h2, h3, h4, h5, h6, h7, h8⟩ => ⟨v, d, st'.mem, st'.nx, β', h1, h2, h4, h5, h3, h6, h7, h8⟩⟩
theorem pcall_of (hmix : P.follows .mixedOrders = true) {f : FuncId} {c : Code} (hf : FnOk P f fn c) {args : List D} (hn : Nat.ble args.length fn.ntmps = true) (ht : ∀ a ∈ args, Tr a) {r : D} (hr : Tr r)
  (h : AW P noY true c (retQ P fn.results.toList fun d _ => d = r) ⟨envOf args, fun _ => none, 0⟩) : PCall P f args r :=
 ⟨hf.he, ht, fun F w vs hF hR => (calls_aw hmix hf.hf hf.hb hf.hlt hn h (fun _ _ _ _ _ h => h.elim) (msim_none hF) (fun _ _ => rfl) hR).mono fun e w' hp => by
  obtain ⟨v, d, st', β', h1, rfl, h3, h4, h5, h6, h7, h8⟩ := hp
  exact ⟨v, h1, hr.clean h3, kept_of_step h6⟩⟩
theorem ocall_of  (hmix : P.follows .mixedOrders = true) {f : FuncId} {c : Code} (hf : FnOk P f fn c) {args : List D} (hn : Nat.ble args.length fn.ntmps = true) (ht : ∀ a ∈ args, Tr a) {es : List D} (hes : ∀ a ∈ es, Tr a) {k : Nat} {t : TypeId}
  (h : AW P noY true c (retQ P fn.results.toList fun d st => ∃ i, d = .rs i 0 k /\ st.mem i = some (.cells es t)) ⟨envOf args, fun _ => none, 0⟩) : OCall P f args es k t :=
 ⟨hf.he, ht, fun F w vs hF hR => (calls_aw hmix hf.hf hf.hb hf.hlt hn h (fun _ _ _ _ _ h => h.elim) (msim_none hF) (fun _ _ => rfl) hR).mono fun e w' hp => by
  obtain ⟨v, d, st', β', h1, ⟨i, rfl, hi⟩, h3, h4, h5, h6, h7, h8⟩ := hp
  obtain ⟨p, hp, hrow⟩ := h4.row i _ hi
  refine ⟨v, p, h1, ?_, fun b hb => ⟨?_, h4.lt i p b hp hb⟩, ?_, ?_, kept_of_step h6⟩
  ·rintro rfl; cases hrow
  ·rcases Nat.lt_or_ge b w.heap.size with hlt | hge
   ·exact absurd hb ((h6.imm b hlt fun i p hp => by cases hp).2 i p hp)
   ·exact hge
  ·have lift : ∀ d ∈ es, ∀ u, R F β' w' d u -> R (fun x => F x \/ p.blk = some x) noRows w' d u := fun d hd u hu =>
    (hes d hd F β' w' u hu).lift fun b hb => ⟨fun e => hb (by
     rcases e with e | e
     ·exact .inl e
     ·exact .inr fun hfree => hfree i p hp e), fun i p hp => by cases hp⟩
   cases hrow with
   | nil _ => exact .nil _
   | cells _ _ b o room sz c q1 q2 q3 q4 q5 =>
    refine .cells es t b o room sz c q1 q2 q3 q4 fun j d hd => ?_
    obtain ⟨u, u1, u2, u3⟩ := q5 j d hd
    exact ⟨u, u1, lift d (List.mem_of_getElem? hd) u u2, u3⟩
  ·cases h3 with
   | rsd _ _ _ _ g0 _ => rw [g0] at hp; cases hp; cases hrow
   | rsn _ a g0 => rw [g0] at hp; cases hp; exact .rsn 0 a (up_same _ _ _)
   | rsz _ _ a b o len room sz g0 => rw [g0] at hp; cases hp; exact .rsz 0 0 a b o len room sz (up_same _ _ _)
   | rs _ _ _ cap b o len room sz g0 g1 g2 g3 g4 => rw [g0] at hp; cases hp; exact .rs 0 0 k cap b o len room sz (up_same _ _ _) g1 g2 g3 g4⟩
def seqY (l₀ : Nat) (xs : List (List D)) (I : Nat -> Mem -> Nat -> Prop) (Stop : Mem -> Nat -> Prop) : YSpec := fun l args m nx Post =>
 l = l₀ /\ ∃ k, xs[k]? = some args /\ I k m nx /\ ∀ d m' nx', SeqPost I Stop k d m' nx' -> Post d m' nx'
theorem YCall.mono {β : Pla} {w : World} {l : Nat} {args : List D} {m : Mem} {nx : Nat} {K K' : D -> Mem -> Nat -> Prop} (hk : ∀ d m nx, K d m nx -> K' d m nx) (h : YCall P F β w l args m nx K) : YCall P F β w l args m nx K' :=
 fun β' w' us h1 h2 h3 h4 => by
  obtain ⟨f, tmps, assign, body, g1, g2⟩ := h β' w' us h1 h2 h3 h4
  exact ⟨f, tmps, assign, body, g1, fun n => RoundIn.mono (F := Fence.wide) (g2 n) fun e w' ⟨v, d, m', nx', β', q1, q2, q3⟩ => ⟨v, d, m', nx', β', q1, hk _ _ _ q2, q3⟩⟩
theorem seq_of (hmix : P.follows .mixedOrders = true) {f : FuncId} {c : Code} (hf : FnOk P f fn c) {fs cs : List D} (hn : Nat.ble (fs.length + 1 + cs.length) fn.ntmps = true) {xs : List (List D)}
  (h : ∀ (l : Nat) (I : Nat -> Mem -> Nat -> Prop) (Stop : Mem -> Nat -> Prop) (m : Mem) (nx : Nat), (∀ k, Closed (I k)) -> Closed Stop -> I 0 m nx ->
   AW P (seqY l xs I Stop) true c (retQ P fn.results.toList fun _ st => I xs.length st.mem st.nx \/ Stop st.mem st.nx) ⟨envOf (fs ++ [.fn (.yield l) [] []] ++ cs), m, nx⟩) : SeqA P f fs cs xs :=
 ⟨hf.he, fun F l I Stop m nx β w vs hI hStop hm hnx hR hy h0 =>
  (calls_aw hmix hf.hf hf.hb hf.hlt (by simpa [Nat.add_assoc, Nat.add_comm, Nat.add_left_comm] using hn) (h l I Stop m nx hI hStop h0) (fun l' args m' nx' K hK => by
   obtain ⟨rfl, k, h1, h2, h3⟩ := hK
   exact (hy k args m' nx' h1 h2).mono h3) hm hnx hR).mono fun e w' ⟨v, d, st', β', h1, h2, h3, h4, h5, h6, h7, h8⟩ => ⟨v, d, st'.mem, st'.nx, β', h1, h2, h4, h5, h3, h6, h7, h8⟩⟩
end
end Go.Abs
end
section
namespace Go.Abs
section
variable {P : Program} {Y : YSpec} {rf : Bool} {Q : Exit -> St -> Prop} {st : St}
theorem AW_cond (c a b) : AW P Y rf (.cond c a b) Q st = ((opd st.env c).ask /\ match (opd st.env c).core with
  | .s (.bool t) => (t = true -> AW P Y rf a Q st) /\ (t = false -> AW P Y rf b Q st)
  | .ub => AW P Y rf a Q st /\ AW P Y rf b Q st
  | _ => False) := rfl
theorem AW_loop {b : Code} (I : St -> Prop) (μ : St -> Nat) (h0 : I st) (h : ∀ st', I st' -> AW P Y rf b (seqQ (fun st'' => ∃ st3, Ghost P st'' st3 /\ I st3 /\ μ st3 < μ st') Q) st') : AW P Y rf (.loop b) Q st := ⟨I, μ, h0, h⟩
theorem ACalls.mono {f : FuncId} {args : List D} {m : Mem} {nx : Nat} {Post Post' : D -> Mem -> Nat -> Prop} (h : ACalls P f args m nx Post) (hp : ∀ d m' nx', Post d m' nx' -> Post' d m' nx') : ACalls P f args m nx Post' :=
 ⟨h.1, fun F β w vs hm hn hR => (h.2 F β w vs hm hn hR).mono fun e w' ⟨v, d, m', nx', β', h1, h2, h3⟩ => ⟨v, d, m', nx', β', h1, hp _ _ _ h2, h3⟩⟩
theorem CallOp.mono {dr : Bool} {f : FuncId} {args : List D} {K K' : D -> Mem -> Nat -> List Nat -> List Nat -> Prop} (hk : ∀ d m nx rd wr, K d m nx rd wr -> K' d m nx rd wr) (h : CallOp P dr st f args K) : CallOp P dr st f args K' := by
 rcases h with ⟨r, h1, h2⟩ | ⟨args', rds, r, h1, h2, h3, h4⟩ | ⟨es, n, t, h1, h2⟩ | ⟨h1, h2⟩ | ⟨r, ups, rds, h1, h2, h3⟩
 ·exact .inl ⟨r, h1, hk _ _ _ _ _ h2⟩
 ·exact .inr (.inl ⟨args', rds, r, h1, h2, h3, hk _ _ _ _ _ h4⟩)
 ·exact .inr (.inr (.inl ⟨es, n, t, h1, hk _ _ _ _ _ h2⟩))
 ·exact .inr (.inr (.inr (.inl ⟨h1, h2.mono fun d m nx h => hk _ _ _ _ _ h⟩)))
 ·exact .inr (.inr (.inr (.inr ⟨r, ups, rds, h1, h2, hk _ _ _ _ _ h3⟩)))
class YMono (Y : YSpec) : Prop where
 mono : ∀ l args m nx K K', (∀ d m nx, K d m nx -> K' d m nx) -> Y l args m nx K -> Y l args m nx K'
instance : YMono noY := ⟨fun _ _ _ _ _ _ _ h => h⟩
instance {l : Nat} {xs : List (List D)} {I : Nat -> Mem -> Nat -> Prop} {Stop : Mem -> Nat -> Prop} : YMono (seqY l xs I Stop) := ⟨fun _ _ _ _ _ _ hk ⟨h1, k, h2, h3, h4⟩ => ⟨h1, k, h2, h3, fun d m nx h => hk _ _ _ (h4 d m nx h)⟩⟩
theorem AOp.mono [YMono Y] {ops : Array Oper} {dr : Bool} {o : Oper} {K K' : St -> List Nat -> List Nat -> Prop} (hk : ∀ st rd wr, K st rd wr -> K' st rd wr) (h : AOp P Y ops dr o st K) : AOp P Y ops dr o st K' := by
 unfold AOp at h ⊢
 split at h
 ·refine ⟨h.1, ?_⟩
  have h := h.2
  split at h
  ·exact h.mono fun _ _ _ _ _ h => hk _ _ _ h
  ·split at h
   ·exact ⟨h.1, YMono.mono _ _ _ _ _ _ (fun _ _ _ h => hk _ _ _ h) h.2⟩
   ·split at h
    ·exact ⟨h.1, hk _ _ _ h.2⟩
    ·exact h
 ·split at h
  ·exact h
  ·split at h
   ·rcases h with ⟨r, h1, h2⟩ | ⟨h1, h2⟩
    ·exact .inl ⟨r, h1, hk _ _ _ h2⟩
    ·exact .inr ⟨fun hc => ⟨(h1 hc).1, (h1 hc).2.mono fun _ _ _ _ _ h => hk _ _ _ h⟩, fun hc => hk _ _ _ (h2 hc)⟩
   ·split at h
    ·exact ⟨fun hc => ⟨(h.1 hc).1, (h.1 hc).2.1, YMono.mono _ _ _ _ _ _ (fun _ _ _ h => hk _ _ _ h) (h.1 hc).2.2⟩, fun hc => hk _ _ _ (h.2 hc)⟩
    split at h
    ·split at h
     ·rename_i hc
      rw [if_pos hc]
      exact ⟨h.1, hk _ _ _ h.2⟩
     ·rename_i hc
      rw [if_neg hc]
      exact ⟨fun hc => ⟨(h.1 hc).1, (h.1 hc).2.1, hk _ _ _ (h.1 hc).2.2⟩, fun hc => hk _ _ _ (h.2 hc)⟩
    ·exact ⟨h.1, hk _ _ _ h.2⟩
theorem AOps.mono [YMono Y] {ops : Array Oper} {dr : Bool} {cf : List (Nat × Nat)} {Q Q' : Exit -> St -> Prop} (hq : ∀ st, Q .normal st -> Q' .normal st) : ∀ (l : List Oper) (st : St) (tr : Tra), AOps P Y ops dr cf Q l st tr -> AOps P Y ops dr cf Q' l st tr
 | [], st, tr, h => ⟨h.1, hq _ h.2⟩
 | o :: l, st, tr, h => AOp.mono (fun st' rd wr h => AOps.mono hq l st' _ h) h
theorem AW_mono : ∀ (c : Code) {Y : YSpec} [YMono Y] {rf : Bool} {Q Q' : Exit -> St -> Prop} {st : St}, (∀ e st, Q e st -> Q' e st) -> AW P Y rf c Q st -> AW P Y rf c Q' st := by
 intro c
 induction c with
 | skip => intro Y _ rf; exact fun hq h => hq _ _ h
 | ret => intro Y _ rf; exact fun hq h => hq _ _ h
 | exit id => intro Y _ rf; exact fun hq h => hq _ _ h
 | region id ops draw =>
  intro Y _ rf Q Q' st hq h
  cases draw with
  | false => exact AOps.mono (hq .normal) _ _ _ h
  | true =>
   simp only [AW] at h ⊢
   split at h
   ·exact AOps.mono (hq .normal) _ _ _ h
   ·exact h
 | seq a b iha ihb =>
  intro Y _ rf Q Q' st hq h
  refine iha (fun e st' h => ?_) h
  cases e with
  | normal => obtain ⟨st'', hg, hb⟩ := h; exact ⟨st'', hg, ihb hq hb⟩
  | _ => exact hq _ _ h
 | cond c a b iha ihb =>
  intro Y _ rf Q Q' st hq h
  refine ⟨h.1, ?_⟩
  have h := h.2
  split at h
  ·exact ⟨fun ht => iha hq (h.1 ht), fun ht => ihb hq (h.2 ht)⟩
  ·exact ⟨iha hq h.1, ihb hq h.2⟩
  ·exact h
 | block id b ih =>
  intro Y _ rf Q Q' st hq h
  refine ih (fun e st' h => ?_) h
  cases e with
  | exit i =>
   simp only [blockQ] at h ⊢
   split at h
   ·rename_i hi; rw [if_pos hi]; exact hq _ _ h
   ·rename_i hi; rw [if_neg hi]; exact hq _ _ h
  | _ => exact hq _ _ h
 | scope b ih =>
  intro Y _ rf Q Q' st hq h
  refine ih (fun e st' h => ?_) h
  cases e with
  | goto l => exact h
  | _ => exact hq _ _ h
 | loop b ih =>
  intro Y _ rf Q Q' st hq h
  obtain ⟨I, μ, h0, h1⟩ := h
  refine ⟨I, μ, h0, fun st' hi => ih (fun e st'' h => ?_) (h1 st' hi)⟩
  cases e with
  | normal => exact h
  | _ => exact hq _ _ h
 | label l => intro Y _ rf; exact fun hq h => hq _ _ h
 | rangeFunc g ps assign body iha ihb =>
  intro Y _ rf Q Q' st hq h
  obtain ⟨hrft, hask, f, fs, cs, xs, I, hcore, hseq, hxlen, hI0, hround, hdone⟩ := h
  refine ⟨hrft, hask, f, fs, cs, xs, I, hcore, hseq, hxlen, hI0, fun k m nx x hx hI => iha (fun e s h => ?_) (hround k m nx x hx hI), fun m nx h => hq _ _ (hdone m nx h)⟩
  cases e with
  | normal =>
   refine ihb (fun e s h => ?_) h
   cases e with
   | normal => exact h
   | ret => exact hq _ _ h
   | exit id => exact hq _ _ h
   | _ => exact h
  | _ => exact h
 | _ => intro Y _ rf; exact fun _ h => h.elim
theorem least {p : Nat -> Prop} : ∀ j, p j -> ∃ i, p i /\ ∀ k, p k -> i <= k := by
 intro j
 induction j using Nat.strongRecOn with
 | _ j ih =>
  intro hj
  by_cases h : ∃ k, k < j /\ p k
  ·obtain ⟨k, hk, hp⟩ := h
   exact ih k hk hp
  ·exact ⟨j, hj, fun k hk => Nat.le_of_not_lt fun hlt => h ⟨k, hlt, hk⟩⟩
open Classical in
theorem AW_while [YMono Y] {b : Code} (J : Nat -> St -> Prop) {j₀ : Nat} (h0 : J j₀ st) (h : ∀ j st', J j st' -> AW P Y rf b (seqQ (fun st'' => ∃ st3, Ghost P st'' st3 /\ ∃ j', j' < j /\ J j' st3) Q) st') : AW P Y rf (.loop b) Q st := by
 have hex : ∀ st, (∃ j, J j st) -> ∃ i, J i st /\ ∀ k, J k st -> i <= k := fun st ⟨j, hj⟩ => least j hj
 let μ : St -> Nat := fun st => if h : ∃ j, J j st then Classical.choose (hex st h) else 0
 have hμ : ∀ st, (hj : ∃ j, J j st) -> J (μ st) st /\ ∀ k, J k st -> μ st <= k := fun st hj => by
  have : μ st = Classical.choose (hex st hj) := by simp only [μ]; rw [dif_pos hj]
  rw [this]
  exact Classical.choose_spec (hex st hj)
 refine AW_loop (fun st => ∃ j, J j st) μ ⟨j₀, h0⟩ fun st' hj => AW_mono b (fun e st'' hq => ?_) (h (μ st') st' (hμ st' hj).1)
 cases e with
 | normal =>
  obtain ⟨st3, hg, j', hlt, hj'⟩ := hq
  exact ⟨st3, hg, ⟨j', hj'⟩, Nat.lt_of_le_of_lt ((hμ st3 ⟨j', hj'⟩).2 j' hj') hlt⟩
 | _ => exact hq
end
section
variable {P : Program} {F : Nat -> Prop} {β : Pla} {w : World}
theorem Tr.opt {c : Bool} {d : D} (h : Tr d) : Tr (.opt c d) := fun F β w v hv => by
 cases hv with
 | opt _ _ _ h1 h2 => exact .opt c d v (fun hc => h F β w v (h1 hc)) h2
theorem Tr.agg {cs : List D} (h : ∀ d ∈ cs, Tr d) : Tr (.agg cs) := fun F β w v hv => by
 obtain ⟨vs, rfl, hl, hh⟩ := hv.agg_inv
 exact .agg cs vs hl fun k d u hd hu => h d (List.mem_of_getElem? hd) F β w u (hh k d u hd hu)
theorem Tr.tup {cs : List D} (h : ∀ d ∈ cs, Tr d) : Tr (.tup cs) := fun F β w v hv => by
 obtain ⟨vs, rfl, hl, hh⟩ := hv.tup_inv
 exact .tup cs vs hl fun k d u hd hu => h d (List.mem_of_getElem? hd) F β w u (hh k d u hd hu)
theorem Tr.sl {cs : List D} {n : Nat} (h : ∀ d ∈ cs, Tr d) : Tr (.sl cs n) := fun F β w v hv => by
 cases hv with
 | sln a cap => exact .sln a cap
 | sl _ _ b o cap us hf hb hlt hcap hmax hc hh =>
  exact .sl cs n b o cap us (fun e => e.elim hf fun e => e hb) (fun i p hp => by cases hp) hlt hcap hmax hc fun k d hd => h d (List.mem_of_getElem? hd) F β w _ (hh k d hd)
theorem Tr.pt {cs : List D} (h : ∀ d ∈ cs, Tr d) : Tr (.pt cs) := fun F β w v hv => by
 cases hv with
 | pt _ b o us hf hb hlt hc hh =>
  exact .pt cs b o us (fun e => e.elim hf fun e => e hb) (fun i p hp => by cases hp) hlt hc fun k d hd => h d (List.mem_of_getElem? hd) F β w _ (hh k d hd)
theorem Tr.fn {f : Fn} {fs cs : List D} (h : ∀ d ∈ fs, Tr d) (h' : ∀ d ∈ cs, Tr d) : Tr (.fn f fs cs) := fun F β w v hv => by
 cases hv with
 | fn _ _ _ us vs hl hl' h1 h2 =>
  exact .fn f fs cs us vs hl hl' (fun k d u hd hu => h d (List.mem_of_getElem? hd) F β w u (h1 k d u hd hu)) fun k d u hd hu => h' d (List.mem_of_getElem? hd) F β w u (h2 k d u hd hu)
theorem Tr.im {es : List (Value × D)} (h : ∀ x ∈ es, Tr x.2) : Tr (.im es) := fun F β w v hv => by
 cases hv with
 | im _ r ms clock hf hb hc hl hnd hk hh =>
  exact .im es r ms clock (fun e => e.elim hf fun e => e hb) (fun i p hp => by cases hp) hc hl hnd hk fun k x m hx hm => h x (List.mem_of_getElem? hx) F β w _ (hh k x m hx hm)
theorem Tr.s (x : Value) : Tr (.s x) := fun F β w v hv => by
 obtain ⟨rfl, h⟩ := hv.s_inv; exact .s _ h
theorem Tr.ub : Tr .ub := fun F β w v hv => by
 obtain ⟨b, rfl⟩ := hv.ub_inv; exact .ub b
theorem Tr.u : Tr .u := fun F β w v _ => .u v
theorem Tr.z : Tr .z := fun F β w v hv => by
 obtain ⟨a, rfl⟩ := hv.z_inv; exact .z a
theorem Tr.nil : ∀ a ∈ ([] : List D), Tr a := fun _ h => by cases h
theorem Tr.cons {d : D} {l : List D} (h : Tr d) (hl : ∀ a ∈ l, Tr a) : ∀ a ∈ d :: l, Tr a := fun a ha => by
 cases ha with
 | head => exact h
 | tail _ ha => exact hl a ha
theorem Tr.map {α : Type} {f : α -> D} {l : List α} (h : ∀ x, Tr (f x)) : ∀ a ∈ l.map f, Tr a := fun a ha => by
 obtain ⟨x, _, rfl⟩ := List.mem_map.1 ha; exact h x
theorem Tr.flat {α : Type} {f : α -> List D} {l : List α} (h : ∀ x, ∀ a ∈ f x, Tr a) : ∀ a ∈ l.flatMap f, Tr a := fun a ha => by
 obtain ⟨x, _, hx⟩ := List.mem_flatMap.1 ha; exact h x a hx
end
end Go.Abs
end
section
namespace Go.Abs
instance (d : D) : Decidable d.ask := match d with
 | .opt c _ => inferInstanceAs (Decidable (c = true))
 | .u | .s _ | .ub | .agg _ | .tup _ | .z | .sl _ _ | .pt _ | .rs _ _ _ | .rp _ _ | .mp _ | .im _ | .fn _ _ _ => isTrue trivial
structure EffD where
 pre : Prop
 [dec : Decidable pre]
 val : D
 ups : List (Nat × Option Row) := []
 rd : List Nat := []
 new : Nat := 0
structure PD (α : Type) where
 p : Prop
 [dec : Decidable p]
 d : α
def EffD.eff (e : EffD) : Eff := ⟨e.pre, e.val, e.ups, e.rd, e.new⟩
def binVB (op : BinOp) (x y : Value) : Option (PD Value) :=
 match op, x, y with
 | .shl, .int k a, .int _ b => some ⟨0 <= b, .int k (k.wrap (a * 2 ^ (min b.toNat k.bits)))⟩
 | .shr, .int k a, .int _ b => some ⟨0 <= b, .int k (a.fdiv (2 ^ (min b.toNat k.bits)))⟩
 | .add, .int k a, .int k' b => some ⟨k = k', .int k (k.wrap (a + b))⟩
 | .sub, .int k a, .int k' b => some ⟨k = k', .int k (k.wrap (a - b))⟩
 | .mul, .int k a, .int k' b => some ⟨k = k', .int k (k.wrap (a * b))⟩
 | .quo, .int k a, .int k' b => some ⟨k = k' /\ b ≠ 0, .int k (k.wrap (a.tdiv b))⟩
 | .rem, .int k a, .int k' b => some ⟨k = k' /\ b ≠ 0, .int k (a.tmod b)⟩
 | .and, .int k a, .int k' b => some ⟨k = k', .int k (intBitsV .and k a b)⟩
 | .or, .int k a, .int k' b => some ⟨k = k', .int k (intBitsV .or k a b)⟩
 | .xor, .int k a, .int k' b => some ⟨k = k', .int k (intBitsV .xor k a b)⟩
 | .andNot, .int k a, .int k' b => some ⟨k = k', .int k (intBitsV .andNot k a b)⟩
 | .eql, .int k a, .int k' b => some ⟨k = k', .bool (a == b)⟩
 | .neq, .int k a, .int k' b => some ⟨k = k', .bool (a != b)⟩
 | .lss, .int k a, .int k' b => some ⟨k = k', .bool (decide (a < b))⟩
 | .leq, .int k a, .int k' b => some ⟨k = k', .bool (decide (a <= b))⟩
 | .gtr, .int k a, .int k' b => some ⟨k = k', .bool (decide (b < a))⟩
 | .geq, .int k a, .int k' b => some ⟨k = k', .bool (decide (b <= a))⟩
 | .eql, .string a, .string b => some ⟨True, .bool (a.toList == b.toList)⟩
 | .neq, .string a, .string b => some ⟨True, .bool !(a.toList == b.toList)⟩
 | .lss, .string a, .string b => some ⟨True, .bool (Op.bytesLess a.toList b.toList)⟩
 | .geq, .string a, .string b => some ⟨True, .bool !(Op.bytesLess a.toList b.toList)⟩
 | _, _, _ => none
def aggEqDB (P : Program) (op : BinOp) (t : TypeId) (xs ys : List D) : Option (PD D) :=
 match op, flatT P t, zipV xs ys with
 | .eql, some ks, some q => some ⟨q.1.map kindV = ks /\ P.eqGuardType P.depth t = false, .s (.bool (veqs q.1 q.2))⟩
 | .neq, some ks, some q => some ⟨q.1.map kindV = ks /\ P.eqGuardType P.depth t = false, .s (.bool !(veqs q.1 q.2))⟩
 | _, _, _ => none
def binDB (P : Program) (op : BinOp) (t : TypeId) (x y : D) : Option (PD D) :=
 match x, y with
 | .s (.bool a), .s (.bool b) => match op with
  | .eql => some ⟨boT P t = true, .s (.bool (a == b))⟩
  | .neq => some ⟨boT P t = true, .s (.bool !(a == b))⟩
  | _ => none
 | .s a, .s b => (binVB op a b).map fun r => @PD.mk _ r.p r.dec (.s r.d)
 | .agg xs, .agg ys => aggEqDB P op t xs ys
 | _, _ => none
def nilDB (P : Program) (m : Mem) (op : BinOp) (t : TypeId) (x : D) (y : Operand) : Option EffD :=
 match y, op, x with
 | .const (.slice none 0 0), .eql, .sl _ n => some { pre := slT P t = true, val := if n = 0 then .ub else .s (.bool false) }
 | .const (.pointer none), .eql, .rp i _ => match m i with
  | some _ => some { pre := ptT P t = true, val := .s (.bool false), rd := [i] }
  | none => none
 | .const (.pointer none), .neq, .rp i _ => match m i with
  | some _ => some { pre := ptT P t = true, val := .s (.bool true), rd := [i] }
  | none => none
 | _, _, _ => none
def lenDB (P : Program) (m : Mem) (t : TypeId) : D -> Option EffD
 | .sl _ n => some { pre := slT P t = true, val := .s (.int .i64 n) }
 | .rs i _ n => match m i with
  | some _ => some { pre := slT P t = true, val := .s (.int .i64 n), rd := [i] }
  | none => none
 | .z => some { pre := slT P t = true, val := .s (.int .i64 0) }
 | .s (.string b) => some { pre := stT P t = true, val := .s (.int .i64 b.size) }
 | .agg _ => some { pre := arT P t = true, val := .s (.int .i64 (lenP P t)) }
 | _ => none
def sliceCellsB (m : Mem) (sz : Nat) : D -> Option (PD (List Nat × Nat × List D))
 | .sl es n => some ⟨n * sz <= es.length, ([], n, es.take (n * sz))⟩
 | .z => some ⟨True, ([], 0, [])⟩
 | .rs i off n => match m i with
  | some (.cells cs _) => some ⟨off + n * sz <= cs.length, ([i], n, (cs.drop off).take (n * sz))⟩
  | _ => none
 | _ => none
def appendDB (P : Program) (m : Mem) (nx : Nat) (t : TypeId) (s x : D) : Option EffD :=
 let e := elemP P t
 let sz := P.cellsOf e
 match sliceCellsB m sz x with
 | none => none
 | some (@PD.mk _ p _ (rd, k, news)) =>
  match s with
  | .z => some { pre := slT P t = true /\ p /\ 0 < sz /\ k <= maxLen /\ k * P.bytesOf e <= 140737488355328, val := .rs nx 0 k, ups := [(nx, some (.cells news e))], rd := rd, new := 1 }
  | .rs i off n => match m i with
   | some (.cells cs e') => some { pre := slT P t = true /\ e' = e /\ p /\ 0 < sz /\ off + n * sz = cs.length /\ n + k <= maxLen /\ (n + k) * P.bytesOf e <= 140737488355328 /\ i ∉ rd, val := .rs nx 0 (n + k), ups := [(i, none), (nx, some (.cells (cs.drop off ++ news) e))], rd := i :: rd, new := 1 }
   | _ => none
  | _ => none
def lookupDB (P : Program) (m : Mem) (t : TypeId) (x k : D) (ok : Bool) : Option EffD := match keyV k, x with
 | some key, .mp i => match m i with
  | some (.map es) => some { pre := mapT P t = true /\ keyP P (mkeyP P t) key = true /\ es.all (fun e => keyP P (mkeyP P t) e.1) = true, val := gotD P t ok (lookD key es), rd := [i] }
  | _ => none
 | some key, .im es => some { pre := mapT P t = true /\ keyP P (mkeyP P t) key = true /\ es.all (fun e => keyP P (mkeyP P t) e.1) = true, val := gotD P t ok (lookD key es) }
 | some key, .s (.map none) => some { pre := mapT P t = true /\ keyP P (mkeyP P t) key = true, val := gotD P t ok none }
 | _, _ => none
def mapPutDB (P : Program) (m : Mem) (t : TypeId) (x k v : D) : Option EffD := match keyV k, x with
 | some key, .mp i => match m i with
  | some (.map es) => some { pre := mapT P t = true /\ keyP P (mkeyP P t) key = true /\ es.all (fun e => keyP P (mkeyP P t) e.1) = true, val := .tup [], ups := [(i, some (.map (putD key v es)))], rd := [i] }
  | _ => none
 | _, _ => none
def mapDelDB (P : Program) (m : Mem) (t : TypeId) (x k : D) : Option EffD := match keyV k, x with
 | some key, .mp i => match m i with
  | some (.map es) => some { pre := mapT P t = true /\ keyP P (mkeyP P t) key = true /\ es.all (fun e => keyP P (mkeyP P t) e.1) = true, val := .tup [], ups := [(i, some (.map (delD key es)))], rd := [i] }
  | _ => none
 | _, _ => none
def builtinDB (P : Program) (m : Mem) (nx : Nat) (b : Builtin) (ts : Array TypeId) (args : List D) : Option EffD :=
 match b, args with
 | .len, [x] => lenDB P m (ts.getD 0 0) x
 | .append, [s, x] => if ts.getD 0 0 = ts.getD 1 0 then appendDB P m nx (ts.getD 0 0) s x else none
 | .min, [.s (.int k a), .s (.int k' b)] => some { pre := k = k', val := .s (.int k (if b < a then b else a)) }
 | .clear, [.rs i off n] => match m i with
  | some (.cells cs e) => some { pre := slT P (ts.getD 0 0) = true /\ off + n * P.cellsOf e <= cs.length /\ e = elemP P (ts.getD 0 0), val := .tup [], ups := [(i, some (.cells (splice cs off (replD n (zeroP P e))) e))], rd := [i] }
  | _ => none
 | .delete, [x, k] => mapDelDB P m (ts.getD 0 0) x k
 | _, _ => none
def sliceDB (P : Program) (m : Mem) (t : TypeId) (x : D) (lo hi mx : Option D) : Option EffD :=
 match x with
 | .sl es n => match bndD lo 0, bndD hi n, mx with
  | some l, some h, none => some { pre := slT P t = true /\ 0 <= l /\ l <= h /\ h <= n, val := .sl ((es.drop (l.toNat * P.cellsOf (elemP P t))).take ((h - l).toNat * P.cellsOf (elemP P t))) (h - l).toNat }
  | some l, some h, some d => match d.int? with
   | some k => some { pre := slT P t = true /\ hi.isSome = true /\ 0 <= l /\ l <= h /\ h <= k /\ k <= n, val := .sl ((es.drop (l.toNat * P.cellsOf (elemP P t))).take ((h - l).toNat * P.cellsOf (elemP P t))) (h - l).toNat }
   | none => none
  | _, _, _ => none
 | .rs i off n => match m i with
  | some (.cells _ e) => match bndD lo 0, bndD hi n, mx with
   | some l, some h, none => some { pre := (slT P t = true /\ P.cellsOf e = P.cellsOf (elemP P t)) /\ 0 <= l /\ l <= h /\ h <= n, val := .rs i (off + l.toNat * P.cellsOf (elemP P t)) (h - l).toNat, rd := [i] }
   | _, _, _ => none
  | _ => none
 | .s (.string b) => match bndD lo 0, bndD hi b.size, mx with
  | some l, some h, none => some { pre := stT P t = true /\ 0 <= l /\ l <= h /\ h <= b.size, val := .s (.string (b.extract l.toNat h.toNat)) }
  | _, _, _ => none
 | _ => none
def aopB (P : Program) (o : Op) (ρ : Operand -> D) (m : Mem) (nx : Nat) : Option EffD :=
 match o with
 | .move x => some { pre := True, val := ρ x }
 | .assign x => some { pre := True, val := ρ x }
 | .pick c a b => match (ρ c).core.bool? with
  | some t => some { pre := (t = true -> (ρ a).ask /\ (ρ a).core.bool?.isSome = true) /\ (t = false -> (ρ b).ask /\ (ρ b).core.bool?.isSome = true), val := .s (.bool (if t then (ρ a).core.bool?.getD false else (ρ b).core.bool?.getD false)) }
  | none => none
 | .alloc t => some { pre := tyOk P t = true, val := .rp nx 0, ups := [(nx, some (.cells (zeroP P t) t))], new := 1 }
 | .box t x => some { pre := (ρ x).cells.all D.one = true, val := .rp nx 0, ups := [(nx, some (.cells (ρ x).cells t))], new := 1 }
 | .build t ps => match P.underlying t with
  | some (.struct fs) => (fillD (fun i => (fs[i]?).map fun f => (f.offset, P.cellsOf f.type)) (zeroP P t) (ps.toList.map fun q => (q.1, ρ q.2))).map fun cs => { pre := tyOk P t = true /\ fs.toList.all (fun f => (P.info? f.type).isSome) = true, val := .agg cs }
  | some (.array _ e) => (fillD (fun i => some (i * P.cellsOf e, P.cellsOf e)) (zeroP P t) (ps.toList.map fun q => (q.1, ρ q.2))).map fun cs => { pre := tyOk P t = true /\ tyOk P e = true, val := .agg cs }
  | _ => none
 | .buildSlice t n ps => (fillD (fun i => some (i * P.cellsOf (elemP P t), P.cellsOf (elemP P t))) (replD n (zeroP P (elemP P t))) (ps.toList.map fun q => (q.1, ρ q.2))).map fun cs =>
   { pre := cs.all D.one = true /\ n * P.cellsOf (elemP P t) <= 2 ^ 24 /\ slT P t = true /\ n <= maxLen, val := .rs nx 0 n, ups := [(nx, some (.cells cs (elemP P t)))], new := 1 }
 | .load t a => match ρ a with
  | .pt cs => some { pre := tyOk P t = true /\ P.cellsOf t <= cs.length, val := takeV P t cs }
  | .rp i off => match m i with
   | some (.cells cs _) => some { pre := tyOk P t = true /\ off + P.cellsOf t <= cs.length, val := takeV P t (cs.drop off), rd := [i] }
   | _ => none
  | _ => none
 | .store t a x => match ρ a with
  | .rp i off => match m i with
   | some (.cells cs e) => some { pre := tyOk P t = true /\ (ρ x).cells.length = P.cellsOf t /\ off + P.cellsOf t <= cs.length /\ (ρ x).cells.all D.one = true, val := .tup [], ups := [(i, some (.cells (splice cs off (ρ x).cells) e))], rd := [i] }
   | _ => none
  | _ => none
 | .nilCheck x => match ρ x with
  | .pt cs => some { pre := True, val := .pt cs }
  | .rp i off => match m i with
   | some _ => some { pre := True, val := .rp i off, rd := [i] }
   | none => none
  | _ => none
 | .binOp op t x y _ => match nilDB P m op t (ρ x) y with
  | some e => some e
  | none => (binDB P op t (ρ x) (ρ y)).map fun r => @EffD.mk r.p r.dec r.d [] [] 0
 | .unOp op _ x => match ρ x with
  | .s v => (unV op v).map fun r => { pre := True, val := .s r }
  | _ => none
 | .convert src dst x => match P.underlying dst, ρ x with
  | some (.int k), .s (.int _ n) => some { pre := tyOk P src = true, val := .s (.int k (k.wrap n)) }
  | some (.slice e), .s (.string b) => match P.underlying e with
   | some (.int .u8) => some { pre := stT P src = true /\ b.size <= maxLen, val := .sl (b.data.toList.map fun c => .s (.int .u8 c.toNat)) b.size }
   | _ => none
  | _, _ => none
 | .makeFunc f fs cs => some { pre := True, val := .fn f (fs.toList.map ρ) (cs.toList.map ρ) }
 | .makeMap _ r => match r with
  | none => some { pre := True, val := .mp nx, ups := [(nx, some (.map []))], new := 1 }
  | some _ => none
 | .makeSlice t l c => match ρ l, ρ c with
  | .s (.int .i64 n), .s (.int .i64 k) => some { pre := 0 <= n /\ n = k /\ n <= 9223372036854775807 /\ P.bytesOf (elemP P t) * n <= 281474976710656 /\ slT P t = true, val := .rs nx 0 n.toNat, ups := [(nx, some (.cells (replD n.toNat (zeroP P (elemP P t))) (elemP P t)))], new := 1 }
  | _, _ => none
 | .lookup t x k ok => lookupDB P m t (ρ x) (ρ k) ok
 | .mapUpdate t x k v => mapPutDB P m t (ρ x) (ρ k) (ρ v)
 | .insert t x k v => mapPutDB P m t (ρ x) (ρ k) (ρ v)
 | .slice t x lo hi mx => sliceDB P m t (ρ x) (lo.map ρ) (hi.map ρ) (mx.map ρ)
 | .fieldAddr t x k => match fieldP P t k, ρ x with
  | some (off, ft), .pt cs => some { pre := 0 < P.cellsOf ft, val := .pt (cs.drop off) }
  | some (off, ft), .rp i o => match m i with
   | some _ => some { pre := 0 < P.cellsOf ft, val := .rp i (o + off), rd := [i] }
   | none => none
  | _, _ => none
 | .field t x k => match fieldP P t k, ρ x with
  | some (off, ft), .agg cs => some { pre := tyOk P ft = true /\ off + P.cellsOf ft <= cs.length, val := takeV P ft (cs.drop off) }
  | _, _ => none
 | .indexAddr t x i => match ρ x, ρ i with
  | .sl es n, .s (.int _ k) => some { pre := slT P t = true /\ 0 <= k /\ k < n /\ (k.toNat + 1) * P.cellsOf (elemP P t) <= es.length, val := .pt (es.drop (k.toNat * P.cellsOf (elemP P t))) }
  | .rs j off n, .s (.int _ k) => match m j with
   | some _ => some { pre := slT P t = true /\ 0 <= k /\ k < n, val := .rp j (off + k.toNat * P.cellsOf (elemP P t)), rd := [j] }
   | none => none
  | .rp j off, .s (.int _ k) => match m j with
   | some _ => some { pre := arT P t = true /\ 0 <= k /\ k < lenP P t, val := .rp j (off + k.toNat * P.cellsOf (elemP P t)), rd := [j] }
   | none => none
  | _, _ => none
 | .index t x i => match ρ x, ρ i with
  | .s (.string b), .s (.int _ k) => some { pre := stT P t = true /\ 0 <= k /\ k < b.size, val := .s (.int .u8 (b.data.toList.getD k.toNat 0).toNat) }
  | .agg cs, .s (.int _ k) => some { pre := arT P t = true /\ 0 <= k /\ k < lenP P t /\ (k.toNat + 1) * P.cellsOf (elemP P t) <= cs.length, val := takeV P (elemP P t) (cs.drop (k.toNat * P.cellsOf (elemP P t))) }
  | _, _ => none
 | .extract x k => match ρ x with
  | .tup cs => some { pre := k < cs.length, val := cs.getD k .u }
  | _ => none
 | .call c => match c.callee with
  | .builtin b => if c.argTypes.size = c.args.size then builtinDB P m nx b c.argTypes (c.args.toList.map ρ) else none
  | _ => none
 | _ => none
theorem binVB_eq (op : BinOp) (x y : Value) : binV op x y = (binVB op x y).map fun r => (r.p, r.d) := by
 cases op <;> cases x <;> first | rfl | (cases y <;> rfl)
theorem aggEqDB_eq (P : Program) (op : BinOp) (t : TypeId) (xs ys : List D) : aggEqD P op t xs ys = (aggEqDB P op t xs ys).map fun r => (r.p, r.d) := by
 unfold aggEqD aggEqDB
 cases op <;> first | rfl | skip
 all_goals cases flatT P t <;> first | rfl | skip
 all_goals cases zipV xs ys <;> rfl
theorem binDB_eq (P : Program) (op : BinOp) (t : TypeId) (x y : D) : binD P op t x y = (binDB P op t x y).map fun r => (r.p, r.d) := by
 have hs : ∀ a b, (binV op a b).map (fun r => (r.1, D.s r.2)) = ((binVB op a b).map fun r => @PD.mk _ r.p r.dec (D.s r.d)).map fun r => (r.p, r.d) := fun a b => by
  rw [binVB_eq]
  cases binVB op a b <;> rfl
 cases x with
 | s a =>
  cases y with
  | s b =>
   cases a with
   | bool a =>
    cases b with
    | bool b => cases op <;> rfl
    | _ => exact hs _ _
   | _ => exact hs _ _
  | _ => cases a <;> rfl
 | agg xs =>
  cases y with
  | agg ys => exact aggEqDB_eq P op t xs ys
  | _ => rfl
 | _ => rfl
theorem nilDB_eq (P : Program) (m : Mem) (op : BinOp) (t : TypeId) (x : D) (y : Operand) : nilD P m op t x y = (nilDB P m op t x y).map EffD.eff := by
 unfold nilD nilDB
 split <;> split <;> simp_all [EffD.eff]
 all_goals split <;> simp_all [EffD.eff]
theorem lenDB_eq (P : Program) (m : Mem) (t : TypeId) (x : D) : lenD P m t x = (lenDB P m t x).map EffD.eff := by
 unfold lenD lenDB
 split <;> first | rfl | skip
 all_goals split <;> simp_all [EffD.eff]
theorem sliceCellsB_eq (m : Mem) (sz : Nat) (x : D) : sliceCells m sz x = (sliceCellsB m sz x).map fun r => (r.p, r.d) := by
 unfold sliceCells sliceCellsB
 split <;> first | rfl | skip
 all_goals split <;> simp_all
theorem appendDB_eq (P : Program) (m : Mem) (nx : Nat) (t : TypeId) (s x : D) : appendD P m nx t s x = (appendDB P m nx t s x).map EffD.eff := by
 unfold appendD appendDB
 simp only [sliceCellsB_eq]
 cases sliceCellsB m (P.cellsOf (elemP P t)) x with
 | none => rfl
 | some r =>
  obtain ⟨p, rd, k, news⟩ := r
  simp only [Option.map_some]
  split <;> first | rfl | skip
  all_goals split <;> simp_all [EffD.eff]
theorem lookupDB_eq (P : Program) (m : Mem) (t : TypeId) (x k : D) (ok : Bool) : lookupD P m t x k ok = (lookupDB P m t x k ok).map EffD.eff := by
 unfold lookupD lookupDB
 split <;> first | rfl | skip
 all_goals split <;> simp_all [EffD.eff]
theorem mapPutDB_eq (P : Program) (m : Mem) (t : TypeId) (x k v : D) : mapPutD P m t x k v = (mapPutDB P m t x k v).map EffD.eff := by
 unfold mapPutD mapPutDB
 split <;> first | rfl | skip
 all_goals split <;> simp_all [EffD.eff]
theorem mapDelDB_eq (P : Program) (m : Mem) (t : TypeId) (x k : D) : mapDelD P m t x k = (mapDelDB P m t x k).map EffD.eff := by
 unfold mapDelD mapDelDB
 split <;> first | rfl | skip
 all_goals split <;> simp_all [EffD.eff]
theorem builtinDB_eq (P : Program) (m : Mem) (nx : Nat) (b : Builtin) (ts : Array TypeId) (args : List D) : builtinD P m nx b ts args = (builtinDB P m nx b ts args).map EffD.eff := by
 cases b with
 | len =>
  match args with
  | [] => rfl
  | [x] => exact lenDB_eq _ _ _ _
  | _ :: _ :: _ => rfl
 | append =>
  match args with
  | [] => rfl
  | [x] => rfl
  | [s, x] =>
   simp only [builtinD, builtinDB]
   split
   ·exact appendDB_eq _ _ _ _ _ _
   ·rfl
  | _ :: _ :: _ :: _ => rfl
 | min =>
  match args with
  | [] => rfl
  | [x] =>
   cases x with
   | s a => cases a <;> rfl
   | _ => rfl
  | [x, y] =>
   cases x with
   | s a =>
    cases a with
    | int k a =>
     cases y with
     | s b => cases b <;> rfl
     | _ => rfl
    | _ => rfl
   | _ => rfl
  | x :: y :: _ :: _ =>
   cases x with
   | s a =>
    cases a with
    | int k a =>
     cases y with
     | s b => cases b <;> rfl
     | _ => rfl
    | _ => rfl
   | _ => rfl
 | clear =>
  match args with
  | [] => rfl
  | [x] =>
   cases x with
   | rs i off n =>
    simp only [builtinD, builtinDB]
    cases m i with
    | none => rfl
    | some r => cases r <;> rfl
   | _ => rfl
  | x :: _ :: _ => cases x <;> rfl
 | delete =>
  match args with
  | [] => rfl
  | [x] => rfl
  | [x, k] => exact mapDelDB_eq _ _ _ _ _
  | _ :: _ :: _ :: _ => rfl
 | _ => rfl
theorem sliceDB_eq (P : Program) (m : Mem) (t : TypeId) (x : D) (lo hi mx : Option D) : sliceD P m t x lo hi mx = (sliceDB P m t x lo hi mx).map EffD.eff := by
 unfold sliceD sliceDB
 cases x with
 | sl es n =>
  simp only
  cases bndD lo 0 <;> first | rfl | skip
  cases bndD hi n <;> first | rfl | skip
  cases mx with
  | none => rfl
  | some d =>
   simp only
   cases d.int? <;> rfl
 | rs i off n =>
  simp only
  cases m i with
  | none => rfl
  | some r =>
   cases r <;> first | rfl | skip
   simp only
   cases bndD lo 0 <;> first | rfl | skip
   cases bndD hi n <;> first | rfl | skip
   cases mx <;> rfl
 | s v =>
  cases v <;> first | rfl | skip
  simp only
  cases bndD lo 0 <;> first | rfl | skip
  rename_i b _
  cases bndD hi b.size <;> first | rfl | skip
  cases mx <;> rfl
 | _ => rfl
theorem aopB_eq (P : Program) (o : Op) (ρ : Operand -> D) (m : Mem) (nx : Nat) : aop P o ρ m nx = (aopB P o ρ m nx).map EffD.eff := by
 cases o with
 | call c =>
  simp only [aop, aopB]
  cases c.callee with
  | builtin b =>
   simp only
   split
   ·exact builtinDB_eq _ _ _ _ _ _
   ·rfl
  | _ => rfl
 | binOp op t x y _ =>
  simp only [aop, aopB, nilDB_eq, binDB_eq]
  cases nilDB P m op t (ρ x) y with
  | some e => rfl
  | none =>
   cases binDB P op t (ρ x) (ρ y) with
   | some r => rfl
   | none => rfl
 | lookup t x k ok => exact lookupDB_eq _ _ _ _ _ _
 | mapUpdate t x k v => exact mapPutDB_eq _ _ _ _ _ _
 | insert t x k v => exact mapPutDB_eq _ _ _ _ _ _
 | slice t x lo hi mx => exact sliceDB_eq _ _ _ _ _ _ _
 | build t ps =>
  simp only [aop, aopB]
  cases P.underlying t with
  | none => rfl
  | some u =>
   cases u with
   | struct fs => simp only; cases fillD _ _ _ <;> rfl
   | array n e => simp only; cases fillD _ _ _ <;> rfl
   | _ => rfl
 | buildSlice t n ps =>
  simp only [aop, aopB]
  cases fillD _ _ _ <;> rfl
 | unOp op t x =>
  simp only [aop, aopB]
  cases ρ x with
  | s v => simp only; cases unV op v <;> rfl
  | _ => rfl
 | load t a =>
  simp only [aop, aopB]
  cases ρ a with
  | rp i off => simp only; cases m i with
   | none => rfl
   | some r => cases r <;> rfl
  | _ => rfl
 | store t a x =>
  simp only [aop, aopB]
  cases ρ a with
  | rp i off => simp only; cases m i with
   | none => rfl
   | some r => cases r <;> rfl
  | _ => rfl
 | pick c a b =>
  simp only [aop, aopB]
  cases (ρ c).core.bool? <;> rfl
 | nilCheck x =>
  simp only [aop, aopB]
  cases ρ x with
  | rp i off => simp only; cases m i <;> rfl
  | _ => rfl
 | makeMap t r => cases r <;> rfl
 | makeSlice t l c =>
  simp only [aop, aopB]
  cases ρ l with
  | s v =>
   cases v with
   | int k n =>
    cases k with
    | i64 =>
     cases ρ c with
     | s v => cases v with
      | int k n => cases k <;> rfl
      | _ => rfl
     | _ => rfl
    | _ => rfl
   | _ => rfl
  | _ => rfl
 | convert src dst x =>
  simp only [aop, aopB]
  cases P.underlying dst with
  | none => rfl
  | some u =>
   cases u with
   | int k => cases ρ x with
    | s v => cases v <;> rfl
    | _ => rfl
   | slice e => cases ρ x with
    | s v => cases v with
     | string b =>
      simp only
      cases P.underlying e with
      | none => rfl
      | some u =>
       cases u with
       | int k => cases k <;> rfl
       | _ => rfl
     | _ => rfl
    | _ => rfl
   | _ => rfl
 | fieldAddr t x k =>
  simp only [aop, aopB]
  cases fieldP P t k with
  | none => rfl
  | some q =>
   obtain ⟨off, ft⟩ := q
   cases ρ x with
   | rp i o => simp only; cases m i <;> rfl
   | _ => rfl
 | field t x k =>
  simp only [aop, aopB]
  cases fieldP P t k with
  | none => rfl
  | some q =>
   obtain ⟨off, ft⟩ := q
   cases ρ x <;> rfl
 | indexAddr t x i =>
  simp only [aop, aopB]
  cases ρ x with
  | sl es n => cases ρ i with
   | s v => cases v <;> rfl
   | _ => rfl
  | rs j off n => cases ρ i with
   | s v => cases v with
    | int k n => simp only; cases m j <;> rfl
    | _ => rfl
   | _ => rfl
  | rp j off => cases ρ i with
   | s v => cases v with
    | int k n => simp only; cases m j <;> rfl
    | _ => rfl
   | _ => rfl
  | _ => rfl
 | index t x i =>
  simp only [aop, aopB]
  cases ρ x with
  | s v => cases v with
   | string b => cases ρ i with
    | s v => cases v <;> rfl
    | _ => rfl
   | _ => rfl
  | agg cs => cases ρ i with
   | s v => cases v <;> rfl
   | _ => rfl
  | _ => rfl
 | extract x k =>
  simp only [aop, aopB]
  cases ρ x <;> rfl
 | _ => rfl
end Go.Abs
end
section
namespace Go.Abs
inductive T (α : Type) where
 | leaf
 | node (v : Option α) (l r : T α)
def T.get {α : Type} : T α -> Nat -> Option α
 | .leaf, _ => none
 | .node v l r, i => bif Nat.beq i 0 then v else bif Nat.beq (i % 2) 1 then l.get (i / 2) else r.get (i / 2 - 1)
def T.set {α : Type} : Nat -> T α -> Nat -> Option α -> T α
 | 0, t, _, _ => t
 | f + 1, .leaf, i, v => bif Nat.beq i 0 then .node v .leaf .leaf else bif Nat.beq (i % 2) 1 then .node none (T.set f .leaf (i / 2) v) .leaf else .node none .leaf (T.set f .leaf (i / 2 - 1) v)
 | f + 1, .node v0 l r, i, v => bif Nat.beq i 0 then .node v l r else bif Nat.beq (i % 2) 1 then .node v0 (T.set f l (i / 2) v) r else .node v0 l (T.set f r (i / 2 - 1) v)
theorem T.get_node {α : Type} (v : Option α) (l r : T α) (i : Nat) : (T.node v l r).get i = if i = 0 then v else if i % 2 = 1 then l.get (i / 2) else r.get (i / 2 - 1) := by
 simp only [T.get, Bool.cond_eq_ite, Nat.beq_eq]
theorem T.get_set {α : Type} (v : Option α) : ∀ (f : Nat) (t : T α) (i j : Nat), i + 1 < 2 ^ f -> (T.set f t i v).get j = if j = i then v else t.get j
 | 0, t, i, j, h => by simp at h
 | f + 1, t, i, j, h => by
  have h2 : 2 ^ (f + 1) = 2 * 2 ^ f := by rw [Nat.pow_succ]; omega
  have hodd : i % 2 = 1 -> i / 2 + 1 < 2 ^ f := fun _ => by omega
  have hev : i ≠ 0 -> i % 2 ≠ 1 -> i / 2 - 1 + 1 < 2 ^ f := fun _ _ => by omega
  have lg : ∀ k, (T.leaf : T α).get k = none := fun k => rfl
  cases t with
  | leaf =>
   simp only [T.set, Bool.cond_eq_ite, Nat.beq_eq]
   by_cases h0 : i = 0
   ·subst h0
    simp only [if_true, T.get_node, lg]
    by_cases hj : j = 0 <;> simp [hj]
   ·rw [if_neg h0]
    by_cases h1 : i % 2 = 1
    ·rw [if_pos h1, T.get_node, T.get_set v f _ _ _ (hodd h1)]
     simp only [lg]
     by_cases hj : j = i
     ·subst hj; simp [h0, h1]
     ·rw [if_neg hj]
      by_cases hj0 : j = 0
      ·rw [if_pos hj0]
      ·rw [if_neg hj0]
       by_cases hj1 : j % 2 = 1
       ·rw [if_pos hj1, if_neg oG]
       ·rw [if_neg hj1]
    ·rw [if_neg h1, T.get_node, T.get_set v f _ _ _ (hev h0 h1)]
     simp only [lg]
     by_cases hj : j = i
     ·subst hj; simp [h0, h1]
     ·rw [if_neg hj]
      by_cases hj0 : j = 0
      ·rw [if_pos hj0]
      ·rw [if_neg hj0]
       by_cases hj1 : j % 2 = 1
       ·rw [if_pos hj1]
       ·rw [if_neg hj1, if_neg oG]
  | node v0 l r =>
   simp only [T.set, Bool.cond_eq_ite, Nat.beq_eq]
   by_cases h0 : i = 0
   ·subst h0
    simp only [if_true, T.get_node]
    by_cases hj : j = 0 <;> simp [hj]
   ·rw [if_neg h0]
    by_cases h1 : i % 2 = 1
    ·rw [if_pos h1, T.get_node, T.get_node, T.get_set v f _ _ _ (hodd h1)]
     by_cases hj : j = i
     ·subst hj; simp [h0, h1]
     ·rw [if_neg hj]
      by_cases hj0 : j = 0
      ·rw [if_pos hj0, if_pos hj0]
      ·rw [if_neg hj0, if_neg hj0]
       by_cases hj1 : j % 2 = 1
       ·rw [if_pos hj1, if_pos hj1, if_neg oG]
       ·rw [if_neg hj1, if_neg hj1]
    ·rw [if_neg h1, T.get_node, T.get_node, T.get_set v f _ _ _ (hev h0 h1)]
     by_cases hj : j = i
     ·subst hj; simp [h0, h1]
     ·rw [if_neg hj]
      by_cases hj0 : j = 0
      ·rw [if_pos hj0, if_pos hj0]
      ·rw [if_neg hj0, if_neg hj0]
       by_cases hj1 : j % 2 = 1
       ·rw [if_pos hj1, if_pos hj1]
       ·rw [if_neg hj1, if_neg hj1, if_neg oG]
def T.put {α : Type} (t : T α) (i : Nat) (v : Option α) : Option (T α) := bif Nat.blt i 1000000 then some (T.set 20 t i v) else none
theorem T.get_put {α : Type} {t t' : T α} {i : Nat} {v : Option α} (h : t.put i v = some t') (j : Nat) : t'.get j = if j = i then v else t.get j := by
 unfold T.put at h
 cases hb : Nat.blt i 1000000 with
 | false => rw [hb] at h; cases h
 | true =>
  rw [hb] at h
  simp only [cond_true, Option.some.injEq] at h
  subst h
  have : i < 1000000 := by simpa using hb
  exact T.get_set v 20 t i j oG
structure CSt where
 env : T D
 mem : T Row
 nx : Nat
def envF (t : T D) : Env := fun i => (t.get i).getD .u
def memF (t : T Row) : Mem := fun i => t.get i
def CSt.st (c : CSt) : St := ⟨envF c.env, memF c.mem, c.nx⟩
theorem envF_put {t t' : T D} {i : Nat} {d : D} (h : t.put i (some d) = some t') : envF t' = up (envF t) i d := by
 funext j
 simp only [envF, T.get_put h, up_apply]
 split <;> rfl
theorem memF_put {t t' : T Row} {i : Nat} {r : Option Row} (h : t.put i r = some t') : memF t' = up (memF t) i r := by
 funext j
 simp only [memF, T.get_put h, up_apply]
def putT (t : T D) : Option Nat -> D -> Option (T D)
 | none, _ => some t
 | some i, d => t.put i (some d)
def upsE (m : T Row) : List (Nat × Option Row) -> Option (T Row)
 | [] => some m
 | (i, r) :: us => match m.put i r with
  | some m' => upsE m' us
  | none => none
theorem putT_st {t t' : T D} {dst : Option Nat} {d : D} (h : putT t dst d = some t') (m : Mem) (nx : Nat) : (⟨envF t', m, nx⟩ : St) = St.put ⟨envF t, m, nx⟩ dst d := by
 cases dst with
 | none => simp only [putT, Option.some.injEq] at h; subst h; rfl
 | some i => simp only [putT] at h; simp only [St.put, envF_put h]
theorem upsE_mem : ∀ {us : List (Nat × Option Row)} {m m' : T Row}, upsE m us = some m' -> memF m' = upds (memF m) us
 | [], m, m', h => by simp only [upsE, Option.some.injEq] at h; subst h; rfl
 | (i, r) :: us, m, m', h => by
  simp only [upsE] at h
  cases hp : m.put i r with
  | none => rw [hp] at h; cases h
  | some m1 =>
   rw [hp] at h
   simp only at h
   rw [upsE_mem h, memF_put hp]
   rfl
def trB : Nat -> D -> Bool
 | 0, _ => false
 | n + 1, d => match d with
  | .rs .. | .rp .. | .mp _ => false
  | .opt _ d => trB n d
  | .agg cs | .tup cs | .pt cs | .sl cs _ => cs.all (trB n)
  | .fn _ fs cs => fs.all (trB n) && cs.all (trB n)
  | .im es => es.all fun x => trB n x.2
  | _ => true
section
variable {P : Program} {F : Nat -> Prop} {β : Pla} {w : World}
theorem trB_Tr : ∀ {n : Nat} {d : D}, trB n d = true -> Tr d
 | 0, _, h => by cases h
 | n + 1, d, h => by
  cases d with
  | rs => cases h
  | rp => cases h
  | mp => cases h
  | opt c d => exact .opt (trB_Tr h)
  | agg cs => exact .agg fun d hd => trB_Tr (List.all_eq_true.1 h d hd)
  | tup cs => exact .tup fun d hd => trB_Tr (List.all_eq_true.1 h d hd)
  | sl cs n => exact .sl fun d hd => trB_Tr (List.all_eq_true.1 h d hd)
  | pt cs => exact .pt fun d hd => trB_Tr (List.all_eq_true.1 h d hd)
  | fn f fs cs =>
   simp only [trB, Bool.and_eq_true] at h
   exact .fn (fun d hd => trB_Tr (List.all_eq_true.1 h.1 d hd)) fun d hd => trB_Tr (List.all_eq_true.1 h.2 d hd)
  | im es => exact .im fun x hx => trB_Tr (List.all_eq_true.1 h x hx)
  | s v => exact .s v
  | ub => exact .ub
  | u => exact .u
  | z => exact .z
def mapO {α β : Type} (f : α -> Option (β × List Nat)) : List α -> Option (List β × List Nat)
 | [] => some ([], [])
 | x :: xs => match f x with
  | none => none
  | some y => match mapO f xs with
   | none => none
   | some ys => some (y.1 :: ys.1, y.2 ++ ys.2)
theorem mapO_spec {α β : Type} {f : α -> Option (β × List Nat)} : ∀ {xs : List α} {ys : List β} {r : List Nat}, mapO f xs = some (ys, r) ->
  ys.length = xs.length /\ (∀ (k : Nat) (y : β), ys[k]? = some y -> ∃ x r', xs[k]? = some x /\ f x = some (y, r') /\ ∀ i ∈ r', i ∈ r)
 | [], ys, r, h => by simp only [mapO, Option.some.injEq, Prod.mk.injEq] at h; obtain ⟨rfl, rfl⟩ := h; simp
 | x :: xs, ys, r, h => by
  simp only [mapO] at h
  cases hx : f x with
  | none => rw [hx] at h; cases h
  | some y =>
   rw [hx] at h
   simp only at h
   cases hxs : mapO f xs with
   | none => rw [hxs] at h; cases h
   | some yy =>
    rw [hxs] at h
    simp only [Option.some.injEq, Prod.mk.injEq] at h
    obtain ⟨rfl, rfl⟩ := h
    obtain ⟨h1, h2⟩ := mapO_spec (ys := yy.1) (r := yy.2) hxs
    refine ⟨by simp [h1], fun k z hz => ?_⟩
    cases k with
    | zero =>
     simp only [List.getElem?_cons_zero, Option.some.injEq] at hz
     subst hz
     exact ⟨x, y.2, rfl, hx, fun i hi => by simp [hi]⟩
    | succ k =>
     obtain ⟨x', r', g1, g2, g3⟩ := h2 k z (by simpa using hz)
     exact ⟨x', r', by simpa using g1, g2, fun i hi => by simp [g3 i hi]⟩
def deepF (P : Program) (m : Mem) : Nat -> D -> Option (D × List Nat)
 | 0, _ => none
 | n + 1, d => match d with
  | .mp i => match m i with
   | some (.map es) => (mapO (fun x => (deepF P m n x.2).map fun y => ((x.1, y.1), y.2)) es).map fun x => (.im x.1, i :: x.2)
   | _ => none
  | .im es => (mapO (fun x => (deepF P m n x.2).map fun y => ((x.1, y.1), y.2)) es).map fun x => (.im x.1, x.2)
  | .rs i off k => match m i with
   | some (.cells cs e) => (mapO (deepF P m n) ((cs.drop off).take (k * P.cellsOf e))).map fun x => (.sl x.1 k, i :: x.2)
   | _ => none
  | .rp i off => match m i with
   | some (.cells cs _) => (mapO (deepF P m n) (cs.drop off)).map fun x => (.pt x.1, i :: x.2)
   | _ => none
  | .opt true d => (deepF P m n d).map fun x => (.opt true x.1, x.2)
  | .opt false _ => some (.opt false .u, [])
  | .agg cs => (mapO (deepF P m n) cs).map fun x => (.agg x.1, x.2)
  | .tup cs => (mapO (deepF P m n) cs).map fun x => (.tup x.1, x.2)
  | .sl cs k => (mapO (deepF P m n) cs).map fun x => (.sl x.1 k, x.2)
  | .pt cs => (mapO (deepF P m n) cs).map fun x => (.pt x.1, x.2)
  | .fn f fs cs => match mapO (deepF P m n) fs with
   | none => none
   | some x => (mapO (deepF P m n) cs).map fun y => (.fn f x.1 y.1, x.2 ++ y.2)
  | .s v => some (.s v, [])
  | .ub => some (.ub, [])
  | .u => some (.u, [])
  | .z => some (.z, [])
theorem mapO_all {α β : Type} {f : α -> Option (β × List Nat)} {xs : List α} {ys : List β} {r : List Nat} (h : mapO f xs = some (ys, r)) {p : β -> Prop} (hp : ∀ x y r', f x = some (y, r') -> p y) : ∀ y ∈ ys, p y := fun y hy => by
 obtain ⟨k, hk⟩ := List.getElem?_of_mem hy
 obtain ⟨x, r', _, h2, _⟩ := (mapO_spec h).2 k y hk
 exact hp x y r' h2
theorem deep_Tr {m : Mem} : ∀ {n : Nat} {d d' : D} {r : List Nat}, deepF P m n d = some (d', r) -> Tr d'
 | 0, _, _, _, h => by cases h
 | n + 1, d, d', r, h => by
  have ih : ∀ x y r', deepF P m n x = some (y, r') -> Tr y := fun x y r' h => deep_Tr h
  have ihm : ∀ (x : Value × D) (y : Value × D) r', (deepF P m n x.2).map (fun y => ((x.1, y.1), y.2)) = some (y, r') -> Tr y.2 := fun x y r' h => by
   simp only [Option.map_eq_some_iff, Prod.mk.injEq] at h
   obtain ⟨z, hz, rfl, _⟩ := h
   exact deep_Tr (r := z.2) hz
  cases d with
  | mp i =>
   simp only [deepF] at h
   split at h
   ·simp only [Option.map_eq_some_iff, Prod.mk.injEq] at h
    obtain ⟨x, hx, rfl, _⟩ := h
    exact .im (mapO_all (ys := x.1) (r := x.2) hx ihm)
   ·cases h
  | im es =>
   simp only [deepF, Option.map_eq_some_iff, Prod.mk.injEq] at h
   obtain ⟨x, hx, rfl, _⟩ := h
   exact .im (mapO_all (ys := x.1) (r := x.2) hx ihm)
  | rs i off k =>
   simp only [deepF] at h
   split at h
   ·simp only [Option.map_eq_some_iff, Prod.mk.injEq] at h
    obtain ⟨x, hx, rfl, _⟩ := h
    exact .sl (mapO_all (ys := x.1) (r := x.2) hx ih)
   ·cases h
  | rp i off =>
   simp only [deepF] at h
   split at h
   ·simp only [Option.map_eq_some_iff, Prod.mk.injEq] at h
    obtain ⟨x, hx, rfl, _⟩ := h
    exact .pt (mapO_all (ys := x.1) (r := x.2) hx ih)
   ·cases h
  | opt c d =>
   cases c with
   | true =>
    simp only [deepF, Option.map_eq_some_iff, Prod.mk.injEq] at h
    obtain ⟨x, hx, rfl, _⟩ := h
    exact .opt (deep_Tr (r := x.2) hx)
   | false => simp only [deepF, Option.some.injEq, Prod.mk.injEq] at h; obtain ⟨rfl, _⟩ := h; exact .opt .u
  | agg cs =>
   simp only [deepF, Option.map_eq_some_iff, Prod.mk.injEq] at h
   obtain ⟨x, hx, rfl, _⟩ := h
   exact .agg (mapO_all (ys := x.1) (r := x.2) hx ih)
  | tup cs =>
   simp only [deepF, Option.map_eq_some_iff, Prod.mk.injEq] at h
   obtain ⟨x, hx, rfl, _⟩ := h
   exact .tup (mapO_all (ys := x.1) (r := x.2) hx ih)
  | sl cs k =>
   simp only [deepF, Option.map_eq_some_iff, Prod.mk.injEq] at h
   obtain ⟨x, hx, rfl, _⟩ := h
   exact .sl (mapO_all (ys := x.1) (r := x.2) hx ih)
  | pt cs =>
   simp only [deepF, Option.map_eq_some_iff, Prod.mk.injEq] at h
   obtain ⟨x, hx, rfl, _⟩ := h
   exact .pt (mapO_all (ys := x.1) (r := x.2) hx ih)
  | fn f fs cs =>
   simp only [deepF] at h
   cases hx : mapO (deepF P m n) fs with
   | none => rw [hx] at h; cases h
   | some x =>
    rw [hx] at h
    simp only [Option.map_eq_some_iff, Prod.mk.injEq] at h
    obtain ⟨y, hy, rfl, _⟩ := h
    exact .fn (mapO_all (ys := x.1) (r := x.2) hx ih) (mapO_all (ys := y.1) (r := y.2) hy ih)
  | s v => simp only [deepF, Option.some.injEq, Prod.mk.injEq] at h; obtain ⟨rfl, _⟩ := h; exact .s v
  | ub => simp only [deepF, Option.some.injEq, Prod.mk.injEq] at h; obtain ⟨rfl, _⟩ := h; exact .ub
  | u => simp only [deepF, Option.some.injEq, Prod.mk.injEq] at h; obtain ⟨rfl, _⟩ := h; exact .u
  | z => simp only [deepF, Option.some.injEq, Prod.mk.injEq] at h; obtain ⟨rfl, _⟩ := h; exact .z
def Looks (P : Program) (F : Nat -> Prop) (β : Pla) (w : World) (m : Mem) (rds : List Nat) : Prop := ∀ i ∈ rds, ∀ r, m i = some r -> ∃ p, β i = some p /\ RowR P F β w r p /\ ∀ b, p.blk = some b -> ¬ F b
theorem noRows_free (b : Nat) : noRows.free b := fun i p hp => by cases hp
theorem deep_R {m : Mem} : ∀ {n : Nat} {d d' : D} {r : List Nat}, deepF P m n d = some (d', r) -> Looks P F β w m r -> ∀ {v : Value}, R F β w d v -> R F noRows w d' v
 | 0, _, _, _, h, _, _, _ => by cases h
 | n + 1, d, d', r, h, hl, v, hv => by
  have many : ∀ {xs ys : List D} {r' : List Nat}, mapO (deepF P m n) xs = some (ys, r') -> (∀ i ∈ r', i ∈ r) -> ys.length = xs.length /\ ∀ (k : Nat) (d : D) (u : Value), ys[k]? = some d -> (∀ d0, xs[k]? = some d0 -> R F β w d0 u) -> R F noRows w d u := fun h hr => by
   obtain ⟨h1, h2⟩ := mapO_spec h
   refine ⟨h1, fun k d u hd hu => ?_⟩
   obtain ⟨x, r2, g1, g2, g3⟩ := h2 k d hd
   exact deep_R g2 (fun i hi => hl i (hr i (g3 i hi))) (hu x g1)
  have look : ∀ {i : Nat} {cs : List D} {e : TypeId}, i ∈ r -> m i = some (.cells cs e) -> ∃ p, β i = some p /\ RowR P F β w (.cells cs e) p /\ ∀ b, p.blk = some b -> ¬ F b := fun hi hm => hl _ hi _ hm
  have ents : ∀ {es ys : List (Value × D)} {r' : List Nat} {ms : Array MapEntry}, mapO (fun x => (deepF P m n x.2).map fun y => ((x.1, y.1), y.2)) es = some (ys, r') -> (∀ i ∈ r', i ∈ r) -> ms.size = es.length -> (es.map (·.1)).Nodup ->
    (∀ (k : Nat) (x : Value × D) (m : MapEntry), es[k]? = some x -> ms[k]? = some m -> m.key = x.1 /\ R F β w x.2 m.val) ->
    ms.size = ys.length /\ (ys.map (·.1)).Nodup /\ (∀ (k : Nat) (x : Value × D) (m : MapEntry), ys[k]? = some x -> ms[k]? = some m -> m.key = x.1) /\ ∀ (k : Nat) (x : Value × D) (m : MapEntry), ys[k]? = some x -> ms[k]? = some m -> R F noRows w x.2 m.val := fun {es ys r' ms} h hr hsz hnd hh => by
   obtain ⟨h1, h2⟩ := mapO_spec h
   have key : ∀ (k : Nat) (y : Value × D), ys[k]? = some y -> ∃ x r2, es[k]? = some x /\ y.1 = x.1 /\ deepF P m n x.2 = some (y.2, r2) /\ ∀ i ∈ r2, i ∈ r' := fun k y hy => by
    obtain ⟨x, r2, g1, g2, g3⟩ := h2 k y hy
    simp only [Option.map_eq_some_iff, Prod.mk.injEq] at g2
    obtain ⟨z, hz, rfl, rfl⟩ := g2
    exact ⟨x, z.2, g1, rfl, hz, g3⟩
   have keys : ys.map (·.1) = es.map (·.1) := by
    refine List.ext_getElem? fun k => ?_
    simp only [List.getElem?_map]
    cases hy : ys[k]? with
    | some y =>
     obtain ⟨x, _, g1, g2, _⟩ := key k y hy
     simp [g1, g2]
    | none =>
     have : es[k]? = none := by
      rw [List.getElem?_eq_none_iff] at hy ⊢
      omega
     simp [this]
   refine ⟨by rw [h1]; exact hsz, by rw [keys]; exact hnd, fun k y mm hy hmm => ?_, fun k y mm hy hmm => ?_⟩
   ·obtain ⟨x, r2, g1, g2, _⟩ := key k y hy
    rw [g2]; exact (hh k x mm g1 hmm).1
   ·obtain ⟨x, r2, g1, _, g3, g4⟩ := key k y hy
    exact deep_R g3 (fun i hi => hl i (hr i (g4 i hi))) (hh k x mm g1 hmm).2
  cases d with
  | mp i =>
   simp only [deepF] at h
   split at h
   ·rename_i es hm
    simp only [Option.map_eq_some_iff, Prod.mk.injEq] at h
    obtain ⟨x, hx, rfl, rfl⟩ := h
    obtain ⟨p, hp, hrow, hnf⟩ := hl i (List.mem_cons_self ..) _ hm
    cases hv with
    | mpd _ _ h1 _ => rw [h1] at hp; cases hp; exact absurd rfl hrow.live
    | mp _ b h1 =>
     rw [h1] at hp
     cases hp
     cases hrow with
     | map _ _ ms clock g1 g2 g3 g4 =>
      obtain ⟨k1, k2, k3, k4⟩ := ents (ys := x.1) (r' := x.2) hx (fun i hi => List.mem_cons_of_mem _ hi) g2 g3 g4
      exact .im x.1 b ms clock (hnf b rfl) (noRows_free b) g1 k1 k2 k3 k4
   ·cases h
  | im es =>
   simp only [deepF, Option.map_eq_some_iff, Prod.mk.injEq] at h
   obtain ⟨x, hx, rfl, rfl⟩ := h
   cases hv with
   | im _ b ms clock hf hb hc g2 g3 g4 g5 =>
    obtain ⟨k1, k2, k3, k4⟩ := ents (ys := x.1) (r' := x.2) hx (fun _ h => h) g2 g3 (fun k x m hx hm => ⟨g4 k x m hx hm, g5 k x m hx hm⟩)
    exact .im x.1 b ms clock hf (noRows_free b) hc k1 k2 k3 k4
  | rs i off k =>
   simp only [deepF] at h
   split at h
   ·rename_i cs e hm
    simp only [Option.map_eq_some_iff, Prod.mk.injEq] at h
    obtain ⟨x, hx, rfl, rfl⟩ := h
    obtain ⟨p, hp, hrow, hnf⟩ := look (List.mem_cons_self ..) hm
    obtain ⟨g1, g2⟩ := many (ys := x.1) (r' := x.2) hx (fun i hi => List.mem_cons_of_mem _ hi)
    have nil : (cs.drop off).take (k * P.cellsOf e) = [] -> x.1 = [] := fun e => by
     rw [e] at g1
     exact List.eq_nil_of_length_eq_zero (by simpa using g1)
    cases hv with
    | rsd _ _ _ _ h1 _ =>
     rw [h1] at hp
     cases hp
     exact absurd rfl hrow.live
    | rsn _ a h1 =>
     rw [h1] at hp
     cases hp
     cases hrow
     rw [nil (by simp)]
     exact .sln a 0
    | rsz _ _ a b o len room sz h1 =>
     rw [nil (by simp)]
     exact .sln a 0
    | rs _ _ _ cap b o len room sz h1 hn hmax h2 h3 =>
     rw [h1] at hp
     cases hp
     obtain ⟨hrd, hl, hsz, _⟩ := hrow.rd
     obtain ⟨us, u1, u2⟩ := (hrd.drop off).take (k * P.cellsOf e)
     have hlt : b < w.heap.size := by
      cases hrow with
      | cells _ _ _ _ _ _ c hb => exact (Array.getElem?_eq_some_iff.1 hb).1
     exact .sl x.1 k b (o + off) cap us (hnf b rfl) (noRows_free b) hlt hn hmax (fun j hj => u1 j (by rw [<- g1]; exact hj)) fun j d hd => g2 j d _ hd fun d0 hd0 => u2 j d0 hd0
   ·cases h
  | rp i off =>
   simp only [deepF] at h
   split at h
   ·rename_i cs e hm
    simp only [Option.map_eq_some_iff, Prod.mk.injEq] at h
    obtain ⟨x, hx, rfl, rfl⟩ := h
    obtain ⟨p, hp, hrow, hnf⟩ := look (List.mem_cons_self ..) hm
    obtain ⟨g1, g2⟩ := many (ys := x.1) (r' := x.2) hx (fun i hi => List.mem_cons_of_mem _ hi)
    cases hv with
    | rpd _ _ _ h1 _ =>
     rw [h1] at hp
     cases hp
     exact absurd rfl hrow.live
    | rp _ _ b o len room sz h1 =>
     rw [h1] at hp
     cases hp
     obtain ⟨hrd, hl, hsz, _⟩ := hrow.rd
     obtain ⟨us, u1, u2⟩ := hrd.drop off
     have hlt : b < w.heap.size := by
      cases hrow with
      | cells _ _ _ _ _ _ c hb => exact (Array.getElem?_eq_some_iff.1 hb).1
     exact .pt x.1 b (o + off) us (hnf b rfl) (noRows_free b) hlt (fun j hj => u1 j (by rw [<- g1]; exact hj)) fun j d hd => g2 j d _ hd fun d0 hd0 => u2 j d0 hd0
   ·cases h
  | opt c d =>
   cases hv with
   | opt _ _ _ h1 h2 =>
   cases c with
   | true =>
    simp only [deepF, Option.map_eq_some_iff, Prod.mk.injEq] at h
    obtain ⟨x, hx, rfl, rfl⟩ := h
    exact .opt true _ v (fun _ => deep_R (r := x.2) hx hl (h1 rfl)) (by simp)
   | false => simp only [deepF, Option.some.injEq, Prod.mk.injEq] at h; obtain ⟨rfl, _⟩ := h; exact .opt false _ v (by simp) h2
  | agg cs =>
   simp only [deepF, Option.map_eq_some_iff, Prod.mk.injEq] at h
   obtain ⟨x, hx, rfl, rfl⟩ := h
   obtain ⟨vs, rfl, hvl, hh⟩ := hv.agg_inv
   obtain ⟨g1, g2⟩ := many (ys := x.1) (r' := x.2) hx (fun _ h => h)
   exact .agg _ vs (by rw [g1]; exact hvl) fun k d u hd hu => g2 k d u hd fun d0 hd0 => hh k d0 u hd0 hu
  | tup cs =>
   simp only [deepF, Option.map_eq_some_iff, Prod.mk.injEq] at h
   obtain ⟨x, hx, rfl, rfl⟩ := h
   obtain ⟨vs, rfl, hvl, hh⟩ := hv.tup_inv
   obtain ⟨g1, g2⟩ := many (ys := x.1) (r' := x.2) hx (fun _ h => h)
   exact .tup _ vs (by rw [g1]; exact hvl) fun k d u hd hu => g2 k d u hd fun d0 hd0 => hh k d0 u hd0 hu
  | sl cs k =>
   simp only [deepF, Option.map_eq_some_iff, Prod.mk.injEq] at h
   obtain ⟨x, hx, rfl, rfl⟩ := h
   obtain ⟨g1, g2⟩ := many (ys := x.1) (r' := x.2) hx (fun _ h => h)
   cases hv with
   | sln a cap =>
    have : x.1 = [] := List.eq_nil_of_length_eq_zero (by simpa using g1)
    rw [this]; exact .sln a cap
   | sl _ _ b o cap us hf hb hlt hcap hmax hc hh =>
    exact .sl _ k b o cap us hf (noRows_free b) hlt hcap hmax (fun j hj => hc j (by rw [<- g1]; exact hj)) fun j d hd => g2 j d _ hd fun d0 hd0 => hh j d0 hd0
  | pt cs =>
   simp only [deepF, Option.map_eq_some_iff, Prod.mk.injEq] at h
   obtain ⟨x, hx, rfl, rfl⟩ := h
   obtain ⟨g1, g2⟩ := many (ys := x.1) (r' := x.2) hx (fun _ h => h)
   cases hv with
   | pt _ b o us hf hb hlt hc hh =>
    exact .pt _ b o us hf (noRows_free b) hlt (fun j hj => hc j (by rw [<- g1]; exact hj)) fun j d hd => g2 j d _ hd fun d0 hd0 => hh j d0 hd0
  | fn f fs cs =>
   simp only [deepF] at h
   cases hx : mapO (deepF P m n) fs with
   | none => rw [hx] at h; cases h
   | some x =>
    rw [hx] at h
    simp only [Option.map_eq_some_iff, Prod.mk.injEq] at h
    obtain ⟨y, hy, rfl, rfl⟩ := h
    obtain ⟨g1, g2⟩ := many (ys := x.1) (r' := x.2) hx (fun _ h => List.mem_append_left _ h)
    obtain ⟨k1, k2⟩ := many (ys := y.1) (r' := y.2) hy (fun _ h => List.mem_append_right _ h)
    cases hv with
    | fn _ _ _ us vs hul hvl h1 h2 =>
     exact .fn f _ _ us vs (by rw [g1]; exact hul) (by rw [k1]; exact hvl) (fun k d u hd hu => g2 k d u hd fun d0 hd0 => h1 k d0 u hd0 hu) fun k d u hd hu => k2 k d u hd fun d0 hd0 => h2 k d0 u hd0 hu
  | s v => simp only [deepF, Option.some.injEq, Prod.mk.injEq] at h; obtain ⟨rfl, _⟩ := h; obtain ⟨rfl, h⟩ := hv.s_inv; exact .s _ h
  | ub => simp only [deepF, Option.some.injEq, Prod.mk.injEq] at h; obtain ⟨rfl, _⟩ := h; obtain ⟨b, rfl⟩ := hv.ub_inv; exact .ub b
  | u => simp only [deepF, Option.some.injEq, Prod.mk.injEq] at h; obtain ⟨rfl, _⟩ := h; exact .u v
  | z => simp only [deepF, Option.some.injEq, Prod.mk.injEq] at h; obtain ⟨rfl, _⟩ := h; obtain ⟨a, rfl⟩ := hv.z_inv; exact .z a
end
end Go.Abs
end
section
namespace Go.Abs
section
variable (P : Program)
def asksB (env : Env) (o : Op) : Bool := match o with
 | .pick c _ _ => decide (opd env c).ask
 | o => o.operands.toList.all fun x => decide (opd env x).ask
theorem asksB_asks {env : Env} {o : Op} (h : asksB env o = true) : asks env o := by
 unfold asksB at h
 unfold asks
 cases o <;> first | exact of_decide_eq_true h | exact fun x hx => of_decide_eq_true (List.all_eq_true.1 h x hx)
abbrev CallE := FuncId -> List D -> Bool -> T Row -> Nat -> Option (D × T Row × Nat × List Nat × List Nat)
def callOkE (call : CallE) (f : FuncId) (args : List D) (dr : Bool) (o : Oper) (c : CSt) : Option (CSt × List Nat × List Nat) :=
 bif asksB (envF c.env) o.op then match call f args dr c.mem c.nx with
  | some (r, m, nx, rd, wr) => match putT c.env o.dst r with
   | some env => some (⟨env, m, nx⟩, rd, wr)
   | none => none
  | none => none
 else none
def effE (e : EffD) (o : Oper) (c : CSt) : Option (CSt × List Nat × List Nat) :=
 bif asksB (envF c.env) o.op then match e.dec with
  | isTrue _ => match upsE c.mem e.ups with
   | some m => match putT c.env o.dst e.val with
    | some env => some (⟨env, m, c.nx + e.new⟩, e.rd, e.ups.map (·.1))
    | none => none
   | none => none
  | isFalse _ => none
 else none
def skipE (o : Oper) (d : D) (rd : List Nat) (c : CSt) : Option (CSt × List Nat × List Nat) := match putT c.env o.dst d with
 | some env => some (⟨env, c.mem, c.nx⟩, rd, [])
 | none => none
def opE (call : CallE) (ops : Array Oper) (dr : Bool) (o : Oper) (c : CSt) : Option (CSt × List Nat × List Nat) :=
 match o.guard with
 | none => match callD (rho (envF c.env) o.op) o.op with
  | some (f, args) => callOkE call f args dr o c
  | none => match yieldD (rho (envF c.env) o.op) o.op with
   | some _ => none
   | none => match aopB P o.op (rho (envF c.env) o.op) (memF c.mem) c.nx with
    | some e => effE e o c
    | none => none
 | some (j, b) => match ((ops[j]?).bind (·.dst)).bind fun t => guardC (envF c.env t) b with
  | none => none
  | some g => match callD (rho (envF c.env) o.op) o.op with
   | some (f, args) => bif g then callOkE call f args dr o c else skipE o skipD [] c
   | none => match yieldD (rho (envF c.env) o.op) o.op with
    | some _ => bif g then none else skipE o skipD [] c
    | none => match aopB P o.op (rho (envF c.env) o.op) (memF c.mem) c.nx with
     | some e => bif e.ups.isEmpty && Nat.beq e.new 0 then
       bif g then bif asksB (envF c.env) o.op then match e.dec with
        | isTrue _ => skipE o (.opt true e.val) e.rd c
        | isFalse _ => none
       else none
       else skipE o (.opt false e.val) e.rd c
      else bif g then effE e o c else skipE o skipD [] c
     | none => bif g then none else skipE o skipD [] c
def opsE (call : CallE) (ops : Array Oper) (dr : Bool) : List Oper -> CSt -> Tra -> Option (CSt × Tra)
 | [], c, tr => some (c, tr)
 | o :: os, c, tr => match opE P call ops dr o c with
  | some (c', rd, wr) => opsE call ops dr os c' (tr ++ [(rd, wr)])
  | none => none
def apartE (tr : Tra) (i j : Nat) : Bool :=
 let a := tr.getD i ([], [])
 let b := tr.getD j ([], [])
 (a.2.all fun x => !(b.1.any (Nat.beq x)) && !(b.2.any (Nat.beq x))) && b.2.all fun x => !(a.1.any (Nat.beq x))
theorem apartE_T {tr : Tra} {i j : Nat} (h : apartE tr i j = true) : apartT tr i j := by
 unfold apartE at h
 simp only [Bool.and_eq_true, List.all_eq_true, Bool.not_eq_true', List.any_eq_false, Nat.beq_eq] at h
 obtain ⟨h1, h2⟩ := h
 exact ⟨fun x hx => ⟨fun hb => (h1 x hx).1 x hb rfl, fun hb => (h1 x hx).2 x hb rfl⟩, fun x hx ha => h2 x hx x ha rfl⟩
def regionE (call : CallE) (ops : Array Oper) (dr : Bool) (c : CSt) : Option CSt :=
 bif dr then match drawInfo ops with
  | some cf => match opsE P call ops true ops.toList c [] with
   | some (c', tr) => bif cf.all fun q => apartE tr q.1 q.2 then some c' else none
   | none => none
  | none => none
 else match opsE P call ops false ops.toList c [] with
  | some (c', _) => some c'
  | none => none
def CallOk (call : CallE) : Prop := ∀ f args dr m nx r m' nx' rd wr, call f args dr m nx = some (r, m', nx', rd, wr) -> ∀ env (K : D -> Mem -> Nat -> List Nat -> List Nat -> Prop), K r (memF m') nx' rd wr -> CallOp P dr ⟨env, memF m, nx⟩ f args K
end
section
variable {P : Program}
theorem callOkE_op {call : CallE} (hc : CallOk P call) {f : FuncId} {args : List D} {dr : Bool} {o : Oper} {c : CSt} {c' : CSt} {rd wr : List Nat} (h : callOkE call f args dr o c = some (c', rd, wr)) {K : St -> List Nat -> List Nat -> Prop} (hK : K c'.st rd wr) :
  asks c.st.env o.op /\ CallOp P dr c.st f args fun r m nx rd wr => K (St.put ⟨c.st.env, m, nx⟩ o.dst r) rd wr := by
 unfold callOkE at h
 cases ha : asksB (envF c.env) o.op with
 | false => rw [ha] at h; cases h
 | true =>
  rw [ha] at h
  simp only [cond_true] at h
  refine ⟨asksB_asks ha, ?_⟩
  split at h
  ·rename_i r m nx rd' wr' hcall
   split at h
   ·rename_i env henv
    simp only [Option.some.injEq, Prod.mk.injEq] at h
    obtain ⟨rfl, rfl, rfl⟩ := h
    refine hc _ _ _ _ _ _ _ _ _ _ hcall _ _ ?_
    have := putT_st henv (memF m) nx
    simp only [CSt.st] at hK ⊢
    rw [<- this]; exact hK
   ·cases h
  ·cases h
theorem skipE_put {o : Oper} {d : D} {rd rd' wr : List Nat} {c c' : CSt} (h : skipE o d rd c = some (c', rd', wr)) : c'.st = St.put c.st o.dst d /\ rd' = rd /\ wr = [] := by
 unfold skipE at h
 split at h
 ·rename_i env henv
  simp only [Option.some.injEq, Prod.mk.injEq] at h
  obtain ⟨rfl, rfl, rfl⟩ := h
  exact ⟨putT_st henv (memF c.mem) c.nx, rfl, rfl⟩
 ·cases h
theorem effE_eff {e : EffD} {o : Oper} {c c' : CSt} {rd wr : List Nat} (h : effE e o c = some (c', rd, wr)) {K : St -> List Nat -> List Nat -> Prop} (hK : K c'.st rd wr) :
  asks c.st.env o.op /\ e.pre /\ K (St.put ⟨c.st.env, upds c.st.mem e.ups, c.st.nx + e.new⟩ o.dst e.val) e.rd (e.ups.map (·.1)) := by
 unfold effE at h
 cases ha : asksB (envF c.env) o.op with
 | false => rw [ha] at h; cases h
 | true =>
  rw [ha] at h
  simp only [cond_true] at h
  refine ⟨asksB_asks ha, ?_⟩
  split at h
  ·rename_i hp _
   refine ⟨hp, ?_⟩
   split at h
   ·rename_i m hm
    split at h
    ·rename_i env henv
     simp only [Option.some.injEq, Prod.mk.injEq] at h
     obtain ⟨rfl, rfl, rfl⟩ := h
     have := putT_st henv (memF m) (c.nx + e.new)
     simp only [CSt.st] at hK ⊢
     rw [<- upsE_mem hm, <- this]; exact hK
    ·cases h
   ·cases h
  ·cases h
theorem aopB_some {o : Op} {ρ : Operand -> D} {m : Mem} {nx : Nat} {e : EffD} (h : aopB P o ρ m nx = some e) : aop P o ρ m nx = some e.eff := by rw [aopB_eq, h]; rfl
theorem aopB_none {o : Op} {ρ : Operand -> D} {m : Mem} {nx : Nat} (h : aopB P o ρ m nx = none) : aop P o ρ m nx = none := by rw [aopB_eq, h]; rfl
theorem opE_op {call : CallE} (hcall : CallOk P call) {ops : Array Oper} {dr : Bool} {o : Oper} {c c' : CSt} {rd wr : List Nat} (h : opE P call ops dr o c = some (c', rd, wr)) {K : St -> List Nat -> List Nat -> Prop} (hK : K c'.st rd wr) :
  AOp P noY ops dr o c.st K := by
 unfold opE at h
 unfold AOp
 split at h
 ·rename_i hg
  simp only [hg]
  split at h
  ·rename_i f args hc
   obtain ⟨h1, h2⟩ := callOkE_op hcall h hK
   refine ⟨h1, ?_⟩
   simp only [CSt.st] at h2 ⊢
   rw [hc]
   exact h2
  ·rename_i hc
   split at h
   ·cases h
   ·rename_i hy
    split at h
    ·rename_i e he
     obtain ⟨h1, h2, h3⟩ := effE_eff h hK
     refine ⟨h1, ?_⟩
     have := aopB_some he
     simp only [CSt.st] at h2 h3 ⊢
     rw [hc]
     simp only
     rw [hy]
     simp only
     rw [this]
     exact ⟨h2, h3⟩
    ·cases h
 ·rename_i j b hg
  simp only [hg]
  split at h
  ·cases h
  ·rename_i g hgc
   have hgc' : (((ops[j]?).bind (·.dst)).bind fun t => guardC (c.st.env t) b) = some g := hgc
   rw [hgc']
   simp only
   split at h
   ·rename_i f args hc
    have hc' : callD (rho c.st.env o.op) o.op = some (f, args) := hc
    rw [hc']
    simp only
    cases g with
    | true =>
     simp only [cond_true] at h
     exact .inr ⟨fun _ => callOkE_op hcall h hK, by simp⟩
    | false =>
     simp only [cond_false] at h
     obtain ⟨h1, rfl, rfl⟩ := skipE_put h
     exact .inr ⟨by simp, fun _ => h1 ▸ hK⟩
   ·rename_i hc
    have hc' : callD (rho c.st.env o.op) o.op = none := hc
    rw [hc']
    simp only
    split at h
    ·rename_i y hy
     have hy' : yieldD (rho c.st.env o.op) o.op = some y := hy
     rw [hy']
     obtain ⟨l, args⟩ := y
     cases g with
     | true => simp at h
     | false =>
      simp only [cond_false] at h
      obtain ⟨h1, rfl, rfl⟩ := skipE_put h
      exact ⟨by simp, fun _ => h1 ▸ hK⟩
    ·rename_i hy
     have hy' : yieldD (rho c.st.env o.op) o.op = none := hy
     rw [hy']
     simp only
     split at h
     ·rename_i e he
      have he' : aop P o.op (rho c.st.env o.op) c.st.mem c.st.nx = some e.eff := aopB_some he
      rw [he']
      cases hemp : (e.ups.isEmpty && Nat.beq e.new 0) with
      | true =>
       have hb : (e.eff.ups.isEmpty && e.eff.new == 0) = true := by
        have : ∀ a : Nat, (a == 0) = Nat.beq a 0 := fun a => by cases a <;> rfl
        simp only [EffD.eff, this]; exact hemp
       simp only [hb, if_true]
       rw [hemp] at h
       simp only [cond_true] at h
       cases g with
       | true =>
        simp only [cond_true] at h
        cases ha : asksB (envF c.env) o.op with
        | false => rw [ha] at h; cases h
        | true =>
         rw [ha] at h
         simp only [cond_true] at h
         split at h
         ·rename_i hp _
          obtain ⟨h1, rfl, rfl⟩ := skipE_put h
          exact ⟨fun _ => ⟨asksB_asks ha, hp⟩, h1 ▸ hK⟩
         ·cases h
       | false =>
        simp only [cond_false] at h
        obtain ⟨h1, rfl, rfl⟩ := skipE_put h
        exact ⟨by simp, h1 ▸ hK⟩
      | false =>
       have hb : (e.eff.ups.isEmpty && e.eff.new == 0) = false := by
        have : ∀ a : Nat, (a == 0) = Nat.beq a 0 := fun a => by cases a <;> rfl
        simp only [EffD.eff, this]; exact hemp
       simp only [hb, Bool.false_eq_true, if_false]
       rw [hemp] at h
       simp only [cond_false] at h
       cases g with
       | true =>
        simp only [cond_true] at h
        exact ⟨fun _ => effE_eff h hK, by simp⟩
       | false =>
        simp only [cond_false] at h
        obtain ⟨h1, rfl, rfl⟩ := skipE_put h
        exact ⟨by simp, fun _ => h1 ▸ hK⟩
     ·rename_i he
      have he' : aop P o.op (rho c.st.env o.op) c.st.mem c.st.nx = none := aopB_none he
      rw [he']
      simp only
      cases g with
      | true => simp at h
      | false =>
       simp only [cond_false] at h
       obtain ⟨h1, rfl, rfl⟩ := skipE_put h
       exact ⟨rfl, h1 ▸ hK⟩
theorem opsE_ops {call : CallE} (hcall : CallOk P call) {ops : Array Oper} {dr : Bool} {cf : List (Nat × Nat)} {Q : Exit -> St -> Prop} : ∀ (os : List Oper) (c c' : CSt) (tr tr' : Tra), opsE P call ops dr os c tr = some (c', tr') -> (∀ q ∈ cf, apartT tr' q.1 q.2) -> Q .normal c'.st ->
  AOps P noY ops dr cf Q os c.st tr
 | [], c, c', tr, tr', h, hcf, hQ => by
  simp only [opsE, Option.some.injEq, Prod.mk.injEq] at h
  obtain ⟨rfl, rfl⟩ := h
  exact ⟨hcf, hQ⟩
 | o :: os, c, c', tr, tr', h, hcf, hQ => by
  simp only [opsE] at h
  split at h
  ·rename_i c1 rd wr h1
   exact opE_op hcall h1 (opsE_ops hcall os c1 c' _ tr' h hcf hQ)
  ·cases h
theorem regionE_aw {call : CallE} (hcall : CallOk P call) {ops : Array Oper} {dr : Bool} {c c' : CSt} (h : regionE P call ops dr c = some c') {id : Nat} {rf : Bool} {Q : Exit -> St -> Prop} (hQ : Q .normal c'.st) : AW P noY rf (.region id ops dr) Q c.st := by
 unfold regionE at h
 cases dr with
 | true =>
  simp only [cond_true] at h
  split at h
  ·rename_i cf hcf
   split at h
   ·rename_i c1 tr h1
    cases hall : cf.all fun q => apartE tr q.1 q.2 with
    | false => rw [hall] at h; cases h
    | true =>
     rw [hall] at h
     simp only [cond_true, Option.some.injEq] at h
     subst h
     show match drawInfo ops with
      | some cf => AOps P noY ops true cf Q ops.toList c.st []
      | none => False
     rw [hcf]
     exact opsE_ops hcall _ _ _ _ _ h1 (fun q hq => apartE_T (List.all_eq_true.1 hall q hq)) hQ
   ·cases h
  ·cases h
 | false =>
  simp only [cond_false] at h
  split at h
  ·rename_i c1 tr h1
   simp only [Option.some.injEq] at h
   subst h
   exact opsE_ops (cf := []) hcall _ _ _ _ _ h1 (by simp) hQ
  ·cases h
end
end Go.Abs
end
section
namespace Go.Abs
structure Ctx where
 tab : FuncId -> Option (Func × Code)
 iter : FuncId -> List D -> List D -> Option (List (List D))
 known : FuncId -> List D -> Option D
structure Ctx.Ok (P : Program) (x : Ctx) : Prop where
 mix : P.follows .mixedOrders = true
 tab : ∀ f fn c, x.tab f = some (fn, c) -> FnOk P f fn c
 iter : ∀ f fs cs xs, x.iter f fs cs = some xs -> SeqA P f fs cs xs /\ ∀ y ∈ xs, ∀ d ∈ y, Tr d
 known : ∀ f args r, x.known f args = some r -> PCall P f args r
def ofArgs : Nat -> List D -> T D -> Option (T D)
 | _, [], t => some t
 | k, d :: ds, t => match t.put k (some d) with
  | some t' => ofArgs (k + 1) ds t'
  | none => none
theorem ofArgs_get : ∀ {ds : List D} {k : Nat} {t t' : T D}, ofArgs k ds t = some t' -> ∀ j, envF t' j = if k <= j /\ j < k + ds.length then ds.getD (j - k) .u else envF t j
 | [], k, t, t', h, j => by
  simp only [ofArgs, Option.some.injEq] at h
  subst h
  rw [if_neg (by simp)]
 | d :: ds, k, t, t', h, j => by
  simp only [ofArgs] at h
  split at h
  ·rename_i t1 h1
   rw [ofArgs_get h j, envF_put h1]
   by_cases hj : j = k
   ·subst hj
    rw [if_neg oG, up_same, if_pos (by simp)]
    simp
   ·rw [up_ne _ _ hj]
    by_cases hlt : k + 1 <= j /\ j < k + 1 + ds.length
    ·rw [if_pos hlt, if_pos (by simp; omega)]
     have : j - k = (j - (k + 1)) + 1 := by omega
     rw [this]
     simp
    ·rw [if_neg hlt, if_neg (by simp; omega)]
  ·cases h
theorem ofArgs_env {args : List D} {t : T D} (h : ofArgs 0 args .leaf = some t) : envF t = envOf args := by
 funext j
 rw [ofArgs_get h j]
 unfold envOf
 split
 ·simp
 ·rename_i hj
  have : args.length <= j := by omega
  simp [envF, T.get, this]
def setAllE : T D -> List Tmp -> List D -> Option (T D)
 | t, p :: ps, d :: ds => match t.put p (some d) with
  | some t' => setAllE t' ps ds
  | none => none
 | t, _, _ => some t
theorem setAllE_env : ∀ {ps : List Tmp} {ds : List D} {t t' : T D}, setAllE t ps ds = some t' -> envF t' = setAll (envF t) ps ds
 | [], ds, t, t', h => by simp only [setAllE, Option.some.injEq] at h; subst h; rfl
 | _ :: _, [], t, t', h => by simp only [setAllE, Option.some.injEq] at h; subst h; rfl
 | p :: ps, d :: ds, t, t', h => by
  simp only [setAllE] at h
  split at h
  ·rename_i t1 h1
   rw [setAllE_env h, envF_put h1]
   rfl
  ·cases h
section
variable (P : Program)
def resE (c : CSt) : ResultVar -> Option D
 | .tmp t => some (envF c.env t)
 | .cell a t => match envF c.env a with
  | .rp i off => match c.mem.get i with
   | some (.cells cs _) => bif tyOk P t && Nat.ble (off + P.cellsOf t) cs.length then some (takeV P t (cs.drop off)) else none
   | _ => none
  | .pt cs => bif tyOk P t && Nat.ble (P.cellsOf t) cs.length then some (takeV P t cs) else none
  | _ => none
def retE (c : CSt) : List ResultVar -> Option (List D)
 | [] => some []
 | r :: rs => match resE P c r with
  | some d => match retE c rs with
   | some ds => some (d :: ds)
   | none => none
  | none => none
def runE (x : Ctx) (ev : Bool -> Code -> CSt -> Option (Exit × CSt)) (f : FuncId) (args : List D) (m : T Row) (nx : Nat) : Option (D × T Row × Nat) :=
 match x.tab f with
 | none => none
 | some (fn, c) => bif Nat.ble args.length fn.ntmps then
   match ofArgs 0 args .leaf with
   | none => none
   | some t => match ev true c ⟨t, m, nx⟩ with
    | some (.normal, s) => match retE P s fn.results.toList with
     | some ds => some (one1 ds, s.mem, s.nx)
     | none => none
    | some (.ret, s) => match retE P s fn.results.toList with
     | some ds => some (one1 ds, s.mem, s.nx)
     | none => none
    | _ => none
  else none
def depth : Nat := 12
def pureE (x : Ctx) (ev : Bool -> Code -> CSt -> Option (Exit × CSt)) (f : FuncId) (args : List D) : Option (D ⊕ (List D × Nat × TypeId)) :=
 match runE P x ev f args .leaf 0 with
 | none => none
 | some (d, m, _) => match d with
  | .rs i 0 k => match m.get i with
   | some (.cells es t) => bif es.all (trB depth) then some (.inr (es, k, t)) else match deepF P (memF m) depth (.rs i 0 k) with
    | some (r, _) => some (.inl r)
    | none => none
   | _ => none
  | d => match deepF P (memF m) depth d with
   | some (r, _) => some (.inl r)
   | none => none
def callE (x : Ctx) (ev : Bool -> Code -> CSt -> Option (Exit × CSt)) : CallE := fun f args dr m nx =>
 match x.known f args with
 | some r => some (r, m, nx, [], [])
 | none => bif args.all (trB depth) then match pureE P x ev f args with
   | some (.inl r) => some (r, m, nx, [], [])
   | some (.inr (es, k, t)) => match m.put nx (some (.cells es t)) with
    | some m' => some (.rs nx 0 k, m', nx + 1, [], [nx])
    | none => none
   | none => none
  else bif dr then match mapO (deepF P (memF m) depth) args with
   | none => none
   | some (args', rds) => match x.known f args' with
    | some r => bif r.scal then some (r, m, nx, rds, []) else none
    | none => match pureE P x ev f args' with
     | some (.inl r) => bif r.scal then some (r, m, nx, rds, []) else none
     | _ => none
  else match runE P x ev f args m nx with
   | some (d, m', nx') => some (d, m', nx', [], [])
   | none => none
def roundsE (ev : Bool -> Code -> CSt -> Option (Exit × CSt)) (env : T D) (ps : List Tmp) (assign body : Code) : List (List D) -> T Row -> Nat -> Option (Exit × T Row × Nat)
 | [], m, nx => some (.normal, m, nx)
 | y :: ys, m, nx => match setAllE env ps y with
  | none => none
  | some t => match ev false assign ⟨t, m, nx⟩ with
   | some (.normal, s) => match ev false body s with
    | some (.normal, s') => roundsE ev env ps assign body ys s'.mem s'.nx
    | some (.ret, s') => some (.ret, s'.mem, s'.nx)
    | some (.exit i, s') => some (.exit i, s'.mem, s'.nx)
    | _ => none
   | _ => none
def evStep (x : Ctx) (ev : Bool -> Code -> CSt -> Option (Exit × CSt)) (rf : Bool) (c : Code) (s : CSt) : Option (Exit × CSt) := match c with
 | .skip => some (.normal, s)
 | .region _ ops dr => match regionE P (callE P x ev) ops dr s with
  | some s' => some (.normal, s')
  | none => none
 | .seq a b => match ev rf a s with
  | some (.normal, s') => ev rf b s'
  | r => r
 | .cond c a b => bif decide (opd (envF s.env) c).ask then match (opd (envF s.env) c).core with
   | .s (.bool t) => bif t then ev rf a s else ev rf b s
   | _ => none
  else none
 | .block id b => match ev rf b s with
  | some (.exit i, s') => bif Nat.beq i id then some (.normal, s') else some (.exit i, s')
  | r => r
 | .scope b => match ev rf b s with
  | some (.goto _, _) => none
  | r => r
 | .loop b => match ev rf b s with
  | some (.normal, s') => ev rf (.loop b) s'
  | r => r
 | .rangeFunc g ps assign body => bif rf && decide (opd (envF s.env) g).ask then match (opd (envF s.env) g).core with
   | .fn (.func f) fs cs => match x.iter f fs cs with
    | some ys => bif ys.all fun y => Nat.beq y.length ps.size then match roundsE ev s.env ps.toList assign body ys s.mem s.nx with
      | some (e, m, nx) => some (e, ⟨s.env, m, nx⟩)
      | none => none
     else none
    | none => none
   | _ => none
  else none
 | .exit id => some (.exit id, s)
 | .label _ => some (.normal, s)
 | .ret => some (.ret, s)
 | _ => none
def evC (x : Ctx) : Nat -> Bool -> Code -> CSt -> Option (Exit × CSt)
 | 0 => fun _ _ _ => none
 | n + 1 => evStep P x (evC x n)
end
section
variable {P : Program} {x : Ctx}
theorem retE_L {c : CSt} {K : List D -> Prop} : ∀ {rs : List ResultVar} {ds acc : List D}, retE P c rs = some ds -> K (acc ++ ds) -> retL P c.st rs acc K
 | [], ds, acc, h, hK => by
  simp only [retE, Option.some.injEq] at h
  subst h
  simpa [retL] using hK
 | r :: rs, ds, acc, h, hK => by
  simp only [retE] at h
  split at h
  ·rename_i d hd
   split at h
   ·rename_i ds' hds
    simp only [Option.some.injEq] at h
    subst h
    have hres : ∃ p, resD P c.st r = some (p, d) /\ p := by
     cases r with
     | tmp t =>
      simp only [resE, Option.some.injEq] at hd
      exact ⟨True, by simp only [resD, CSt.st, hd], trivial⟩
     | cell a t =>
      simp only [resE] at hd
      simp only [resD, CSt.st]
      split at hd
      ·rename_i i off ha
       rw [ha]
       simp only
       split at hd
       ·rename_i cs e hm
        have hm' : memF c.mem i = some (.cells cs e) := hm
        rw [hm']
        simp only
        cases hb : (tyOk P t && Nat.ble (off + P.cellsOf t) cs.length) with
        | false => rw [hb] at hd; cases hd
        | true =>
         rw [hb] at hd
         simp only [cond_true, Option.some.injEq] at hd
         simp only [Bool.and_eq_true, Nat.ble_eq] at hb
         exact ⟨_, by rw [hd], hb⟩
       ·cases hd
      ·rename_i cs ha
       rw [ha]
       simp only
       cases hb : (tyOk P t && Nat.ble (P.cellsOf t) cs.length) with
       | false => rw [hb] at hd; cases hd
       | true =>
        rw [hb] at hd
        simp only [cond_true, Option.some.injEq] at hd
        simp only [Bool.and_eq_true, Nat.ble_eq] at hb
        exact ⟨_, by rw [hd], hb⟩
      ·cases hd
    obtain ⟨p, h1, h2⟩ := hres
    simp only [retL, h1]
    exact ⟨h2, retE_L hds (by simpa using hK)⟩
   ·cases h
  ·cases h
def EvOk (P : Program) (ev : Bool -> Code -> CSt -> Option (Exit × CSt)) : Prop := ∀ rf c s e s', ev rf c s = some (e, s') -> ∀ Q : Exit -> St -> Prop, Q e s'.st -> AW P noY rf c Q s.st
theorem runE_aw (hx : x.Ok P) {ev : Bool -> Code -> CSt -> Option (Exit × CSt)} (hev : EvOk P ev) {f : FuncId} {args : List D} {m m' : T Row} {nx nx' : Nat} {d : D} (h : runE P x ev f args m nx = some (d, m', nx')) :
  ∃ fn c, FnOk P f fn c /\ Nat.ble args.length fn.ntmps = true /\ ∀ K : D -> St -> Prop, (∀ env, K d ⟨env, memF m', nx'⟩) -> AW P noY true c (retQ P fn.results.toList K) ⟨envOf args, memF m, nx⟩ := by
 unfold runE at h
 split at h
 ·cases h
 ·rename_i fn c htab
  cases hb : Nat.ble args.length fn.ntmps with
  | false => rw [hb] at h; cases h
  | true =>
   rw [hb] at h
   simp only [cond_true] at h
   split at h
   ·cases h
   ·rename_i t ht
    refine ⟨fn, c, hx.tab f fn c htab, hb, fun K hK => ?_⟩
    rw [<- ofArgs_env ht]
    split at h
    ·rename_i s hs
     split at h
     ·rename_i ds hds
      simp only [Option.some.injEq, Prod.mk.injEq] at h
      obtain ⟨rfl, rfl, rfl⟩ := h
      exact hev _ _ _ _ _ hs _ (retE_L (K := fun ds => K (one1 ds) s.st) hds (hK _))
     ·cases h
    ·rename_i s hs
     split at h
     ·rename_i ds hds
      simp only [Option.some.injEq, Prod.mk.injEq] at h
      obtain ⟨rfl, rfl, rfl⟩ := h
      exact hev _ _ _ _ _ hs _ (retE_L (K := fun ds => K (one1 ds) s.st) hds (hK _))
     ·cases h
    ·cases h
theorem memF_leaf : memF .leaf = fun _ => none := rfl
theorem pcall_deep (hmix : P.follows .mixedOrders = true) {fn : Func} {f : FuncId} {c : Code} (hf : FnOk P f fn c) {args : List D} (hn : Nat.ble args.length fn.ntmps = true) (ht : ∀ a ∈ args, Tr a) {d r : D} {m : Mem} {n : Nat} {rds : List Nat} (hd : deepF P m n d = some (r, rds))
  (h : AW P noY true c (retQ P fn.results.toList fun d' st => d' = d /\ st.mem = m) ⟨envOf args, fun _ => none, 0⟩) : PCall P f args r :=
 ⟨hf.he, ht, fun F w vs hF hR => (calls_aw hmix hf.hf hf.hb hf.hlt hn h (fun _ _ _ _ _ h => h.elim) (msim_none hF) (fun _ _ => rfl) hR).mono fun e w' hp => by
  obtain ⟨v, d', st', β', h1, ⟨rfl, rfl⟩, h3, h4, h5, h6, h7, h8⟩ := hp
  exact ⟨v, h1, deep_R hd (fun i _ r hr => by
   obtain ⟨p, hp, hrow⟩ := h4.row i r hr
   exact ⟨p, hp, hrow, fun b hb => h4.nf i p b hp hb⟩) h3, kept_of_step h6⟩⟩
theorem pureE_call (hx : x.Ok P) {ev : Bool -> Code -> CSt -> Option (Exit × CSt)} (hev : EvOk P ev) {f : FuncId} {args : List D} (ht : ∀ a ∈ args, Tr a) :
  (∀ r, pureE P x ev f args = some (.inl r) -> PCall P f args r) /\ ∀ es k t, pureE P x ev f args = some (.inr (es, k, t)) -> OCall P f args es k t := by
 unfold pureE
 cases hrun : runE P x ev f args .leaf 0 with
 | none => exact ⟨fun r h => (by cases h), fun es k t h => (by cases h)⟩
 | some q =>
  obtain ⟨d, m, nx⟩ := q
  obtain ⟨fn, c, hf, hn, haw⟩ := runE_aw hx hev hrun
  have deep : ∀ d r rds, d = d -> deepF P (memF m) depth d = some (r, rds) -> (∀ K : D -> St -> Prop, (∀ env, K d ⟨env, memF m, nx⟩) -> AW P noY true c (retQ P fn.results.toList K) ⟨envOf args, memF .leaf, 0⟩) -> PCall P f args r := fun d r rds _ hd haw =>
   pcall_deep hx.mix hf hn ht hd (haw _ fun env => ⟨rfl, rfl⟩)
  simp only
  split
  ·rename_i i k
   split
   ·rename_i es t hm
    cases hall : es.all (trB depth) with
    | true =>
     simp only [cond_true]
     refine ⟨fun r h => (by simp at h), fun es' k' t' h => ?_⟩
     simp only [Option.some.injEq, Sum.inr.injEq, Prod.mk.injEq] at h
     obtain ⟨rfl, rfl, rfl⟩ := h
     exact ocall_of hx.mix hf hn ht (fun a ha => trB_Tr (List.all_eq_true.1 hall a ha)) (haw _ fun env => ⟨i, rfl, hm⟩)
    | false =>
     simp only [cond_false]
     split
     ·rename_i r rds hd
      exact ⟨fun r' h => (by simp only [Option.some.injEq, Sum.inl.injEq] at h; subst h; exact deep _ _ _ rfl hd haw), fun es k t h => (by simp at h)⟩
     ·exact ⟨fun r h => (by cases h), fun es k t h => (by cases h)⟩
   ·exact ⟨fun r h => (by cases h), fun es k t h => (by cases h)⟩
  ·split
   ·rename_i r rds hd
    exact ⟨fun r' h => (by simp only [Option.some.injEq, Sum.inl.injEq] at h; subst h; exact deep _ _ _ rfl hd haw), fun es k t h => (by simp at h)⟩
   ·exact ⟨fun r h => (by cases h), fun es k t h => (by cases h)⟩
theorem sns_of_mapO {m : Mem} {n : Nat} {rds : List Nat} : ∀ {aS bs : List D} {r : List Nat}, mapO (deepF P m n) aS = some (bs, r) -> (∀ i ∈ r, i ∈ rds) -> Sns P rds m aS bs
 | [], bs, r, h, _ => by
  simp only [mapO, Option.some.injEq, Prod.mk.injEq] at h
  obtain ⟨rfl, _⟩ := h
  trivial
 | a :: aS, bs, r, h, hr => by
  simp only [mapO] at h
  split at h
  ·cases h
  ·rename_i y hy
   split at h
   ·cases h
   ·rename_i ys hys
    simp only [Option.some.injEq, Prod.mk.injEq] at h
    obtain ⟨rfl, rfl⟩ := h
    exact ⟨fun F β w v hl hv => deep_R (r := y.2) hy (fun i hi => hl i (hr i (List.mem_append_left _ hi))) hv, sns_of_mapO (r := ys.2) hys fun i hi => hr i (List.mem_append_right _ hi)⟩
theorem callE_ok (hx : x.Ok P) {ev : Bool -> Code -> CSt -> Option (Exit × CSt)} (hev : EvOk P ev) : CallOk P (callE P x ev) := by
 intro f args dr m nx r m' nx' rd wr h env K hK
 unfold callE at h
 split at h
 ·rename_i r' hk
  simp only [Option.some.injEq, Prod.mk.injEq] at h
  obtain ⟨rfl, rfl, rfl, rfl, rfl⟩ := h
  exact .inl ⟨_, hx.known _ _ _ hk, hK⟩
 ·cases hall : args.all (trB depth) with
  | true =>
   rw [hall] at h
   simp only [cond_true] at h
   obtain ⟨h1, h2⟩ := pureE_call hx hev (f := f) (args := args) fun a ha => trB_Tr (List.all_eq_true.1 hall a ha)
   split at h
   ·rename_i r' hp
    simp only [Option.some.injEq, Prod.mk.injEq] at h
    obtain ⟨rfl, rfl, rfl, rfl, rfl⟩ := h
    exact .inl ⟨_, h1 _ hp, hK⟩
   ·rename_i es k t hp
    split at h
    ·rename_i m1 hm
     simp only [Option.some.injEq, Prod.mk.injEq] at h
     obtain ⟨rfl, rfl, rfl, rfl, rfl⟩ := h
     rw [memF_put hm] at hK
     exact .inr (.inr (.inl ⟨es, k, t, h2 _ _ _ hp, hK⟩))
    ·cases h
   ·cases h
  | false =>
   rw [hall] at h
   simp only [cond_false] at h
   cases dr with
   | true =>
    simp only [cond_true] at h
    split at h
    ·cases h
    ·rename_i args' rds hdeep
     have htr : ∀ a ∈ args', Tr a := mapO_all hdeep fun x y r' h => deep_Tr h
     have hsn : Sns P rds (memF m) args args' := sns_of_mapO hdeep fun _ h => h
     split at h
     ·rename_i r' hk
      cases hs : r'.scal with
      | false => rw [hs] at h; cases h
      | true =>
       rw [hs] at h
       simp only [cond_true, Option.some.injEq, Prod.mk.injEq] at h
       obtain ⟨rfl, rfl, rfl, rfl, rfl⟩ := h
       exact .inr (.inl ⟨args', _, _, hsn, hx.known _ _ _ hk, hs, hK⟩)
     ·split at h
      ·rename_i r' hp
       cases hs : r'.scal with
       | false => rw [hs] at h; cases h
       | true =>
        rw [hs] at h
        simp only [cond_true, Option.some.injEq, Prod.mk.injEq] at h
        obtain ⟨rfl, rfl, rfl, rfl, rfl⟩ := h
        exact .inr (.inl ⟨args', _, _, hsn, (pureE_call hx hev htr).1 _ hp, hs, hK⟩)
      ·cases h
   | false =>
    simp only [cond_false] at h
    split at h
    ·rename_i d m1 nx1 hrun
     simp only [Option.some.injEq, Prod.mk.injEq] at h
     obtain ⟨rfl, rfl, rfl, rfl, rfl⟩ := h
     obtain ⟨fn, c, hf, hn, haw⟩ := runE_aw hx hev hrun
     exact .inr (.inr (.inr (.inl ⟨rfl, acall_of hx.mix hf hn (haw (fun d st => K d st.mem st.nx [] []) fun env => hK)⟩)))
    ·cases h
theorem roundsE_aw {ev : Bool -> Code -> CSt -> Option (Exit × CSt)} (hev : EvOk P ev) {env : T D} {ps : List Tmp} {assign body : Code} {Q : Exit -> St -> Prop} : ∀ {ys : List (List D)} {m m' : T Row} {nx nx' : Nat} {e : Exit}, roundsE ev env ps assign body ys m nx = some (e, m', nx') ->
  Q e ⟨envF env, memF m', nx'⟩ -> ∃ I : Nat -> Mem -> Nat -> Prop, I 0 (memF m) nx /\
   (∀ k m nx y, ys[k]? = some y -> I k m nx -> AW P noY false assign (assignQ fun s => AW P noY false body (roundQ (envF env) (I (k + 1)) Q) s) ⟨setAll (envF env) ps y, m, nx⟩) /\
   ∀ m nx, I ys.length m nx -> Q .normal ⟨envF env, m, nx⟩
 | [], m, m', nx, nx', e, h, hQ => by
  simp only [roundsE, Option.some.injEq, Prod.mk.injEq] at h
  obtain ⟨rfl, rfl, rfl⟩ := h
  exact ⟨fun _ a b => a = memF m /\ b = nx, ⟨rfl, rfl⟩, fun k _ _ y hy => by simp at hy, fun a b h => by obtain ⟨rfl, rfl⟩ := h; exact hQ⟩
 | y :: ys, m, m', nx, nx', e, h, hQ => by
  simp only [roundsE] at h
  split at h
  ·cases h
  ·rename_i t ht
   have henv := setAllE_env ht
   split at h
   ·rename_i s hs
    have done : ∀ (I : Nat -> Mem -> Nat -> Prop), AW P noY false body (roundQ (envF env) (I 0) Q) s.st ->
      (∀ k m nx y, ys[k]? = some y -> I k m nx -> AW P noY false assign (assignQ fun s => AW P noY false body (roundQ (envF env) (I (k + 1)) Q) s) ⟨setAll (envF env) ps y, m, nx⟩) ->
      (∀ m nx, I ys.length m nx -> Q .normal ⟨envF env, m, nx⟩) ->
      ∃ I : Nat -> Mem -> Nat -> Prop, I 0 (memF m) nx /\
       (∀ k m nx z, (y :: ys)[k]? = some z -> I k m nx -> AW P noY false assign (assignQ fun s => AW P noY false body (roundQ (envF env) (I (k + 1)) Q) s) ⟨setAll (envF env) ps z, m, nx⟩) /\
       ∀ m nx, I (y :: ys).length m nx -> Q .normal ⟨envF env, m, nx⟩ := fun I h1 h2 h3 => by
     refine ⟨fun k a b => match k with | 0 => a = memF m /\ b = nx | k + 1 => I k a b, ⟨rfl, rfl⟩, fun k a b z hz hI => ?_, fun a b hI => h3 a b hI⟩
     cases k with
     | zero =>
      obtain ⟨rfl, rfl⟩ := hI
      simp only [List.getElem?_cons_zero, Option.some.injEq] at hz
      subst hz
      rw [<- henv]
      exact hev _ _ _ _ _ hs _ h1
     | succ k => exact h2 k a b z (by simpa using hz) hI
    split at h
    ·rename_i s' hs'
     obtain ⟨I, g1, g2, g3⟩ := roundsE_aw hev h hQ
     exact done I (hev _ _ _ _ _ hs' _ g1) g2 g3
    ·rename_i s' hs'
     simp only [Option.some.injEq, Prod.mk.injEq] at h
     obtain ⟨rfl, rfl, rfl⟩ := h
     exact done (fun _ _ _ => False) (hev _ _ _ _ _ hs' _ hQ) (fun _ _ _ _ _ h => h.elim) fun _ _ h => h.elim
    ·rename_i i s' hs'
     simp only [Option.some.injEq, Prod.mk.injEq] at h
     obtain ⟨rfl, rfl, rfl⟩ := h
     exact done (fun _ _ _ => False) (hev _ _ _ _ _ hs' _ hQ) (fun _ _ _ _ _ h => h.elim) fun _ _ h => h.elim
    ·cases h
   ·cases h
theorem evC_ok (hx : x.Ok P) : ∀ n, EvOk P (evC P x n) := by
 intro n
 induction n using Nat.strongRecOn with
 | _ n ih =>
  cases n with
  | zero => intro rf c s e s' h; cases h
  | succ n =>
   have ihn := ih n (Nat.lt_succ_self n)
   intro rf c s e s' h Q hQ
   simp only [evC] at h
   cases c with
   | skip =>
    simp only [evStep, Option.some.injEq, Prod.mk.injEq] at h
    obtain ⟨rfl, rfl⟩ := h
    exact hQ
   | ret =>
    simp only [evStep, Option.some.injEq, Prod.mk.injEq] at h
    obtain ⟨rfl, rfl⟩ := h
    exact hQ
   | label l =>
    simp only [evStep, Option.some.injEq, Prod.mk.injEq] at h
    obtain ⟨rfl, rfl⟩ := h
    exact hQ
   | exit id =>
    simp only [evStep, Option.some.injEq, Prod.mk.injEq] at h
    obtain ⟨rfl, rfl⟩ := h
    exact hQ
   | region id ops dr =>
    simp only [evStep] at h
    split at h
    ·rename_i s1 h1
     simp only [Option.some.injEq, Prod.mk.injEq] at h
     obtain ⟨rfl, rfl⟩ := h
     exact regionE_aw (callE_ok hx ihn) h1 hQ
    ·cases h
   | seq a b =>
    simp only [evStep] at h
    split at h
    ·rename_i s1 h1
     exact ihn _ _ _ _ _ h1 _ ⟨_, .refl _, ihn _ _ _ _ _ h _ hQ⟩
    ·rename_i hne
     refine ihn _ _ _ _ _ h _ ?_
     cases e with
     | normal => exact absurd h (hne s')
     | _ => exact hQ
   | cond c a b =>
    simp only [evStep] at h
    cases hask : decide (opd (envF s.env) c).ask with
    | false => rw [hask] at h; cases h
    | true =>
     rw [hask] at h
     simp only [cond_true] at h
     refine ⟨of_decide_eq_true hask, ?_⟩
     split at h
     ·rename_i t ht
      have ht' : (opd s.st.env c).core = .s (.bool t) := ht
      rw [ht']
      cases t with
      | true => exact ⟨fun _ => ihn _ _ _ _ _ h _ hQ, fun h => by cases h⟩
      | false => exact ⟨fun h => (by cases h), fun _ => ihn _ _ _ _ _ h _ hQ⟩
     ·cases h
   | block id b =>
    simp only [evStep] at h
    split at h
    ·rename_i i s1 h1
     refine ihn _ _ _ _ _ h1 (blockQ id Q) ?_
     simp only [blockQ]
     cases hb : Nat.beq i id with
     | true =>
      rw [hb] at h
      simp only [cond_true, Option.some.injEq, Prod.mk.injEq] at h
      obtain ⟨rfl, rfl⟩ := h
      rw [if_pos (Nat.eq_of_beq_eq_true hb)]; exact hQ
     | false =>
      rw [hb] at h
      simp only [cond_false, Option.some.injEq, Prod.mk.injEq] at h
      obtain ⟨rfl, rfl⟩ := h
      rw [if_neg (Nat.ne_of_beq_eq_false hb)]; exact hQ
    ·rename_i hne
     refine ihn _ _ _ _ _ h (blockQ id Q) ?_
     cases e with
     | exit i => exact absurd h (hne i s')
     | _ => exact hQ
   | scope b =>
    simp only [evStep] at h
    split at h
    ·cases h
    ·rename_i hne
     refine ihn _ _ _ _ _ h (scopeQ Q) ?_
     cases e with
     | goto l => exact absurd h (hne l s')
     | _ => exact hQ
   | loop b =>
    refine AW_while (fun j st => j <= n + 1 /\ ∃ s, st = s.st /\ evC P x j rf (.loop b) s = some (e, s')) (j₀ := n + 1) ⟨Nat.le_refl _, s, rfl, h⟩ ?_
    rintro j st ⟨hj, s, rfl, hs⟩
    cases j with
    | zero => cases hs
    | succ j =>
     have ihj := ih j oG
     simp only [evC, evStep] at hs
     split at hs
     ·rename_i s1 h1
      exact ihj _ _ _ _ _ h1 _ ⟨_, .refl _, j, Nat.lt_succ_self j, by omega, s1, rfl, hs⟩
     ·rename_i hne
      refine ihj _ _ _ _ _ hs _ ?_
      cases e with
      | normal => exact absurd hs (hne s')
      | _ => exact hQ
   | rangeFunc g ps assign body =>
    simp only [evStep] at h
    cases hask : (rf && decide (opd (envF s.env) g).ask) with
    | false => rw [hask] at h; cases h
    | true =>
     rw [hask] at h
     simp only [cond_true] at h
     simp only [Bool.and_eq_true] at hask
     split at h
     ·rename_i f fs cs hcore
      split at h
      ·rename_i ys hys
       cases hall : ys.all fun y => Nat.beq y.length ps.size with
       | false => rw [hall] at h; cases h
       | true =>
        rw [hall] at h
        simp only [cond_true] at h
        split at h
        ·rename_i e1 m nx hr
         simp only [Option.some.injEq, Prod.mk.injEq] at h
         obtain ⟨rfl, rfl⟩ := h
         obtain ⟨I, g1, g2, g3⟩ := roundsE_aw ihn hr hQ
         obtain ⟨k1, k2⟩ := hx.iter _ _ _ _ hys
         exact ⟨hask.1, of_decide_eq_true hask.2, f, fs, cs, ys, I, hcore, k1, fun y hy => ⟨Nat.eq_of_beq_eq_true (List.all_eq_true.1 hall y hy), k2 y hy⟩, g1, g2, g3⟩
        ·cases h
      ·cases h
     ·cases h
   | _ => cases h
theorem pcall_ev (hx : x.Ok P) (n : Nat) {f : FuncId} {args : List D} {r : D} (ht : args.all (trB depth) = true) (h : pureE P x (evC P x n) f args = some (.inl r)) : PCall P f args r :=
 (pureE_call hx (evC_ok hx n) fun a ha => trB_Tr (List.all_eq_true.1 ht a ha)).1 r h
end
end Go.Abs
end
section
namespace Go.Abs
def envL : List (Nat × D) -> Env
 | [], _ => .u
 | (t, d) :: l, j => if j = t then d else envL l j
def EnvHas : List (Nat × D) -> Env -> Prop
 | [], _ => True
 | (t, d) :: l, env => env t = d /\ EnvHas l env
theorem envL_of : ∀ {l : List (Nat × D)} {env : Env}, EnvHas l env -> ∀ t, envL l t = env t \/ envL l t = .u
 | [], _, _, _ => .inr rfl
 | (k, d) :: l, env, h, t => by
  simp only [envL]
  by_cases ht : t = k
  ·subst ht; rw [if_pos rfl]; exact .inl h.1.symm
  ·rw [if_neg ht]; exact envL_of h.2 t
def AskL (env : Env) : List Operand -> Prop
 | [] => True
 | x :: xs => (opd env x).ask /\ AskL env xs
theorem askL_all {env : Env} : ∀ {l : List Operand}, AskL env l -> ∀ x ∈ l, (opd env x).ask
 | [], _, x, h => by cases h
 | y :: l, h, x, hx => by
  cases hx with
  | head => exact h.1
  | tail _ hx => exact askL_all h.2 x hx
theorem askL_asks {env : Env} {o : Op} (h : AskL env o.operands.toList) : asks env o := by
 have := askL_all h
 unfold asks
 cases o <;> first | exact this | exact this _ (by simp [Op.operands])
section
variable {P : Program} {Y : YSpec} {rf : Bool}
structure Ef (P : Program) (op : Op) (env : Env) (m : Mem) (nx : Nat) (e : Eff) : Prop where
 ok : aop P op (rho env op) m nx = some e
 nc : callD (rho env op) op = none
 ny : yieldD (rho env op) op = none
variable {ops : Array Oper} {dr : Bool} {cf : List (Nat × Nat)} {Q : Exit -> St -> Prop} {rest : List Oper} {env : Env} {m : Mem} {nx : Nat} {tr : Tra} {t : Nat} {op : Op} {ty : TypeId} {pos : String} {after : Array Edge}
 {pre : Prop} {v : D} {rd : List Nat}
theorem ao_any {d : Option Nat} {e : Eff} (he : Ef P op env m nx e) (ha : asks env op) (hp : e.pre) (K : AOps P Y ops dr cf Q rest (St.put ⟨env, upds m e.ups, nx + e.new⟩ d e.val) (tr ++ [(e.rd, e.ups.map (·.1))])) :
  AOps P Y ops dr cf Q (⟨d, op, ty, pos, after, none⟩ :: rest) ⟨env, m, nx⟩ tr := by
 simp only [AOps, AOp]
 rw [he.nc, he.ny, he.ok]
 exact ⟨ha, hp, K⟩
theorem ao_p (he : Ef P op env m nx ⟨pre, v, [], rd, 0⟩) (ha : AskL env op.operands.toList) (hp : pre) (K : AOps P Y ops dr cf Q rest ⟨up env t v, m, nx⟩ (tr ++ [(rd, [])])) :
  AOps P Y ops dr cf Q (⟨some t, op, ty, pos, after, none⟩ :: rest) ⟨env, m, nx⟩ tr := ao_any he (askL_asks ha) hp K
theorem pick_ef {c a b : Operand} {g : Bool} (hc : (opd env c).core = .s (.bool g)) : Ef P (.pick c a b) env m nx ⟨(g = true -> (opd env a).ask /\ (opd env a).core.bool?.isSome = true) /\ (g = false -> (opd env b).ask /\ (opd env b).core.bool?.isSome = true),
  .s (.bool (if g then (opd env a).core.bool?.getD false else (opd env b).core.bool?.getD false)), [], [], 0⟩ := ⟨by simp only [aop, rho, hc, D.bool?], rfl, rfl⟩
theorem ao_pick {c a b : Operand} {g x y : Bool} (hc : opd env c = .s (.bool g)) (ha : (opd env a).core = .s (.bool x)) (hb : (opd env b).core = .s (.bool y)) (h1 : g = true -> (opd env a).ask) (h2 : g = false -> (opd env b).ask)
  (K : AOps P Y ops dr cf Q rest ⟨up env t (.s (.bool (if g then x else y))), m, nx⟩ (tr ++ [([], [])])) :
  AOps P Y ops dr cf Q (⟨some t, .pick c a b, ty, pos, after, none⟩ :: rest) ⟨env, m, nx⟩ tr := by
 refine ao_any (pick_ef (g := g) (by rw [hc]; rfl)) (by simp only [asks, hc, D.ask]) ⟨fun h => ⟨h1 h, by rw [ha]; rfl⟩, fun h => ⟨h2 h, by rw [hb]; rfl⟩⟩ ?_
 simp only [ha, hb, D.bool?, Option.getD_some]
 exact K
theorem ao_pickT {c a b : Operand} {x : Bool} (hc : opd env c = .s (.bool true)) (ha : (opd env a).core = .s (.bool x)) (h1 : (opd env a).ask)
  (K : AOps P Y ops dr cf Q rest ⟨up env t (.s (.bool x)), m, nx⟩ (tr ++ [([], [])])) :
  AOps P Y ops dr cf Q (⟨some t, .pick c a b, ty, pos, after, none⟩ :: rest) ⟨env, m, nx⟩ tr := by
 refine ao_any (pick_ef (g := true) (by rw [hc]; rfl)) (by simp only [asks, hc, D.ask]) ⟨fun _ => ⟨h1, by rw [ha]; rfl⟩, fun h => by cases h⟩ ?_
 simp only [ha, D.bool?, Option.getD_some, if_true]
 exact K
theorem ao_pickF {c a b : Operand} {y : Bool} (hc : opd env c = .s (.bool false)) (hb : (opd env b).core = .s (.bool y)) (h2 : (opd env b).ask)
  (K : AOps P Y ops dr cf Q rest ⟨up env t (.s (.bool y)), m, nx⟩ (tr ++ [([], [])])) :
  AOps P Y ops dr cf Q (⟨some t, .pick c a b, ty, pos, after, none⟩ :: rest) ⟨env, m, nx⟩ tr := by
 refine ao_any (pick_ef (g := false) (by rw [hc]; rfl)) (by simp only [asks, hc, D.ask]) ⟨fun h => (by cases h), fun _ => ⟨h2, by rw [hb]; rfl⟩⟩ ?_
 simp only [hb, D.bool?, Option.getD_some, Bool.false_eq_true, if_false]
 exact K
theorem ao_w {i : Nat} {row : Option Row} (he : Ef P op env m nx ⟨pre, v, [(i, row)], rd, 0⟩) (ha : AskL env op.operands.toList) (hp : pre) (K : AOps P Y ops dr cf Q rest ⟨env, up m i row, nx⟩ (tr ++ [(rd, [i])])) :
  AOps P Y ops dr cf Q (⟨none, op, ty, pos, after, none⟩ :: rest) ⟨env, m, nx⟩ tr := ao_any he (askL_asks ha) hp K
theorem ao_a {row : Row} (he : Ef P op env m nx ⟨pre, v, [(nx, some row)], rd, 1⟩) (ha : AskL env op.operands.toList) (hp : pre) (K : AOps P Y ops dr cf Q rest ⟨up env t v, up m nx (some row), nx + 1⟩ (tr ++ [(rd, [nx])])) :
  AOps P Y ops dr cf Q (⟨some t, op, ty, pos, after, none⟩ :: rest) ⟨env, m, nx⟩ tr := ao_any he (askL_asks ha) hp K
theorem ao_m {i : Nat} {row : Row} (he : Ef P op env m nx ⟨pre, v, [(i, none), (nx, some row)], rd, 1⟩) (ha : AskL env op.operands.toList) (hp : pre) (K : AOps P Y ops dr cf Q rest ⟨up env t v, up (up m i none) nx (some row), nx + 1⟩ (tr ++ [(rd, [i, nx])])) :
  AOps P Y ops dr cf Q (⟨some t, op, ty, pos, after, none⟩ :: rest) ⟨env, m, nx⟩ tr := ao_any he (askL_asks ha) hp K
theorem ao_g {j : Nat} {b c : Bool} {u : Nat} (hj : (ops[j]?).bind (·.dst) = some u) (hg : guardC (env u) b = some c) (he : Ef P op env m nx ⟨pre, v, [], rd, 0⟩) (ha : c = true -> AskL env op.operands.toList /\ pre)
  (K : AOps P Y ops dr cf Q rest ⟨up env t (.opt c v), m, nx⟩ (tr ++ [(rd, [])])) : AOps P Y ops dr cf Q (⟨some t, op, ty, pos, after, some (j, b)⟩ :: rest) ⟨env, m, nx⟩ tr := by
 simp only [AOps, AOp]
 rw [hj]
 simp only [Option.bind_some]
 rw [hg, he.nc, he.ny, he.ok]
 exact ⟨fun hc => ⟨askL_asks (ha hc).1, (ha hc).2⟩, K⟩
theorem ao_gpick {j : Nat} {b0 c0 : Bool} {u : Nat} (hj : (ops[j]?).bind (·.dst) = some u) (hg : guardC (env u) b0 = some c0) {c a b : Operand} {g x y : Bool} (hc : (opd env c).core = .s (.bool g)) (ha : (opd env a).core = .s (.bool x)) (hb : (opd env b).core = .s (.bool y))
  (h0 : c0 = true -> (opd env c).ask) (h1 : c0 = true -> g = true -> (opd env a).ask) (h2 : c0 = true -> g = false -> (opd env b).ask)
  (K : AOps P Y ops dr cf Q rest ⟨up env t (.opt c0 (.s (.bool (if g then x else y)))), m, nx⟩ (tr ++ [([], [])])) :
  AOps P Y ops dr cf Q (⟨some t, .pick c a b, ty, pos, after, some (j, b0)⟩ :: rest) ⟨env, m, nx⟩ tr := by
 have he := pick_ef (P := P) (env := env) (m := m) (nx := nx) (a := a) (b := b) hc
 simp only [ha, hb, D.bool?, Option.getD_some, Option.isSome_some, and_true] at he
 simp only [AOps, AOp]
 rw [hj]
 simp only [Option.bind_some]
 rw [hg, he.nc, he.ny, he.ok]
 exact ⟨fun hc => ⟨by simp only [asks]; exact h0 hc, h1 hc, h2 hc⟩, K⟩
theorem ao_gt {j : Nat} {b : Bool} {u : Nat} {d : Option Nat} {e : Eff} (hj : (ops[j]?).bind (·.dst) = some u) (hg : guardC (env u) b = some true) (he : Ef P op env m nx e) (ha : AskL env op.operands.toList) (hp : e.pre)
  (K : e.ups = [] -> e.new = 0 -> AOps P Y ops dr cf Q rest (St.put ⟨env, m, nx⟩ d (.opt true e.val)) (tr ++ [(e.rd, [])]))
  (K' : AOps P Y ops dr cf Q rest (St.put ⟨env, upds m e.ups, nx + e.new⟩ d e.val) (tr ++ [(e.rd, e.ups.map (·.1))])) : AOps P Y ops dr cf Q (⟨d, op, ty, pos, after, some (j, b)⟩ :: rest) ⟨env, m, nx⟩ tr := by
 simp only [AOps, AOp]
 rw [hj]
 simp only [Option.bind_some]
 rw [hg, he.nc, he.ny, he.ok]
 simp only
 split
 ·rename_i h
  simp only [Bool.and_eq_true, List.isEmpty_iff, beq_iff_eq] at h
  exact ⟨fun _ => ⟨askL_asks ha, hp⟩, K h.1 h.2⟩
 ·exact ⟨fun _ => ⟨askL_asks ha, hp, K'⟩, by simp⟩
theorem ao_gf {j : Nat} {b : Bool} {u : Nat} {d : Option Nat} (hj : (ops[j]?).bind (·.dst) = some u) (hg : guardC (env u) b = some false)
  (K : ∀ (x : D) rd, AOps P Y ops dr cf Q rest (St.put ⟨env, m, nx⟩ d (.opt false x)) (tr ++ [(rd, [])])) : AOps P Y ops dr cf Q (⟨d, op, ty, pos, after, some (j, b)⟩ :: rest) ⟨env, m, nx⟩ tr := by
 simp only [AOps, AOp]
 rw [hj]
 simp only [Option.bind_some]
 rw [hg]
 simp only
 split
 ·exact .inr ⟨by simp, fun _ => K .u []⟩
 ·split
  ·exact ⟨by simp, fun _ => K .u []⟩
  ·split
   ·split
    ·exact ⟨by simp, K _ _⟩
    ·exact ⟨by simp, fun _ => K .u []⟩
   ·exact ⟨trivial, K .u []⟩
theorem ao_gft {j : Nat} {b : Bool} {u t : Nat} (hj : (ops[j]?).bind (·.dst) = some u) (hg : guardC (env u) b = some false)
  (K : ∀ (x : D) rd, AOps P Y ops dr cf Q rest ⟨up env t (.opt false x), m, nx⟩ (tr ++ [(rd, [])])) : AOps P Y ops dr cf Q (⟨some t, op, ty, pos, after, some (j, b)⟩ :: rest) ⟨env, m, nx⟩ tr := ao_gf hj hg K
theorem ao_call {f : FuncId} {args : List D} {d : Option Nat} (hc : callD (rho env op) op = some (f, args)) (ha : AskL env op.operands.toList) (h : CallOp P dr ⟨env, m, nx⟩ f args fun r m nx rd wr => AOps P Y ops dr cf Q rest (St.put ⟨env, m, nx⟩ d r) (tr ++ [(rd, wr)])) :
  AOps P Y ops dr cf Q (⟨d, op, ty, pos, after, none⟩ :: rest) ⟨env, m, nx⟩ tr := by
 simp only [AOps, AOp]
 rw [hc]
 exact ⟨askL_asks ha, h⟩
theorem ao_pc {f : FuncId} {args : List D} {r : D} (h : PCall P f args r) (hc : callD (rho env op) op = some (f, args)) (ha : AskL env op.operands.toList) (K : AOps P Y ops dr cf Q rest ⟨up env t r, m, nx⟩ (tr ++ [([], [])])) :
  AOps P Y ops dr cf Q (⟨some t, op, ty, pos, after, none⟩ :: rest) ⟨env, m, nx⟩ tr := ao_call hc ha (.inl ⟨r, h, K⟩)
theorem ao_oc {f : FuncId} {args es : List D} {n : Nat} {ty' : TypeId} (h : OCall P f args es n ty') (hc : callD (rho env op) op = some (f, args)) (ha : AskL env op.operands.toList) (K : AOps P Y ops dr cf Q rest ⟨up env t (.rs nx 0 n), up m nx (some (.cells es ty')), nx + 1⟩ (tr ++ [([], [nx])])) :
  AOps P Y ops dr cf Q (⟨some t, op, ty, pos, after, none⟩ :: rest) ⟨env, m, nx⟩ tr := ao_call hc ha (.inr (.inr (.inl ⟨es, n, ty', h, K⟩)))
theorem ao_ac {f : FuncId} {args : List D} {d : Option Nat} {Post : D -> Mem -> Nat -> Prop} (h : ACalls P f args m nx Post) (hc : callD (rho env op) op = some (f, args)) (ha : AskL env op.operands.toList)
  (K : ∀ r m' nx', Post r m' nx' -> AOps P Y ops false cf Q rest (St.put ⟨env, m', nx'⟩ d r) (tr ++ [([], [])])) :
  AOps P Y ops false cf Q (⟨d, op, ty, pos, after, none⟩ :: rest) ⟨env, m, nx⟩ tr := ao_call hc ha (.inr (.inr (.inr (.inl ⟨rfl, h.mono K⟩))))
theorem ao_gpc {j : Nat} {b c : Bool} {u : Nat} {f : FuncId} {args : List D} {r : D} (hj : (ops[j]?).bind (·.dst) = some u) (hg : guardC (env u) b = some c) (hc : callD (rho env op) op = some (f, args)) (h : c = true -> AskL env op.operands.toList /\ PCall P f args r)
  (K : AOps P Y ops dr cf Q rest ⟨up env t (.opt c r), m, nx⟩ (tr ++ [([], [])])) : AOps P Y ops dr cf Q (⟨some t, op, ty, pos, after, some (j, b)⟩ :: rest) ⟨env, m, nx⟩ tr := by
 simp only [AOps, AOp]
 rw [hj]
 simp only [Option.bind_some]
 rw [hg, hc]
 exact .inl ⟨r, fun hct => ⟨askL_asks (h hct).1, (h hct).2⟩, K⟩
theorem ao_gcall {j : Nat} {b : Bool} {u : Nat} {d : Option Nat} {f : FuncId} {args : List D} (hj : (ops[j]?).bind (·.dst) = some u) (hg : guardC (env u) b = some true) (hc : callD (rho env op) op = some (f, args)) (ha : AskL env op.operands.toList)
  (h : CallOp P dr ⟨env, m, nx⟩ f args fun r m nx rd wr => AOps P Y ops dr cf Q rest (St.put ⟨env, m, nx⟩ d r) (tr ++ [(rd, wr)])) : AOps P Y ops dr cf Q (⟨d, op, ty, pos, after, some (j, b)⟩ :: rest) ⟨env, m, nx⟩ tr := by
 simp only [AOps, AOp]
 rw [hj]
 simp only [Option.bind_some]
 rw [hg, hc]
 exact .inr ⟨fun _ => ⟨askL_asks ha, h⟩, by simp⟩
theorem ao_y {l : Nat} {args : List D} {d : Option Nat} (hc : callD (rho env op) op = none) (hy : yieldD (rho env op) op = some (l, args)) (ha : AskL env op.operands.toList) (h : Y l args m nx fun r m' nx' => AOps P Y ops false cf Q rest (St.put ⟨env, m', nx'⟩ d r) (tr ++ [([], [])])) :
  AOps P Y ops false cf Q (⟨d, op, ty, pos, after, none⟩ :: rest) ⟨env, m, nx⟩ tr := by
 simp only [AOps, AOp]
 rw [hc, hy]
 exact ⟨askL_asks ha, trivial, h⟩
theorem ao_gy {j : Nat} {b : Bool} {u : Nat} {l : Nat} {args : List D} {d : Option Nat} (hj : (ops[j]?).bind (·.dst) = some u) (hg : guardC (env u) b = some true) (hc : callD (rho env op) op = none) (hy : yieldD (rho env op) op = some (l, args)) (ha : AskL env op.operands.toList)
  (h : Y l args m nx fun r m' nx' => AOps P Y ops false cf Q rest (St.put ⟨env, m', nx'⟩ d r) (tr ++ [([], [])])) : AOps P Y ops false cf Q (⟨d, op, ty, pos, after, some (j, b)⟩ :: rest) ⟨env, m, nx⟩ tr := by
 simp only [AOps, AOp]
 rw [hj]
 simp only [Option.bind_some]
 rw [hg, hc, hy]
 exact ⟨fun _ => ⟨askL_asks ha, trivial, h⟩, by simp⟩
def endQ (K : St -> Prop) : Exit -> St -> Prop
 | .normal, st => K st
 | _, _ => True
theorem ao_end {K : St -> Prop} {st : St} (h : K st) : AOps P Y ops dr [] (endQ K) [] st tr := ⟨by simp, h⟩
theorem ao_endc {K : St -> Prop} {st : St} (hc : ∀ q ∈ cf, apartT tr q.1 q.2) (h : K st) : AOps P Y ops dr cf (endQ K) [] st tr := ⟨hc, h⟩
variable {st : St} {a b c : Code}
theorem AOps.endq {cf : List (Nat × Nat)} {K : St -> Prop} {Q : Exit -> St -> Prop} [YMono Y] {l : List Oper} (h : AOps P Y ops dr cf (endQ K) l st tr) (hk : ∀ st, K st -> Q .normal st) : AOps P Y ops dr cf Q l st tr :=
 AOps.mono (Q := endQ K) (fun st h => hk st h) l st tr h
theorem w_region [YMono Y] {id : Nat} (h : AOps P Y ops false [] (endQ fun st => Q .normal st) ops.toList st []) : AW P Y rf (.region id ops false) Q st := AOps.endq h fun _ h => h
theorem w_draw [YMono Y] {id : Nat} (hi : drawInfo ops = some cf) (h : AOps P Y ops true cf (endQ fun st => Q .normal st) ops.toList st []) : AW P Y rf (.region id ops true) Q st := by
 show match drawInfo ops with
  | some cf => AOps P Y ops true cf Q ops.toList st []
  | none => False
 rw [hi]
 exact AOps.endq h fun _ h => h
theorem w_seq_region [YMono Y] {id : Nat} (h : AOps P Y ops false [] (endQ fun st => AW P Y rf b Q st) ops.toList st []) : AW P Y rf (.seq (.region id ops false) b) Q st :=
 w_region (rf := rf) (id := id) (AOps.endq h fun st h => ⟨st, .refl st, h⟩)
theorem w_seq_draw [YMono Y] {id : Nat} (hi : drawInfo ops = some cf) (h : AOps P Y ops true cf (endQ fun st => AW P Y rf b Q st) ops.toList st []) : AW P Y rf (.seq (.region id ops true) b) Q st :=
 w_draw (rf := rf) (id := id) hi (AOps.endq h fun st h => ⟨st, .refl st, h⟩)
theorem w_ghost {st' : St} (hg : Ghost P st st') (h : AW P Y rf b Q st') : ∃ st'', Ghost P st st'' /\ AW P Y rf b Q st'' := ⟨st', hg, h⟩
theorem w_seq_region_g [YMono Y] {id : Nat} (h : AOps P Y ops false [] (endQ fun st => ∃ st', Ghost P st st' /\ AW P Y rf b Q st') ops.toList st []) : AW P Y rf (.seq (.region id ops false) b) Q st :=
 w_region (rf := rf) (id := id) (AOps.endq h fun _ h => h)
theorem w_seq_draw_g [YMono Y] {id : Nat} (hi : drawInfo ops = some cf) (h : AOps P Y ops true cf (endQ fun st => ∃ st', Ghost P st st' /\ AW P Y rf b Q st') ops.toList st []) : AW P Y rf (.seq (.region id ops true) b) Q st :=
 w_draw (rf := rf) (id := id) hi (AOps.endq h fun _ h => h)
theorem w_cut [YMono Y] (J : St -> Prop) (h : AW P Y rf a (seqQ J Q) st) (k : ∀ st, J st -> AW P Y rf b Q st) : AW P Y rf (.seq a b) Q st :=
 AW_mono a (fun e st h => by
  cases e with
  | normal => exact ⟨st, .refl st, k st h⟩
  | _ => exact h) h
theorem w_cut_g [YMono Y] (J : St -> Prop) (h : AW P Y rf a (seqQ J Q) st) (k : ∀ st, J st -> ∃ st', Ghost P st st' /\ AW P Y rf b Q st') : AW P Y rf (.seq a b) Q st :=
 AW_mono a (fun e st h => by
  cases e with
  | normal => exact k st h
  | _ => exact h) h
theorem w_seq_skip [YMono Y] (h : AW P Y rf b Q st) : AW P Y rf (.seq .skip b) Q st := ⟨st, .refl st, h⟩
theorem w_seq_ret (h : Q .ret st) : AW P Y rf (.seq .ret b) Q st := h
theorem w_seq_exit {id : Nat} (h : Q (.exit id) st) : AW P Y rf (.seq (.exit id) b) Q st := h
theorem w_seq_label {l : Nat} (h : AW P Y rf b Q st) : AW P Y rf (.seq (.label l) b) Q st := ⟨st, .refl st, h⟩
theorem w_assoc [YMono Y] (h : AW P Y rf (.seq a (.seq b c)) Q st) : AW P Y rf (.seq (.seq a b) c) Q st := by
 refine AW_mono a (fun e st h => ?_) h
 cases e with
 | normal =>
  obtain ⟨st', hg, h⟩ := h
  refine ⟨st', hg, AW_mono b (fun e st h => ?_) h⟩
  cases e <;> exact h
 | _ => exact h
theorem w_if {c : Operand} {x y : Code} {g : Bool} (hc : opd st.env c = .s (.bool g)) (ht : g = true -> AW P Y rf x Q st) (hf : g = false -> AW P Y rf y Q st) : AW P Y rf (.cond c x y) Q st := by
 rw [AW_cond]
 rw [hc]
 exact ⟨trivial, ht, hf⟩
theorem w_seq_if {c : Operand} {x y : Code} {g : Bool} (hc : opd st.env c = .s (.bool g)) (ht : g = true -> AW P Y rf (.seq x b) Q st) (hf : g = false -> AW P Y rf (.seq y b) Q st) : AW P Y rf (.seq (.cond c x y) b) Q st := w_if hc ht hf
theorem w_if_ub {c : Operand} {x y : Code} (hc : opd st.env c = .ub) (ht : AW P Y rf x Q st) (hf : AW P Y rf y Q st) : AW P Y rf (.cond c x y) Q st := by
 rw [AW_cond]
 rw [hc]
 exact ⟨trivial, ht, hf⟩
theorem w_block {id : Nat} (h : AW P Y rf b (blockQ id Q) st) : AW P Y rf (.block id b) Q st := h
theorem w_loopJ [YMono Y] {α : Type} (S : α -> St) (J : α -> Prop) (μ : α -> Nat) (x₀ : α) (h0 : st = S x₀) (hJ : J x₀) (h : ∀ x, J x -> AW P Y rf b (seqQ (fun st' => ∃ st'' x', Ghost P st' st'' /\ st'' = S x' /\ J x' /\ μ x' < μ x) Q) (S x)) : AW P Y rf (.loop b) Q st := by
 refine AW_while (fun j st => ∃ x, st = S x /\ J x /\ μ x = j) (j₀ := μ x₀) ⟨x₀, h0, hJ, rfl⟩ ?_
 rintro j st ⟨x, rfl, hx, rfl⟩
 refine AW_mono b (fun e st' hq => ?_) (h x hx)
 cases e with
 | normal =>
  obtain ⟨st'', x', h1, h2, h3, h4⟩ := hq
  exact ⟨st'', h1, μ x', h4, x', h2, h3, rfl⟩
 | _ => exact hq
end
end Go.Abs
end
section
namespace Go.Abs
section
variable {P : Program} {env : Env} {m : Mem} {nx : Nat} {t : TypeId} {x y a : Operand} {d v : D} {k : IntKind} {n n' : Int} {p q : TypeId}
theorem e_move (hx : (opd env x).core = v) : Ef P (.move x) env m nx ⟨True, v, [], [], 0⟩ := ⟨by simp only [aop, rho, hx], rfl, rfl⟩
theorem e_assign (hx : (opd env x).core = v) : Ef P (.assign x) env m nx ⟨True, v, [], [], 0⟩ := ⟨by simp only [aop, rho, hx], rfl, rfl⟩
theorem nilD_s (op : BinOp) (v : Value) (y : Operand) : nilD P m op t (.s v) y = none := by
 unfold nilD
 split <;> first | rfl | (rename_i h; cases h)
theorem binD_s {op : BinOp} {v w : Value} (h : ∀ a b, v = .bool a -> w = .bool b -> False) : binD P op t (.s v) (.s w) = (binV op v w).map fun r => (r.1, .s r.2) := by
 cases v <;> cases w <;> first | rfl | exact (h _ _ rfl rfl).elim
theorem e_bin {op : BinOp} {v w u : Value} {pre : Prop} (hx : (opd env x).core = .s v) (hy : (opd env y).core = .s w) (hn : ∀ a b, v = .bool a -> w = .bool b -> False) (hb : binV op v w = some (pre, u)) : Ef P (.binOp op t x y p) env m nx ⟨pre, .s u, [], [], 0⟩ :=
 ⟨by simp only [aop, rho, hx, hy, nilD_s, binD_s hn, hb, Option.map_some], rfl, rfl⟩
section ints
variable (hx : (opd env x).core = .s (.int k n)) (hy : (opd env y).core = .s (.int k n'))
include hx hy
theorem e_lss : Ef P (.binOp .lss t x y p) env m nx ⟨k = k, .s (.bool (decide (n < n'))), [], [], 0⟩ := e_bin hx hy (by simp) rfl
theorem e_leq : Ef P (.binOp .leq t x y p) env m nx ⟨k = k, .s (.bool (decide (n <= n'))), [], [], 0⟩ := e_bin hx hy (by simp) rfl
theorem e_gtr : Ef P (.binOp .gtr t x y p) env m nx ⟨k = k, .s (.bool (decide (n' < n))), [], [], 0⟩ := e_bin hx hy (by simp) rfl
theorem e_geq : Ef P (.binOp .geq t x y p) env m nx ⟨k = k, .s (.bool (decide (n' <= n))), [], [], 0⟩ := e_bin hx hy (by simp) rfl
theorem e_eql : Ef P (.binOp .eql t x y p) env m nx ⟨k = k, .s (.bool (n == n')), [], [], 0⟩ := e_bin hx hy (by simp) rfl
theorem e_neq : Ef P (.binOp .neq t x y p) env m nx ⟨k = k, .s (.bool (n != n')), [], [], 0⟩ := e_bin hx hy (by simp) rfl
theorem e_addw : Ef P (.binOp .add t x y p) env m nx ⟨k = k, .s (.int k (k.wrap (n + n'))), [], [], 0⟩ := e_bin hx hy (by simp) rfl
theorem e_subw : Ef P (.binOp .sub t x y p) env m nx ⟨k = k, .s (.int k (k.wrap (n - n'))), [], [], 0⟩ := e_bin hx hy (by simp) rfl
theorem e_quow : Ef P (.binOp .quo t x y p) env m nx ⟨k = k /\ n' ≠ 0, .s (.int k (k.wrap (n.tdiv n'))), [], [], 0⟩ := e_bin hx hy (by simp) rfl
theorem e_rem : Ef P (.binOp .rem t x y p) env m nx ⟨k = k /\ n' ≠ 0, .s (.int k (n.tmod n')), [], [], 0⟩ := e_bin hx hy (by simp) rfl
theorem e_and : Ef P (.binOp .and t x y p) env m nx ⟨k = k, .s (.int k (intBitsV .and k n n')), [], [], 0⟩ := e_bin hx hy (by simp) rfl
theorem e_or : Ef P (.binOp .or t x y p) env m nx ⟨k = k, .s (.int k (intBitsV .or k n n')), [], [], 0⟩ := e_bin hx hy (by simp) rfl
end ints
theorem e_shl {k' : IntKind} (hx : (opd env x).core = .s (.int k n)) (hy : (opd env y).core = .s (.int k' n')) : Ef P (.binOp .shl t x y p) env m nx ⟨0 <= n', .s (.int k (k.wrap (n * 2 ^ (min n'.toNat k.bits)))), [], [], 0⟩ := e_bin hx hy (by simp) rfl
theorem e_shr {k' : IntKind} (hx : (opd env x).core = .s (.int k n)) (hy : (opd env y).core = .s (.int k' n')) : Ef P (.binOp .shr t x y p) env m nx ⟨0 <= n', .s (.int k (n.fdiv (2 ^ (min n'.toNat k.bits)))), [], [], 0⟩ := e_bin hx hy (by simp) rfl
theorem i64_in (n : Int) (h : -9223372036854775808 <= n /\ n <= 9223372036854775807) : IntKind.i64.wrap n = n := Go.IntWalk.i64_in n h
theorem e_add (hx : (opd env x).core = .s (.int .i64 n)) (hy : (opd env y).core = .s (.int .i64 n')) (hb : -9223372036854775808 <= n + n' /\ n + n' <= 9223372036854775807) : Ef P (.binOp .add t x y p) env m nx ⟨IntKind.i64 = IntKind.i64, .s (.int .i64 (n + n')), [], [], 0⟩ := by
 have := e_addw (P := P) (m := m) (nx := nx) (t := t) (p := p) hx hy
 rwa [i64_in _ hb] at this
theorem e_sub (hx : (opd env x).core = .s (.int .i64 n)) (hy : (opd env y).core = .s (.int .i64 n')) (hb : -9223372036854775808 <= n - n' /\ n - n' <= 9223372036854775807) : Ef P (.binOp .sub t x y p) env m nx ⟨IntKind.i64 = IntKind.i64, .s (.int .i64 (n - n')), [], [], 0⟩ := by
 have := e_subw (P := P) (m := m) (nx := nx) (t := t) (p := p) hx hy
 rwa [i64_in _ hb] at this
section strings
variable {s s' : ByteArray} (hx : (opd env x).core = .s (.string s)) (hy : (opd env y).core = .s (.string s'))
include hx hy
theorem e_seql : Ef P (.binOp .eql t x y p) env m nx ⟨True, .s (.bool (s.toList == s'.toList)), [], [], 0⟩ := e_bin hx hy (by simp) rfl
theorem e_sgeq : Ef P (.binOp .geq t x y p) env m nx ⟨True, .s (.bool !(Op.bytesLess s.toList s'.toList)), [], [], 0⟩ := e_bin hx hy (by simp) rfl
end strings
theorem e_beql {b b' : Bool} (hx : (opd env x).core = .s (.bool b)) (hy : (opd env y).core = .s (.bool b')) : Ef P (.binOp .eql t x y p) env m nx ⟨boT P t = true, .s (.bool (b == b')), [], [], 0⟩ :=
 ⟨by simp only [aop, rho, hx, hy, nilD_s, binD, Option.map_some], rfl, rfl⟩
theorem e_not {b : Bool} (hx : (opd env x).core = .s (.bool b)) : Ef P (.unOp .not t x) env m nx ⟨True, .s (.bool !b), [], [], 0⟩ := ⟨by simp only [aop, rho, hx, unV, Option.map_some], rfl, rfl⟩
theorem e_alloc {z : List D} (hz : zeroP P t = z) : Ef P (.alloc t) env m nx ⟨tyOk P t = true, .rp nx 0, [(nx, some (.cells z t))], [], 1⟩ := ⟨by simp only [aop, hz], rfl, rfl⟩
theorem e_box {cs : List D} (hx : (opd env x).core = d) (hc : d.cells = cs) : Ef P (.box t x) env m nx ⟨cs.all D.one = true, .rp nx 0, [(nx, some (.cells cs t))], [], 1⟩ := ⟨by simp only [aop, rho, hx, hc], rfl, rfl⟩
theorem e_box1 (hx : (opd env x).core = d) (hc : d.cells = [d]) : Ef P (.box t x) env m nx ⟨[d].all D.one = true, .rp nx 0, [(nx, some (.cells [d] t))], [], 1⟩ := e_box hx hc
theorem e_boxA {cs : List D} (hx : (opd env x).core = .agg cs) : Ef P (.box t x) env m nx ⟨cs.all D.one = true, .rp nx 0, [(nx, some (.cells cs t))], [], 1⟩ := e_box hx rfl
theorem e_load {cs : List D} (hx : (opd env x).core = .pt (v :: cs)) (ha : aggP P t = false) : Ef P (.load t x) env m nx ⟨tyOk P t = true /\ P.cellsOf t <= (v :: cs).length, v, [], [], 0⟩ := ⟨by simp [aop, rho, hx, takeV, ha], rfl, rfl⟩
theorem e_loadA {cs vs : List D} {n : Nat} (hx : (opd env x).core = .pt cs) (ha : aggP P t = true) (hc : P.cellsOf t = n) (hv : cs.take n = vs) : Ef P (.load t x) env m nx ⟨tyOk P t = true /\ P.cellsOf t <= cs.length, .agg vs, [], [], 0⟩ := ⟨by simp [aop, rho, hx, takeV, ha, hc, hv], rfl, rfl⟩
theorem e_loadR {i off : Nat} {cs cs' : List D} {e : TypeId} (hx : (opd env x).core = .rp i off) (hm : m i = some (.cells cs e)) (hd : cs.drop off = v :: cs') (ha : aggP P t = false) : Ef P (.load t x) env m nx ⟨tyOk P t = true /\ off + P.cellsOf t <= cs.length, v, [], [i], 0⟩ := ⟨by simp [aop, rho, hx, hm, takeV, ha, hd], rfl, rfl⟩
theorem e_loadRA {i off : Nat} {cs vs : List D} {e : TypeId} {n : Nat} (hx : (opd env x).core = .rp i off) (hm : m i = some (.cells cs e)) (ha : aggP P t = true) (hc : P.cellsOf t = n) (hv : (cs.drop off).take n = vs) : Ef P (.load t x) env m nx ⟨tyOk P t = true /\ off + P.cellsOf t <= cs.length, .agg vs, [], [i], 0⟩ := ⟨by simp [aop, rho, hx, hm, takeV, ha, hc, hv], rfl, rfl⟩
theorem e_store {i off : Nat} {cs cs' vs : List D} {e : TypeId} (hx : (opd env x).core = .rp i off) (hy : (opd env y).core = d) (hm : m i = some (.cells cs e)) (hv : d.cells = vs) (hs : splice cs off vs = cs') :
  Ef P (.store t x y) env m nx ⟨tyOk P t = true /\ vs.length = P.cellsOf t /\ off + P.cellsOf t <= cs.length /\ vs.all D.one = true, .tup [], [(i, some (.cells cs' e))], [i], 0⟩ := ⟨by simp only [aop, rho, hx, hy, hm, hv, hs], rfl, rfl⟩
theorem e_store1 {i off : Nat} {cs cs' : List D} {e : TypeId} (hx : (opd env x).core = .rp i off) (hy : (opd env y).core = d) (hm : m i = some (.cells cs e)) (hv : d.cells = [d]) (hs : cs.set off d = cs') :
  Ef P (.store t x y) env m nx ⟨tyOk P t = true /\ [d].length = P.cellsOf t /\ off + P.cellsOf t <= cs.length /\ [d].all D.one = true, .tup [], [(i, some (.cells cs' e))], [i], 0⟩ := e_store hx hy hm hv hs
theorem e_storeA {i off : Nat} {cs cs' vs : List D} {e : TypeId} (hx : (opd env x).core = .rp i off) (hy : (opd env y).core = .agg vs) (hm : m i = some (.cells cs e)) (hs : splice cs off vs = cs') :
  Ef P (.store t x y) env m nx ⟨tyOk P t = true /\ vs.length = P.cellsOf t /\ off + P.cellsOf t <= cs.length /\ vs.all D.one = true, .tup [], [(i, some (.cells cs' e))], [i], 0⟩ := e_store hx hy hm rfl hs
theorem e_faddr {cs : List D} {j off : Nat} {ft : TypeId} (hx : (opd env x).core = .pt cs) (hf : fieldP P t j = some (off, ft)) : Ef P (.fieldAddr t x j) env m nx ⟨0 < P.cellsOf ft, .pt (cs.drop off), [], [], 0⟩ := ⟨by simp only [aop, rho, hx, hf], rfl, rfl⟩
theorem e_faddrR {i o : Nat} {j off : Nat} {ft : TypeId} {r : Row} (hx : (opd env x).core = .rp i o) (hm : m i = some r) (hf : fieldP P t j = some (off, ft)) : Ef P (.fieldAddr t x j) env m nx ⟨0 < P.cellsOf ft, .rp i (o + off), [], [i], 0⟩ := ⟨by simp only [aop, rho, hx, hf, hm], rfl, rfl⟩
theorem e_nilP {cs : List D} (hx : (opd env x).core = .pt cs) : Ef P (.nilCheck x) env m nx ⟨True, .pt cs, [], [], 0⟩ := ⟨by simp only [aop, rho, hx], rfl, rfl⟩
theorem e_nilR {i o : Nat} {r : Row} (hx : (opd env x).core = .rp i o) (hm : m i = some r) : Ef P (.nilCheck x) env m nx ⟨True, .rp i o, [], [i], 0⟩ := ⟨by simp only [aop, rho, hx, hm], rfl, rfl⟩
theorem e_idx {es cs : List D} {l sz : Nat} {e : TypeId} (hx : (opd env x).core = .sl es l) (hy : (opd env y).core = .s (.int k n)) (he : elemP P t = e) (hs : P.cellsOf e = sz) (hd : es.drop (n.toNat * sz) = cs) :
  Ef P (.indexAddr t x y) env m nx ⟨slT P t = true /\ 0 <= n /\ n < l /\ (n.toNat + 1) * sz <= es.length, .pt cs, [], [], 0⟩ := ⟨by simp only [aop, rho, hx, hy, he, hs, hd], rfl, rfl⟩
theorem e_idxR {j off l sz : Nat} {e : TypeId} {r : Row} (hx : (opd env x).core = .rs j off l) (hy : (opd env y).core = .s (.int k n)) (hm : m j = some r) (he : elemP P t = e) (hs : P.cellsOf e = sz) :
  Ef P (.indexAddr t x y) env m nx ⟨slT P t = true /\ 0 <= n /\ n < l, .rp j (off + n.toNat * sz), [], [j], 0⟩ := ⟨by simp only [aop, rho, hx, hy, hm, he, hs], rfl, rfl⟩
theorem e_idxP {j off sz l : Nat} {e : TypeId} {r : Row} (hx : (opd env x).core = .rp j off) (hy : (opd env y).core = .s (.int k n)) (hm : m j = some r) (he : elemP P t = e) (hs : P.cellsOf e = sz) (hl : lenP P t = l) :
  Ef P (.indexAddr t x y) env m nx ⟨arT P t = true /\ 0 <= n /\ n < l, .rp j (off + n.toNat * sz), [], [j], 0⟩ := ⟨by simp only [aop, rho, hx, hy, hm, he, hs, hl], rfl, rfl⟩
section builtins
theorem e_blt {b : Builtin} {ts : Array TypeId} {args : Array Operand} {aS : List D} {e : Eff} (hs : ts.size = args.size) (ha : args.toList.map (fun x => (opd env x).core) = aS) (hb : builtinD P m nx b ts aS = some e) : Ef P (.call { callee := .builtin b, args := args, argTypes := ts }) env m nx e :=
 ⟨by simp only [aop]; rw [if_pos hs]; simp only [rho]; rw [ha, hb], rfl, rfl⟩
theorem e_len {es : List D} {l : Nat} (hx : (opd env x).core = .sl es l) : Ef P (.call { callee := .builtin .len, args := #[x], argTypes := #[t] }) env m nx ⟨slT P t = true, .s (.int .i64 l), [], [], 0⟩ := e_blt (aS := [.sl es l]) rfl (by simp [hx]) rfl
theorem e_lenR {i off l : Nat} {r : Row} (hx : (opd env x).core = .rs i off l) (hm : m i = some r) : Ef P (.call { callee := .builtin .len, args := #[x], argTypes := #[t] }) env m nx ⟨slT P t = true, .s (.int .i64 l), [], [i], 0⟩ := e_blt (aS := [.rs i off l]) rfl (by simp [hx]) (by simp [builtinD, lenD, hm])
theorem e_lenS {b : ByteArray} (hx : (opd env x).core = .s (.string b)) : Ef P (.call { callee := .builtin .len, args := #[x], argTypes := #[t] }) env m nx ⟨stT P t = true, .s (.int .i64 b.size), [], [], 0⟩ := e_blt (aS := [.s (.string b)]) rfl (by simp [hx]) rfl
theorem e_min {k : IntKind} (hx : (opd env x).core = .s (.int k n)) (hy : (opd env y).core = .s (.int k n')) : Ef P (.call { callee := .builtin .min, args := #[x, y], argTypes := #[t, t] }) env m nx ⟨k = k, .s (.int k (if n' < n then n' else n)), [], [], 0⟩ := e_blt (aS := [.s (.int k n), .s (.int k n')]) rfl (by simp [hx, hy]) rfl
structure Cells (m : Mem) (sz : Nat) (d : D) (p : Prop) (rd : List Nat) (k : Nat) (news : List D) : Prop where
 ok : sliceCells m sz d = some (p, rd, k, news)
theorem cells_sl {es news : List D} {k sz : Nat} (h : es.take (k * sz) = news) : Cells m sz (.sl es k) (k * sz <= es.length) [] k news := ⟨by simp [sliceCells, h]⟩
theorem cells_rs {i off k sz : Nat} {cs news : List D} {e : TypeId} (hm : m i = some (.cells cs e)) (h : (cs.drop off).take (k * sz) = news) : Cells m sz (.rs i off k) (off + k * sz <= cs.length) [i] k news := ⟨by simp [sliceCells, hm, h]⟩
theorem e_appZ {p : Prop} {rd : List Nat} {c sz : Nat} {news : List D} {e : TypeId} (hx : (opd env x).core = .z) (hy : (opd env y).core = d) (he : elemP P t = e) (hs : P.cellsOf e = sz) (hc : Cells m sz d p rd c news) :
  Ef P (.call { callee := .builtin .append, args := #[x, y], argTypes := #[t, t] }) env m nx ⟨slT P t = true /\ p /\ 0 < sz /\ c <= maxLen /\ c * P.bytesOf e <= 140737488355328, .rs nx 0 c, [(nx, some (.cells news e))], rd, 1⟩ := by
 refine e_blt (aS := [.z, d]) rfl (by simp [hx, hy]) ?_
 simp only [builtinD]
 rw [if_pos (by simp)]
 simp only [appendD, Array.getD_eq_getD_getElem?, List.getElem?_toArray, List.getElem?_cons_zero, Option.getD_some, he, hs, hc.ok]
theorem e_appR {p : Prop} {rd : List Nat} {c sz i off l : Nat} {cs cs' news : List D} {e : TypeId} (hx : (opd env x).core = .rs i off l) (hm : m i = some (.cells cs e)) (hy : (opd env y).core = d) (he : elemP P t = e) (hs : P.cellsOf e = sz) (hc : Cells m sz d p rd c news) (hn : cs.drop off ++ news = cs') :
  Ef P (.call { callee := .builtin .append, args := #[x, y], argTypes := #[t, t] }) env m nx ⟨slT P t = true /\ e = e /\ p /\ 0 < sz /\ off + l * sz = cs.length /\ l + c <= maxLen /\ (l + c) * P.bytesOf e <= 140737488355328 /\ i ∉ rd, .rs nx 0 (l + c), [(i, none), (nx, some (.cells cs' e))], i :: rd, 1⟩ := by
 refine e_blt (aS := [.rs i off l, d]) rfl (by simp [hx, hy]) ?_
 simp only [builtinD]
 rw [if_pos (by simp)]
 simp only [appendD, Array.getD_eq_getD_getElem?, List.getElem?_toArray, List.getElem?_cons_zero, Option.getD_some, he, hs, hc.ok, hm, hn]
end builtins
theorem e_extract {cs cs' : List D} {j : Nat} (hx : (opd env x).core = .tup cs) (hd : cs.drop j = v :: cs') : Ef P (.extract x j) env m nx ⟨j < cs.length, v, [], [], 0⟩ := by
 have h : cs[j]? = some v := by
  have : (cs.drop j)[0]? = some v := by rw [hd]; rfl
  simpa using this
 exact ⟨by simp [aop, rho, hx, h], rfl, rfl⟩
theorem e_build {ps : Array (Nat × Operand)} {fs : Array Field} {cs z : List D} {qs : List (Nat × D)} (hu : P.underlying t = some (.struct fs)) (hz : zeroP P t = z) (hq : (ps.toList.map fun q => (q.1, (opd env q.2).core)) = qs)
  (hf : fillD (fun i => (fs[i]?).map fun f => (f.offset, P.cellsOf f.type)) z qs = some cs) : Ef P (.build t ps) env m nx ⟨tyOk P t = true /\ fs.toList.all (fun f => (P.info? f.type).isSome) = true, .agg cs, [], [], 0⟩ :=
 ⟨by simp only [aop, rho, hu, hz, hq, hf, Option.map_some], rfl, rfl⟩
theorem e_build2 {ps : Array (Nat × Operand)} {fs : Array Field} {pls : List (Nat × Nat)} {cs z : List D} {qs : List (Nat × D)} (hu : P.underlying t = some (.struct fs)) (hp : (fs.toList.map fun (f : Field) => (f.offset, P.cellsOf f.type)) = pls) (hz : zeroP P t = z) (hq : (ps.toList.map fun q => (q.1, (opd env q.2).core)) = qs)
  (hf : fillD (fun i => pls[i]?) z qs = some cs) : Ef P (.build t ps) env m nx ⟨tyOk P t = true /\ fs.toList.all (fun f => (P.info? f.type).isSome) = true, .agg cs, [], [], 0⟩ := by
 refine e_build hu hz hq ?_
 have : (fun (i : Nat) => (fs[i]?).map fun (f : Field) => (f.offset, P.cellsOf f.type)) = fun (i : Nat) => pls[i]? := by
  funext i
  rw [<- hp]
  simp
 rw [this]; exact hf
theorem e_buildSl {ps : Array (Nat × Operand)} {l sz : Nat} {e : TypeId} {cs z : List D} {qs : List (Nat × D)} (he : elemP P t = e) (hs : P.cellsOf e = sz) (hz : zeroP P e = z) (hq : (ps.toList.map fun q => (q.1, (opd env q.2).core)) = qs)
  (hf : fillD (fun i => some (i * sz, sz)) (replD l z) qs = some cs) : Ef P (.buildSlice t l ps) env m nx ⟨cs.all D.one = true /\ l * sz <= 2 ^ 24 /\ slT P t = true /\ l <= maxLen, .rs nx 0 l, [(nx, some (.cells cs e))], [], 1⟩ :=
 ⟨by simp only [aop, rho, he, hs, hz, hq, hf, Option.map_some], rfl, rfl⟩
theorem e_func {f : Fn} {fs cs : Array Operand} {fd cd : List D} (hf : fs.toList.map (fun x => (opd env x).core) = fd) (hc : cs.toList.map (fun x => (opd env x).core) = cd) : Ef P (.makeFunc f fs cs) env m nx ⟨True, .fn f fd cd, [], [], 0⟩ := ⟨by simp only [aop, rho, hf, hc], rfl, rfl⟩
theorem e_map : Ef P (.makeMap t none) env m nx ⟨True, .mp nx, [(nx, some (.map []))], [], 1⟩ := ⟨by simp only [aop], rfl, rfl⟩
theorem e_makeSl {e : TypeId} {z : List D} (hx : (opd env x).core = .s (.int .i64 n)) (hy : (opd env y).core = .s (.int .i64 n')) (he : elemP P t = e) (hz : zeroP P e = z) :
  Ef P (.makeSlice t x y) env m nx ⟨0 <= n /\ n = n' /\ n <= 9223372036854775807 /\ P.bytesOf e * n <= 281474976710656 /\ slT P t = true, .rs nx 0 n.toNat, [(nx, some (.cells (replD n.toNat z) e))], [], 1⟩ := ⟨by simp only [aop, rho, hx, hy, he, hz], rfl, rfl⟩
theorem e_conv {src : TypeId} {k' : IntKind} (hx : (opd env x).core = .s (.int k n)) (hu : P.underlying t = some (.int k')) : Ef P (.convert src t x) env m nx ⟨tyOk P src = true, .s (.int k' (k'.wrap n)), [], [], 0⟩ := ⟨by simp only [aop, rho, hx, hu], rfl, rfl⟩
theorem e_bytes {src e : TypeId} {b : ByteArray} (hx : (opd env x).core = .s (.string b)) (hu : P.underlying t = some (.slice e)) (he : P.underlying e = some (.int .u8)) :
  Ef P (.convert src t x) env m nx ⟨stT P src = true /\ b.size <= maxLen, .sl (b.data.toList.map fun c => .s (.int .u8 c.toNat)) b.size, [], [], 0⟩ := ⟨by simp only [aop, rho, hx, hu, he], rfl, rfl⟩
def strBytes (b : ByteArray) : List Int := b.data.toList.map fun c => (c.toNat : Int)
theorem strBytes_length (b : ByteArray) : (strBytes b).length = b.size := by unfold strBytes; rw [List.length_map]; rfl
theorem e_bytesB {src e : TypeId} {b : ByteArray} (hx : (opd env x).core = .s (.string b)) (hu : P.underlying t = some (.slice e)) (he : P.underlying e = some (.int .u8)) :
  Ef P (.convert src t x) env m nx ⟨stT P src = true /\ b.size <= maxLen, .sl ((strBytes b).map fun n => .s (.int .u8 n)) (strBytes b).length, [], [], 0⟩ := by
 have := e_bytes (P := P) (env := env) (m := m) (nx := nx) (t := t) (src := src) hx hu he
 have h : (strBytes b).map (fun n => D.s (.int .u8 n)) = b.data.toList.map (fun c => D.s (.int .u8 c.toNat)) := by rw [strBytes, List.map_map]; rfl
 rw [strBytes_length, h]
 exact this
theorem e_slice {es es' : List D} {l : Nat} {lo hi : Option Operand} {a b : Int} {e : TypeId} {sz : Nat} (hx : (opd env x).core = .sl es l) (he : elemP P t = e) (hs : P.cellsOf e = sz)
  (ha : bndD (lo.map fun x => (opd env x).core) 0 = some a) (hb : bndD (hi.map fun x => (opd env x).core) l = some b) (hd : (es.drop (a.toNat * sz)).take ((b - a).toNat * sz) = es') :
  Ef P (.slice t x lo hi none) env m nx ⟨slT P t = true /\ 0 <= a /\ a <= b /\ b <= l, .sl es' (b - a).toNat, [], [], 0⟩ := by
 refine ⟨?_, rfl, rfl⟩
 show sliceD P m t (opd env x).core (lo.map fun x => (opd env x).core) (hi.map fun x => (opd env x).core) (Option.map (fun x => (opd env x).core) none) = _
 rw [hx]
 simp only [sliceD, Option.map_none, ha, hb, he, hs, hd]
theorem e_sliceR {i off l : Nat} {cs : List D} {lo hi : Option Operand} {a b : Int} {e : TypeId} {sz : Nat} (hx : (opd env x).core = .rs i off l) (hm : m i = some (.cells cs e)) (he : elemP P t = e) (hs : P.cellsOf e = sz)
  (ha : bndD (lo.map fun x => (opd env x).core) 0 = some a) (hb : bndD (hi.map fun x => (opd env x).core) l = some b) :
  Ef P (.slice t x lo hi none) env m nx ⟨(slT P t = true /\ sz = sz) /\ 0 <= a /\ a <= b /\ b <= l, .rs i (off + a.toNat * sz) (b - a).toNat, [], [i], 0⟩ := by
 refine ⟨?_, rfl, rfl⟩
 show sliceD P m t (opd env x).core (lo.map fun x => (opd env x).core) (hi.map fun x => (opd env x).core) (Option.map (fun x => (opd env x).core) none) = _
 rw [hx]
 simp only [sliceD, hm, Option.map_none, ha, hb, he, hs]
theorem e_lookup {i : Nat} {es : List (Value × D)} {key : Value} {ok : Bool} {kt : TypeId} (hx : (opd env x).core = .mp i) (hm : m i = some (.map es)) (hk : keyV (opd env y).core = some key) (ht : mkeyP P t = kt) (hg : gotD P t ok (lookD key es) = v) :
  Ef P (.lookup t x y ok) env m nx ⟨mapT P t = true /\ keyP P kt key = true /\ es.all (fun e => keyP P kt e.1) = true, v, [], [i], 0⟩ := by
 refine ⟨?_, rfl, rfl⟩
 show lookupD P m t (opd env x).core (opd env y).core ok = _
 simp only [lookupD, hk, hx, hm, ht, hg]
theorem e_lookupI {es : List (Value × D)} {key : Value} {ok : Bool} {kt : TypeId} (hx : (opd env x).core = .im es) (hk : keyV (opd env y).core = some key) (ht : mkeyP P t = kt) (hg : gotD P t ok (lookD key es) = v) :
  Ef P (.lookup t x y ok) env m nx ⟨mapT P t = true /\ keyP P kt key = true /\ es.all (fun e => keyP P kt e.1) = true, v, [], [], 0⟩ := by
 refine ⟨?_, rfl, rfl⟩
 show lookupD P m t (opd env x).core (opd env y).core ok = _
 simp only [lookupD, hk, hx, ht, hg]
theorem e_mput {i : Nat} {es : List (Value × D)} {key : Value} {z : Operand} {kt : TypeId} (hx : (opd env x).core = .mp i) (hm : m i = some (.map es)) (hk : keyV (opd env y).core = some key) (hz : (opd env z).core = v) (ht : mkeyP P t = kt) :
  Ef P (.mapUpdate t x y z) env m nx ⟨mapT P t = true /\ keyP P kt key = true /\ es.all (fun e => keyP P kt e.1) = true, .tup [], [(i, some (.map (putD key v es)))], [i], 0⟩ := by
 refine ⟨?_, rfl, rfl⟩
 show mapPutD P m t (opd env x).core (opd env y).core (opd env z).core = _
 simp only [mapPutD, hk, hx, hm, ht, hz]
end
theorem drop_map {α : Type} {f : α -> D} : ∀ {l : List α} {k : Nat} {x : α}, l[k]? = some x -> (l.map f).drop k = f x :: (l.drop (k + 1)).map f
 | [], k, x, h => by simp at h
 | a :: l, 0, x, h => by simp at h; subst h; rfl
 | a :: l, k + 1, x, h => by simpa using drop_map (f := f) (l := l) (k := k) (by simpa using h)
theorem drop_flat {α : Type} {f : α -> List D} {sz : Nat} (hs : ∀ x, (f x).length = sz) : ∀ {l : List α} {k : Nat} {x : α}, l[k]? = some x -> (l.flatMap f).drop (k * sz) = f x ++ (l.drop (k + 1)).flatMap f
 | [], k, x, h => by simp at h
 | a :: l, 0, x, h => by simp at h; subst h; simp
 | a :: l, k + 1, x, h => by
  have h1 : (k + 1) * sz = (f a).length + k * sz := by rw [hs]; rw [Nat.add_mul]; omega
  simp only [List.flatMap_cons, h1, List.drop_append, List.drop_succ_cons]
  rw [List.drop_of_length_le oG]
  have : (f a).length + k * sz - (f a).length = k * sz := by omega
  rw [this]
  simpa using drop_flat hs (l := l) (k := k) (by simpa using h)
theorem flat_length {α : Type} {f : α -> List D} {sz : Nat} (hs : ∀ x, (f x).length = sz) : ∀ (l : List α), (l.flatMap f).length = l.length * sz
 | [] => by simp
 | a :: l => by simp only [List.flatMap_cons, List.length_append, hs, flat_length hs l, List.length_cons, Nat.add_mul]; omega
section
variable {P : Program} {env : Env} {m : Mem} {nx : Nat} {t e : TypeId} {x y : Operand} {k : IntKind}
theorem e_idx1 {α : Type} {f : α -> D} {l : List α} {i n : Nat} {z : α} (hx : (opd env x).core = .sl (l.map f) n) (hy : (opd env y).core = .s (.int k i)) (he : elemP P t = e) (hs : P.cellsOf e = 1) (hz : l[i]? = some z) :
  Ef P (.indexAddr t x y) env m nx ⟨slT P t = true /\ 0 <= (i : Int) /\ (i : Int) < n /\ ((i : Int).toNat + 1) * 1 <= (l.map f).length, .pt (f z :: (l.drop (i + 1)).map f), [], [], 0⟩ :=
 e_idx hx hy he hs (by rw [Int.toNat_natCast, Nat.mul_one]; exact drop_map hz)
theorem p_idx1 {α : Type} {f : α -> D} {l : List α} {i : Nat} {z : α} (ht : slT P t = true) (hz : l[i]? = some z) : slT P t = true /\ 0 <= (i : Int) /\ (i : Int) < l.length /\ ((i : Int).toNat + 1) * 1 <= (l.map f).length := by
 have := (List.getElem?_eq_some_iff.1 hz).1
 exact ⟨ht, by omega, by omega, by simp; omega⟩
theorem e_idxF {α : Type} {f : α -> List D} {sz : Nat} {l : List α} {i n : Nat} {z : α} (hx : (opd env x).core = .sl (l.flatMap f) n) (hy : (opd env y).core = .s (.int k i)) (he : elemP P t = e) (hs : P.cellsOf e = sz) (hl : ∀ x, (f x).length = sz) (hz : l[i]? = some z) :
  Ef P (.indexAddr t x y) env m nx ⟨slT P t = true /\ 0 <= (i : Int) /\ (i : Int) < n /\ ((i : Int).toNat + 1) * sz <= (l.flatMap f).length, .pt (f z ++ (l.drop (i + 1)).flatMap f), [], [], 0⟩ :=
 e_idx hx hy he hs (by rw [Int.toNat_natCast]; exact drop_flat hl hz)
theorem p_idxF {α : Type} {f : α -> List D} {sz : Nat} {l : List α} {i : Nat} {z : α} (ht : slT P t = true) (hl : ∀ x, (f x).length = sz) (hz : l[i]? = some z) : slT P t = true /\ 0 <= (i : Int) /\ (i : Int) < l.length /\ ((i : Int).toNat + 1) * sz <= (l.flatMap f).length := by
 have := (List.getElem?_eq_some_iff.1 hz).1
 refine ⟨ht, by omega, by omega, ?_⟩
 rw [flat_length hl, Int.toNat_natCast]
 exact Nat.mul_le_mul_right _ this
theorem p_load {v : D} {cs : List D} (ht : tyOk P t = true) (hc : P.cellsOf t = 1) : tyOk P t = true /\ P.cellsOf t <= (v :: cs).length := ⟨ht, by rw [hc]; simp⟩
theorem p_loadR {v : D} {cs cs' : List D} {off : Nat} (ht : tyOk P t = true) (hc : P.cellsOf t = 1) (hd : cs.drop off = v :: cs') : tyOk P t = true /\ off + P.cellsOf t <= cs.length := by
 refine ⟨ht, ?_⟩
 have : (cs.drop off).length = cs'.length + 1 := by rw [hd]; rfl
 rw [List.length_drop] at this
 omega
theorem p_loadA {n : Nat} {cs : List D} (ht : tyOk P t = true) (hc : P.cellsOf t = n) (hl : n <= cs.length) : tyOk P t = true /\ P.cellsOf t <= cs.length := ⟨ht, by rw [hc]; exact hl⟩
theorem p_loadRA {n off : Nat} {cs : List D} (ht : tyOk P t = true) (hc : P.cellsOf t = n) (hl : off + n <= cs.length) : tyOk P t = true /\ off + P.cellsOf t <= cs.length := ⟨ht, by rw [hc]; exact hl⟩
theorem p_pos {n : Nat} (hc : P.cellsOf t = n + 1) : 0 < P.cellsOf t := by omega
theorem p_store {n off : Nat} {cs vs : List D} (ht : tyOk P t = true) (hc : P.cellsOf t = n) (hv : vs.length = n /\ off + n <= cs.length) (ho : vs.all D.one = true) : tyOk P t = true /\ vs.length = P.cellsOf t /\ off + P.cellsOf t <= cs.length /\ vs.all D.one = true :=
 ⟨ht, by rw [hc]; exact hv.1, by rw [hc]; exact hv.2, ho⟩
end
section
variable {P : Program} {K : D -> St -> Prop} {st : St}
theorem q_ret0 (h : K (.tup []) st) : retQ P [] K .ret st := h
theorem q_end0 (h : K (.tup []) st) : retQ P [] K .normal st := h
theorem q_ret1 {t : Nat} {d : D} (hd : st.env t = d) (h : K d st) : retQ P [.tmp t] K .ret st := ⟨trivial, by subst hd; exact h⟩
theorem q_ret2 {t u : Nat} {d e : D} (hd : st.env t = d) (he : st.env u = e) (h : K (.tup [d, e]) st) : retQ P [.tmp t, .tmp u] K .ret st := ⟨trivial, trivial, by subst hd; subst he; exact h⟩
theorem resD_cellA {a i off n : Nat} {ty e : TypeId} {cs vs : List D} (ha : st.env a = .rp i off) (hm : st.mem i = some (.cells cs e)) (hg : aggP P ty = true) (hc : P.cellsOf ty = n) (hv : (cs.drop off).take n = vs) (ht : tyOk P ty = true) (hl : off + n <= cs.length) :
  ∃ p, resD P st (.cell a ty) = some (p, .agg vs) /\ p := ⟨tyOk P ty = true /\ off + n <= cs.length, by simp only [resD, ha, hm, takeV, hg, if_true, hc, hv], ht, hl⟩
theorem q_cell {a : Nat} {ty : TypeId} {d : D} (hr : ∃ p, resD P st (.cell a ty) = some (p, d) /\ p) (h : K d st) : retQ P [.cell a ty] K .ret st := by
 obtain ⟨p, h1, h2⟩ := hr
 simp only [retQ, retL, h1]
 exact ⟨h2, h⟩
theorem q_cell_tmp {a t : Nat} {ty : TypeId} {d e : D} (hr : ∃ p, resD P st (.cell a ty) = some (p, d) /\ p) (he : st.env t = e) (h : K (.tup [d, e]) st) : retQ P [.cell a ty, .tmp t] K .ret st := by
 obtain ⟨p, h1, h2⟩ := hr
 simp only [retQ, retL, h1]
 exact ⟨h2, trivial, by subst he; exact h⟩
end
end Go.Abs
end
section
namespace Go.Abs
section
variable {P : Program} {Y : YSpec} {rf : Bool} {Q : Exit -> St -> Prop} {st : St}
theorem ghost_of {l : List (Nat × D)} {env : Env} {m : Mem} {nx : Nat} (h : EnvHas l env) : Ghost P ⟨env, m, nx⟩ ⟨envL l, m, nx⟩ := .forget env _ m nx (envL_of h)
def FrOk (P : Program) : List (Nat × List D × TypeId) -> Mem -> Prop
 | [], _ => True
 | (i, cs, e) :: fs, m => m i = some (.cells cs e) /\ FrOk P fs (fun j => if j = i then none else (m j).map (Row.sub (fz0 i cs (P.cellsOf e))))
def frE (P : Program) : List (Nat × List D × TypeId) -> D -> D
 | [], d => d
 | (i, cs, e) :: fs, d => frE P fs (sub (fz0 i cs (P.cellsOf e)) d)
theorem ghost_frs : ∀ {fs : List (Nat × List D × TypeId)} {env : Env} {m : Mem} {nx : Nat}, FrOk P fs m -> ∃ m', Ghost P ⟨env, m, nx⟩ ⟨fun t => frE P fs (env t), m', nx⟩
 | [], env, m, nx, _ => ⟨m, .refl _⟩
 | (i, cs, e) :: fs, env, m, nx, ⟨h1, h2⟩ => by
  obtain ⟨m', h⟩ := ghost_frs (env := fun t => sub (fz0 i cs (P.cellsOf e)) (env t)) (nx := nx) h2
  exact ⟨m', (Ghost.freeze env m nx i cs e h1).trans h⟩
theorem ghost_fr {env : Env} {m : Mem} {nx : Nat} (fs : List (Nat × List D × TypeId)) (hf : FrOk P fs m) {l : List (Nat × D)} (hl : EnvHas l fun t => frE P fs (env t)) : Ghost P ⟨env, m, nx⟩ ⟨envL l, fun _ => none, nx⟩ := by
 obtain ⟨m', h⟩ := ghost_frs (env := env) (nx := nx) hf
 exact h.trans ((Ghost.forget _ _ _ _ (envL_of hl)).trans (Ghost.drop _ _ _ _ fun _ => .inr rfl))
def bodyQ (id2 id : Nat) (next : St -> Prop) (Q : Exit -> St -> Prop) : Exit -> St -> Prop
 | .normal, s => next s
 | .exit i, s => if i = id2 then next s else if i = id then Q .normal s else Q (.exit i) s
 | e, s => Q e s
def NextS (P : Program) {α : Type} (S : α -> St) (J : α -> Prop) (μ : α -> Nat) (x : α) (s : St) : Prop := ∃ x', Ghost P s (S x') /\ J x' /\ μ x' < μ x
theorem next_of {α : Type} {S : α -> St} {J : α -> Prop} {μ : α -> Nat} {x : α} {s : St} (x' : α) (hg : Ghost P s (S x')) (hJ : J x') (hμ : μ x' < μ x) : NextS P S J μ x s := ⟨x', hg, hJ, hμ⟩
theorem w_loopS [YMono Y] {b : Code} {α : Type} (S : α -> St) (J : α -> Prop) (μ : α -> Nat) (x₀ : α) (hg : Ghost P st (S x₀)) (hJ : J x₀) (h : ∀ x, J x -> AW P Y rf b (seqQ (NextS P S J μ x) Q) (S x)) {a : Code} (ha : ∀ st, Q .normal st -> Q .normal st) :
  ∃ st', Ghost P st st' /\ AW P Y rf (.loop b) Q st' :=
 ⟨S x₀, hg, w_loopJ S J μ x₀ rfl hJ fun x hx => AW_mono b (fun e st' hq => by
  cases e with
  | normal =>
   obtain ⟨x', h1, h2, h3⟩ := hq
   exact ⟨S x', x', h1, rfl, h2, h3⟩
  | _ => exact hq) (h x hx)⟩
variable {id id2 t i1 i2 i3 i4 : Nat} {rc ri : Array Oper} {body rest : Code} {α : Type}
theorem body_of [YMono Y] {ri : Array Oper} {next : St -> Prop} {s : St} (h : AW P Y rf body (bodyQ id2 id (fun s => AOps P Y ri false [] (endQ next) ri.toList s []) Q) s) :
  AW P Y rf (.seq (.block id2 body) (.region i3 ri false)) (seqQ next (blockQ id Q)) s := by
 refine AW_mono body (fun e s h => ?_) h
 have hr : ∀ s, AOps P Y ri false [] (endQ next) ri.toList s [] -> ∃ s', Ghost P s s' /\ AW P Y rf (.region i3 ri false) (seqQ next (blockQ id Q)) s' := fun s h => ⟨s, .refl s, w_region (rf := rf) (id := i3) (AOps.endq h fun _ h => h)⟩
 cases e with
 | normal => exact hr s h
 | exit i =>
  simp only [bodyQ] at h
  simp only [blockQ]
  split at h
  ·rename_i hi; rw [if_pos hi]; exact hr s h
  ·rename_i hi; rw [if_neg hi]; simp only [seqQ, blockQ]; exact h
 | _ => exact h
theorem w_range [YMono Y] (S : α -> St) (J : α -> Prop) (μ : α -> Nat) (x₀ : α) (hg : Ghost P st (S x₀)) (hJ : J x₀)
  (h : ∀ x, J x -> AOps P Y rc false [] (endQ fun s => ∃ g, opd s.env (.tmp t) = .s (.bool g) /\ (g = true -> AW P Y rf body (bodyQ id2 id (fun s => AOps P Y ri false [] (endQ (NextS P S J μ x)) ri.toList s []) Q) s) /\ (g = false -> Q .normal s)) rc.toList (S x) []) :
  ∃ st', Ghost P st st' /\ AW P Y rf (.block id (.loop (.seq (.region i1 rc false) (.seq (.cond (.tmp t) .skip (.exit id)) (.seq (.block id2 body) (.region i3 ri false)))))) Q st' := by
 refine w_loopS (Q := blockQ id Q) S J μ x₀ hg hJ (fun x hx => ?_) (a := .skip) fun _ h => h
 refine w_region (rf := rf) (id := i1) (AOps.endq (h x hx) fun s hs => ?_)
 obtain ⟨g, h1, h2, h3⟩ := hs
 refine ⟨s, .refl s, w_seq_if h1 (fun hgt => ?_) fun hgf => ?_⟩
 ·exact w_seq_skip (body_of (h2 hgt))
 ·refine w_seq_exit ?_
  simp only [seqQ, blockQ, if_true]
  exact h3 hgf
theorem w_for [YMono Y] (S : α -> St) (J : α -> Prop) (μ : α -> Nat) (x₀ : α) (hg : Ghost P st (S x₀)) (hJ : J x₀)
  (h : ∀ x, J x -> AOps P Y rc false [] (endQ fun s => ∃ g, opd s.env (.tmp t) = .s (.bool g) /\ (g = true -> AW P Y rf body (bodyQ id2 id (fun s => AOps P Y ri false [] (endQ (NextS P S J μ x)) ri.toList s []) Q) s) /\ (g = false -> Q .normal s)) rc.toList (S x) []) :
  ∃ st', Ghost P st st' /\ AW P Y rf (.block id (.loop (.seq (.seq (.region i1 rc false) (.cond (.tmp t) .skip (.exit id))) (.seq (.block id2 body) (.region i3 ri false))))) Q st' := by
 refine w_loopS (Q := blockQ id Q) S J μ x₀ hg hJ (fun x hx => ?_) (a := .skip) fun _ h => h
 refine w_assoc (w_region (rf := rf) (id := i1) (AOps.endq (h x hx) fun s hs => ?_))
 obtain ⟨g, h1, h2, h3⟩ := hs
 refine ⟨s, .refl s, w_seq_if h1 (fun hgt => ?_) fun hgf => ?_⟩
 ·exact w_seq_skip (body_of (h2 hgt))
 ·refine w_seq_exit ?_
  simp only [seqQ, blockQ, if_true]
  exact h3 hgf
theorem block_of [YMono Y] {next : St -> Prop} {s : St} (h : AW P Y rf body (bodyQ id2 id next Q) s) : AW P Y rf (.block id2 body) (seqQ next (blockQ id Q)) s := by
 refine AW_mono body (fun e s h => ?_) h
 cases e with
 | exit i =>
  simp only [bodyQ] at h
  simp only [blockQ]
  split at h
  ·rename_i hi; rw [if_pos hi]; exact h
  ·rename_i hi; rw [if_neg hi]; simp only [seqQ, blockQ]; exact h
 | _ => exact h
theorem w_while [YMono Y] (S : α -> St) (J : α -> Prop) (μ : α -> Nat) (x₀ : α) (hg : Ghost P st (S x₀)) (hJ : J x₀)
  (h : ∀ x, J x -> AOps P Y rc false [] (endQ fun s => ∃ g, opd s.env (.tmp t) = .s (.bool g) /\ (g = true -> AW P Y rf body (bodyQ id2 id (NextS P S J μ x) Q) s) /\ (g = false -> Q .normal s)) rc.toList (S x) []) :
  ∃ st', Ghost P st st' /\ AW P Y rf (.block id (.loop (.seq (.seq (.region i1 rc false) (.cond (.tmp t) .skip (.exit id))) (.block id2 body)))) Q st' := by
 refine w_loopS (Q := blockQ id Q) S J μ x₀ hg hJ (fun x hx => ?_) (a := .skip) fun _ h => h
 refine w_assoc (w_region (rf := rf) (id := i1) (AOps.endq (h x hx) fun s hs => ?_))
 obtain ⟨g, h1, h2, h3⟩ := hs
 refine ⟨s, .refl s, w_seq_if h1 (fun hgt => ?_) fun hgf => ?_⟩
 ·exact w_seq_skip (block_of (h2 hgt))
 ·refine w_seq_exit ?_
  simp only [seqQ, blockQ, if_true]
  exact h3 hgf
theorem w_end {s : St} (h : Q .normal s) : AW P Y rf .skip Q s := h
theorem w_ret {s : St} (h : Q .ret s) : AW P Y rf .ret Q s := h
theorem j_body {next : St -> Prop} {s : St} (h : Q .ret s) : bodyQ id2 id next Q .ret s := h
theorem j_seq {K : St -> Prop} {s : St} (h : Q .ret s) : seqQ K Q .ret s := h
theorem j_block {s : St} (h : Q .ret s) : blockQ id Q .ret s := h
theorem j_scope {s : St} (h : Q .ret s) : scopeQ Q .ret s := h
theorem j_next {next : St -> Prop} {s : St} (h : next s) : bodyQ id2 id next Q (.exit id2) s := by simp only [bodyQ, if_true]; exact h
theorem j_out {i : Nat} {next : St -> Prop} {s : St} (h2 : i ≠ id2) (h1 : i ≠ id) (h : Q (.exit i) s) : bodyQ id2 id next Q (.exit i) s := by simp only [bodyQ, if_neg h2, if_neg h1]; exact h
theorem w_seq_blk [YMono Y] {a : Code} (h : AW P Y rf a (blockQ id (seqQ (fun st => AW P Y rf rest Q st) Q)) st) : AW P Y rf (.seq (.block id a) rest) Q st := w_cut (fun st => AW P Y rf rest Q st) (w_block h) fun _ h => h
theorem w_endB {s : St} (h : AW P Y rf rest Q s) : AW P Y rf .skip (blockQ id (seqQ (fun st => AW P Y rf rest Q st) Q)) s := h
theorem w_seqN [YMono Y] {a : Code} (h : AW P Y rf a (seqQ (fun st => AW P Y rf rest Q st) Q) st) : AW P Y rf (.seq a rest) Q st := w_cut _ h fun _ h => h
theorem w_regJ [YMono Y] {r : Array Oper} {i : Nat} {J : St -> Prop} (h : AOps P Y r false [] (endQ J) r.toList st []) : AW P Y rf (.region i r false) (seqQ J Q) st := w_region (rf := rf) (id := i) (AOps.endq h fun _ h => h)
theorem w_regBJ [YMono Y] {r : Array Oper} {i : Nat} {J : St -> Prop} (h : AOps P Y r false [] (endQ J) r.toList st []) : AW P Y rf (.region i r false) (blockQ id (seqQ J Q)) st := w_region (rf := rf) (id := i) (AOps.endq h fun _ h => h)
theorem w_skipJ {J : St -> Prop} (h : J st) : AW P Y rf .skip (seqQ J Q) st := h
theorem w_skipBJ {J : St -> Prop} (h : J st) : AW P Y rf .skip (blockQ id (seqQ J Q)) st := h
theorem w_then [YMono Y] {a : Code} (R : St -> Prop) (h : ∃ st', Ghost P st st' /\ AW P Y rf a (seqQ R Q) st') (k : ∀ s, R s -> ∃ s', Ghost P s s' /\ AW P Y rf rest Q s') : ∃ st', Ghost P st st' /\ AW P Y rf (.seq a rest) Q st' := by
 obtain ⟨st', hg, h⟩ := h
 exact ⟨st', hg, w_cut_g R h k⟩
end
def Real (d : D) : Prop := ∃ F β w v, R F β w d v
theorem Real.sl {es : List D} {n : Nat} (h : Real (.sl es n)) : n <= maxLen /\ ∀ d ∈ es, Real d := by
 obtain ⟨F, β, w, v, h⟩ := h
 cases h with
 | sln => simp [maxLen]
 | sl _ _ b o cap us hf hb hlt hcap hmax hc hh =>
  refine ⟨Nat.le_trans hcap hmax, fun d hd => ?_⟩
  obtain ⟨k, hk⟩ := List.getElem?_of_mem hd
  exact ⟨F, β, w, _, hh k d hk⟩
theorem Real.agg {cs : List D} (h : Real (.agg cs)) : ∀ d ∈ cs, Real d := by
 obtain ⟨F, β, w, v, h⟩ := h
 obtain ⟨vs, rfl, hl, hh⟩ := h.agg_inv
 intro d hd
 obtain ⟨k, hk⟩ := List.getElem?_of_mem hd
 have : k < vs.length := by rw [hl]; exact (List.getElem?_eq_some_iff.1 hk).1
 exact ⟨F, β, w, _, hh k d vs[k] hk (by simp [this])⟩
theorem Real.pt {cs : List D} (h : Real (.pt cs)) : ∀ d ∈ cs, Real d := by
 obtain ⟨F, β, w, v, h⟩ := h
 cases h with
 | pt _ b o us hf hb hlt hc hh =>
  intro d hd
  obtain ⟨k, hk⟩ := List.getElem?_of_mem hd
  exact ⟨F, β, w, _, hh k d hk⟩
theorem Real.fn {f : Fn} {fs cs : List D} (h : Real (.fn f fs cs)) : (∀ d ∈ fs, Real d) /\ ∀ d ∈ cs, Real d := by
 obtain ⟨F, β, w, v, h⟩ := h
 cases h with
 | fn _ _ _ us vs hl hl' h1 h2 =>
  refine ⟨fun d hd => ?_, fun d hd => ?_⟩
  ·obtain ⟨k, hk⟩ := List.getElem?_of_mem hd
   have : k < us.length := by rw [hl]; exact (List.getElem?_eq_some_iff.1 hk).1
   exact ⟨F, β, w, _, h1 k d us[k] hk (by simp [this])⟩
  ·obtain ⟨k, hk⟩ := List.getElem?_of_mem hd
   have : k < vs.length := by rw [hl']; exact (List.getElem?_eq_some_iff.1 hk).1
   exact ⟨F, β, w, _, h2 k d vs[k] hk (by simp [this])⟩
theorem rs_real {F : Nat -> Prop} {β : Pla} {w : World} {args : List D} {vs : Array Value} (h : Rs F β w args vs) : ∀ a ∈ args, Real a := fun a ha => by
 obtain ⟨k, hk⟩ := List.getElem?_of_mem ha
 have : k < vs.size := by rw [h.1]; exact (List.getElem?_eq_some_iff.1 hk).1
 exact ⟨F, β, w, vs[k], h.2 k a _ hk (by simp [this])⟩
theorem pcall_real {P : Program} {f : FuncId} {args : List D} {r : D} (he : enterOk P f = true) (ht : ∀ a ∈ args, Tr a) (h : (∀ a ∈ args, Real a) -> PCall P f args r) : PCall P f args r :=
 ⟨he, ht, fun F w vs hF hR => (h (rs_real hR)).2.2 F w vs hF hR⟩
end Go.Abs
end
section
namespace Go.Abs
section
variable {P : Program} {m : Mem} {rds : List Nat}
theorem sn_tr {a : D} (h : Tr a) : Sn P rds m a a := fun _ _ _ _ _ hv => h.clean hv
theorem sn_rs {i off n : Nat} {cs es : List D} {e : TypeId} (hm : m i = some (.cells cs e)) (hi : i ∈ rds) (hes : (cs.drop off).take (n * P.cellsOf e) = es) (ht : ∀ a ∈ es, Tr a) : Sn P rds m (.rs i off n) (.sl es n) := fun F β w v hl hv => by
 subst hes
 obtain ⟨p, hp, hr, hnf⟩ := hl i hi _ hm
 cases hv with
 | rsd _ _ _ _ h1 _ => rw [h1] at hp; cases hp; cases hr
 | rsn _ a h1 =>
  rw [h1] at hp
  cases hp
  cases hr
  simp only [List.drop_nil, List.take_nil]
  exact .sln a 0
 | rsz _ _ a b o len room sz h1 =>
  simp only [Nat.zero_mul, List.take_zero]
  exact .sln a 0
 | rs _ _ _ cap b o len room sz h1 hn hmax h2 h3 =>
  rw [h1] at hp
  cases hp
  have hlt : b < w.heap.size := by
   cases hr with
   | cells _ _ _ _ _ _ c hb _ _ _ _ => exact (Array.getElem?_eq_some_iff.1 hb).1
  obtain ⟨hrd, hl, hsz, _⟩ := hr.rd
  obtain ⟨us, u1, u2⟩ := (hrd.drop off).take (n * P.cellsOf e)
  exact .sl _ n b (o + off) cap us (hnf b rfl) (fun k q hq => by cases hq) hlt hn hmax u1 fun k d hk => (ht d (List.mem_of_getElem? hk)).clean (u2 k d hk)
theorem sn_rp {i off : Nat} {cs es : List D} {e : TypeId} (hm : m i = some (.cells cs e)) (hi : i ∈ rds) (hes : cs.drop off = es) (ht : ∀ a ∈ es, Tr a) : Sn P rds m (.rp i off) (.pt es) := fun F β w v hl hv => by
 subst hes
 obtain ⟨p, hp, hr, hnf⟩ := hl i hi _ hm
 cases hv with
 | rpd _ _ _ h1 _ => rw [h1] at hp; cases hp; cases hr
 | rp _ _ b o len room sz h1 =>
  rw [h1] at hp
  cases hp
  have hlt : b < w.heap.size := by
   cases hr with
   | cells _ _ _ _ _ _ c hb _ _ _ _ => exact (Array.getElem?_eq_some_iff.1 hb).1
  obtain ⟨hrd, hl, hsz, _⟩ := hr.rd
  obtain ⟨us, u1, u2⟩ := hrd.drop off
  exact .pt _ b (o + off) us (hnf b rfl) (fun k q hq => by cases hq) hlt u1 fun k d hk => (ht d (List.mem_of_getElem? hk)).clean (u2 k d hk)
variable {Y : YSpec} {rf : Bool} {ops : Array Oper} {dr : Bool} {cf : List (Nat × Nat)} {Q : Exit -> St -> Prop} {rest : List Oper} {env : Env} {nx : Nat} {tr : Tra} {t : Nat} {op : Op} {ty : TypeId} {pos : String} {after : Array Edge}
 {pre : Prop} {v : D} {rd : List Nat}
theorem ao_gta {j : Nat} {b : Bool} {u : Nat} {row : Row} (hj : (ops[j]?).bind (·.dst) = some u) (hg : guardC (env u) b = some true) (he : Ef P op env m nx ⟨pre, v, [(nx, some row)], rd, 1⟩) (ha : AskL env op.operands.toList) (hp : pre)
  (K : AOps P Y ops dr cf Q rest ⟨up env t v, up m nx (some row), nx + 1⟩ (tr ++ [(rd, [nx])])) : AOps P Y ops dr cf Q (⟨some t, op, ty, pos, after, some (j, b)⟩ :: rest) ⟨env, m, nx⟩ tr :=
 ao_gt hj hg he ha hp (fun h => by cases h) K
theorem ao_gsc {j : Nat} {b : Bool} {u : Nat} {f : FuncId} {args args' : List D} {r : D} {rds : List Nat} (h : PCall P f args' r) (hs : r.scal = true) (hj : (ops[j]?).bind (·.dst) = some u) (hg : guardC (env u) b = some true) (hc : callD (rho env op) op = some (f, args)) (hsn : Sns P rds m args args') (ha : AskL env op.operands.toList)
  (K : AOps P Y ops dr cf Q rest ⟨up env t r, m, nx⟩ (tr ++ [(rds, [])])) : AOps P Y ops dr cf Q (⟨some t, op, ty, pos, after, some (j, b)⟩ :: rest) ⟨env, m, nx⟩ tr :=
 ao_gcall hj hg hc ha (.inr (.inl ⟨args', rds, r, hsn, h, hs, K⟩))
end
end Go.Abs
namespace Go.Abs
section
variable {P : Program} {Y : YSpec} {rf : Bool} {ops : Array Oper} {dr : Bool} {cf : List (Nat × Nat)} {Q : Exit -> St -> Prop} {rest : List Oper} {env : Env} {m : Mem} {nx : Nat} {tr : Tra} {t : Nat} {ty : TypeId} {pos : String} {after : Array Edge}
theorem ao_gpickT {j : Nat} {b0 c0 : Bool} {u : Nat} (hj : (ops[j]?).bind (·.dst) = some u) (hg : guardC (env u) b0 = some c0) {c a b : Operand} {x : Bool} (hc : (opd env c).core = .s (.bool true)) (ha : (opd env a).core = .s (.bool x))
  (h0 : c0 = true -> (opd env c).ask) (h1 : c0 = true -> (opd env a).ask) (K : AOps P Y ops dr cf Q rest ⟨up env t (.opt c0 (.s (.bool x))), m, nx⟩ (tr ++ [([], [])])) :
  AOps P Y ops dr cf Q (⟨some t, .pick c a b, ty, pos, after, some (j, b0)⟩ :: rest) ⟨env, m, nx⟩ tr := by
 have he := pick_ef (P := P) (env := env) (m := m) (nx := nx) (a := a) (b := b) hc
 simp only [ha, D.bool?, Option.getD_some, if_true] at he
 simp only [AOps, AOp]
 rw [hj]
 simp only [Option.bind_some]
 rw [hg, he.nc, he.ny, he.ok]
 exact ⟨fun hc => ⟨by simp only [asks]; exact h0 hc, fun _ => ⟨h1 hc, rfl⟩, fun h => by cases h⟩, K⟩
theorem ao_gpickF {j : Nat} {b0 c0 : Bool} {u : Nat} (hj : (ops[j]?).bind (·.dst) = some u) (hg : guardC (env u) b0 = some c0) {c a b : Operand} {y : Bool} (hc : (opd env c).core = .s (.bool false)) (hb : (opd env b).core = .s (.bool y))
  (h0 : c0 = true -> (opd env c).ask) (h1 : c0 = true -> (opd env b).ask) (K : AOps P Y ops dr cf Q rest ⟨up env t (.opt c0 (.s (.bool y))), m, nx⟩ (tr ++ [([], [])])) :
  AOps P Y ops dr cf Q (⟨some t, .pick c a b, ty, pos, after, some (j, b0)⟩ :: rest) ⟨env, m, nx⟩ tr := by
 have he := pick_ef (P := P) (env := env) (m := m) (nx := nx) (a := a) (b := b) hc
 simp only [hb, D.bool?, Option.getD_some, Bool.false_eq_true, if_false] at he
 simp only [AOps, AOp]
 rw [hj]
 simp only [Option.bind_some]
 rw [hg, he.nc, he.ny, he.ok]
 exact ⟨fun hc => ⟨by simp only [asks]; exact h0 hc, fun h => (by cases h), fun _ => ⟨h1 hc, rfl⟩⟩, K⟩
variable {id : Nat} {st : St}
theorem w_regBJd [YMono Y] {i : Nat} {J : St -> Prop} (hi : drawInfo ops = some cf) (h : AOps P Y ops true cf (endQ J) ops.toList st []) : AW P Y rf (.region i ops true) (blockQ id (seqQ J Q)) st := w_draw (rf := rf) (id := i) hi (AOps.endq h fun _ h => h)
theorem mem_keep {r : Option Row} {i : Nat} (h : m i = r) : ∀ j, up (fun _ => none) i r j = m j \/ up (fun _ => none) i r j = none := fun j => by
 by_cases hj : j = i
 ·subst hj; left; rw [up_same, h]
 ·right; rw [up_ne _ _ hj]
theorem w_drawB [YMono Y] {i id2 : Nat} {next : St -> Prop} (hi : drawInfo ops = some cf) (h : AOps P Y ops true cf (endQ next) ops.toList st []) : AW P Y rf (.region i ops true) (bodyQ id2 id next Q) st := w_draw (rf := rf) (id := i) hi (AOps.endq h fun _ h => h)
theorem w_regB2 [YMono Y] {i id2 : Nat} {next : St -> Prop} (h : AOps P Y ops false [] (endQ next) ops.toList st []) : AW P Y rf (.region i ops false) (bodyQ id2 id next Q) st := w_region (rf := rf) (id := i) (AOps.endq h fun _ h => h)
def memL : List (Nat × Row) -> Mem
 | [], _ => none
 | (i, r) :: l, j => if j = i then some r else memL l j
def MemHas : List (Nat × Row) -> Mem -> Prop
 | [], _ => True
 | (i, r) :: l, m => m i = some r /\ MemHas l m
theorem memL_of : ∀ {l : List (Nat × Row)} {m : Mem}, MemHas l m -> ∀ i, memL l i = m i \/ memL l i = none
 | [], _, _, _ => .inr rfl
 | (k, r) :: l, m, h, i => by
  simp only [memL]
  by_cases hi : i = k
  ·subst hi; rw [if_pos rfl]; exact .inl h.1.symm
  ·rw [if_neg hi]; exact memL_of h.2 i
theorem ghost_st {l : List (Nat × D)} {ml : List (Nat × Row)} {m : Mem} {nx : Nat} (h : EnvHas l env) (hm : MemHas ml m) : Ghost P ⟨env, m, nx⟩ ⟨envL l, memL ml, nx⟩ := (Ghost.forget env _ m nx (envL_of h)).trans (.drop _ _ _ _ (memL_of hm))
end
end Go.Abs
end
section
namespace Go.Proofs.Tryz.K
open Go.Abs
theorem c1 : prog.cellsOf 1 = 1 := by kernel_rfl
theorem a1 : aggP prog 1 = false := by kernel_rfl
theorem t1 : tyOk prog 1 = true := by kernel_rfl
theorem b1 : prog.bytesOf 1 = 8 := by kernel_rfl
theorem c2 : prog.cellsOf 2 = 1 := by kernel_rfl
theorem b2 : prog.bytesOf 2 = 8 := by kernel_rfl
theorem a2 : aggP prog 2 = false := by kernel_rfl
theorem t2 : tyOk prog 2 = true := by kernel_rfl
theorem c3 : prog.cellsOf 3 = 1 := by kernel_rfl
theorem b3 : prog.bytesOf 3 = 8 := by kernel_rfl
theorem a3 : aggP prog 3 = false := by kernel_rfl
theorem t3 : tyOk prog 3 = true := by kernel_rfl
theorem z3 : zeroP prog 3 = [.s (.int .i64 0)] := by kernel_rfl
theorem c4 : prog.cellsOf 4 = 1 := by kernel_rfl
theorem b4 : prog.bytesOf 4 = 1 := by kernel_rfl
theorem a4 : aggP prog 4 = false := by kernel_rfl
theorem t4 : tyOk prog 4 = true := by kernel_rfl
theorem z4 : zeroP prog 4 = [.s (.bool false)] := by kernel_rfl
theorem bo4 : boT prog 4 = true := by kernel_rfl
theorem c5 : prog.cellsOf 5 = 1 := by kernel_rfl
theorem b5 : prog.bytesOf 5 = 1 := by kernel_rfl
theorem a5 : aggP prog 5 = false := by kernel_rfl
theorem t5 : tyOk prog 5 = true := by kernel_rfl
theorem z5 : zeroP prog 5 = [.s (.int .u8 0)] := by kernel_rfl
theorem b6 : prog.bytesOf 6 = 1 := by kernel_rfl
theorem a6 : aggP prog 6 = false := by kernel_rfl
theorem c9 : prog.cellsOf 9 = 1 := by kernel_rfl
theorem a9 : aggP prog 9 = false := by kernel_rfl
theorem t9 : tyOk prog 9 = true := by kernel_rfl
theorem st9 : stT prog 9 = true := by kernel_rfl
theorem e15 : elemP prog 15 = 275 := by kernel_rfl
theorem e16 : elemP prog 16 = 278 := by kernel_rfl
theorem e17 : elemP prog 17 = 287 := by kernel_rfl
theorem c22 : prog.cellsOf 22 = 1 := by kernel_rfl
theorem a22 : aggP prog 22 = false := by kernel_rfl
theorem t22 : tyOk prog 22 = true := by kernel_rfl
theorem e22 : elemP prog 22 = 5 := by kernel_rfl
theorem sl22 : slT prog 22 = true := by kernel_rfl
theorem c23 : prog.cellsOf 23 = 1 := by kernel_rfl
theorem a23 : aggP prog 23 = false := by kernel_rfl
theorem t23 : tyOk prog 23 = true := by kernel_rfl
theorem e23 : elemP prog 23 = 9 := by kernel_rfl
theorem sl23 : slT prog 23 = true := by kernel_rfl
theorem c24 : prog.cellsOf 24 = 1 := by kernel_rfl
theorem a24 : aggP prog 24 = false := by kernel_rfl
theorem t24 : tyOk prog 24 = true := by kernel_rfl
theorem e24 : elemP prog 24 = 72 := by kernel_rfl
theorem sl24 : slT prog 24 = true := by kernel_rfl
theorem c26 : prog.cellsOf 26 = 8 := by kernel_rfl
theorem a26 : aggP prog 26 = true := by kernel_rfl
theorem t26 : tyOk prog 26 = true := by kernel_rfl
theorem z26 : zeroP prog 26 = [.s (.string "".toUTF8),.s (.bool false),.s (.int .i64 0),.s (.int .u8 0),.z,.z,.z,.z] := by kernel_rfl
theorem f26_0 : fieldP prog 26 0 = some (0, 9) := by kernel_rfl
theorem f26_1 : fieldP prog 26 1 = some (1, 4) := by kernel_rfl
theorem f26_2 : fieldP prog 26 2 = some (2, 3) := by kernel_rfl
theorem f26_3 : fieldP prog 26 3 = some (3, 5) := by kernel_rfl
theorem f26_4 : fieldP prog 26 4 = some (4, 22) := by kernel_rfl
theorem f26_5 : fieldP prog 26 5 = some (5, 22) := by kernel_rfl
theorem f26_6 : fieldP prog 26 6 = some (6, 23) := by kernel_rfl
theorem f26_7 : fieldP prog 26 7 = some (7, 24) := by kernel_rfl
theorem c27 : prog.cellsOf 27 = 1 := by kernel_rfl
theorem b27 : prog.bytesOf 27 = 24 := by kernel_rfl
theorem a27 : aggP prog 27 = false := by kernel_rfl
theorem t27 : tyOk prog 27 = true := by kernel_rfl
theorem z27 : zeroP prog 27 = [.z] := by kernel_rfl
theorem e27 : elemP prog 27 = 3 := by kernel_rfl
theorem sl27 : slT prog 27 = true := by kernel_rfl
theorem c28 : prog.cellsOf 28 = 1 := by kernel_rfl
theorem a28 : aggP prog 28 = false := by kernel_rfl
theorem t28 : tyOk prog 28 = true := by kernel_rfl
theorem e28 : elemP prog 28 = 27 := by kernel_rfl
theorem sl28 : slT prog 28 = true := by kernel_rfl
theorem c52 : prog.cellsOf 52 = 1 := by kernel_rfl
theorem a52 : aggP prog 52 = false := by kernel_rfl
theorem t52 : tyOk prog 52 = true := by kernel_rfl
theorem z52 : zeroP prog 52 = [.z] := by kernel_rfl
theorem e52 : elemP prog 52 = 4 := by kernel_rfl
theorem sl52 : slT prog 52 = true := by kernel_rfl
theorem c66 : prog.cellsOf 66 = 6 := by kernel_rfl
theorem a66 : aggP prog 66 = true := by kernel_rfl
theorem t66 : tyOk prog 66 = true := by kernel_rfl
theorem z66 : zeroP prog 66 = [.s (.int .u8 0),.s (.int .i64 0),.s (.int .i64 0),.s (.int .i64 0),.s (.int .i64 0),.z] := by kernel_rfl
theorem f66_0 : fieldP prog 66 0 = some (0, 5) := by kernel_rfl
theorem f66_1 : fieldP prog 66 1 = some (1, 3) := by kernel_rfl
theorem f66_2 : fieldP prog 66 2 = some (2, 3) := by kernel_rfl
theorem f66_3 : fieldP prog 66 3 = some (3, 3) := by kernel_rfl
theorem f66_4 : fieldP prog 66 4 = some (4, 3) := by kernel_rfl
theorem f66_5 : fieldP prog 66 5 = some (5, 27) := by kernel_rfl
theorem c67 : prog.cellsOf 67 = 1 := by kernel_rfl
theorem a67 : aggP prog 67 = false := by kernel_rfl
theorem t67 : tyOk prog 67 = true := by kernel_rfl
theorem e67 : elemP prog 67 = 199 := by kernel_rfl
theorem sl67 : slT prog 67 = true := by kernel_rfl
theorem c69 : prog.cellsOf 69 = 15 := by kernel_rfl
theorem a69 : aggP prog 69 = true := by kernel_rfl
theorem t69 : tyOk prog 69 = true := by kernel_rfl
theorem z69 : zeroP prog 69 = [.s (.int .u8 0),.s (.int .i64 0),.s (.int .i64 0),.s (.int .i64 0),.s (.int .i64 0),.s (.string "".toUTF8),.s (.int .u8 0),.s (.int .i64 0),.s (.int .i64 0),.s (.int .i64 0),.s (.int .i64 0),.z,.z,.z,.s (.int .i64 0)] := by kernel_rfl
theorem f69_0 : fieldP prog 69 0 = some (0, 5) := by kernel_rfl
theorem f69_1 : fieldP prog 69 1 = some (1, 3) := by kernel_rfl
theorem f69_2 : fieldP prog 69 2 = some (2, 3) := by kernel_rfl
theorem f69_3 : fieldP prog 69 3 = some (3, 3) := by kernel_rfl
theorem f69_4 : fieldP prog 69 4 = some (4, 3) := by kernel_rfl
theorem f69_5 : fieldP prog 69 5 = some (5, 9) := by kernel_rfl
theorem f69_6 : fieldP prog 69 6 = some (6, 66) := by kernel_rfl
theorem f69_7 : fieldP prog 69 7 = some (12, 27) := by kernel_rfl
theorem f69_8 : fieldP prog 69 8 = some (13, 67) := by kernel_rfl
theorem f69_9 : fieldP prog 69 9 = some (14, 3) := by kernel_rfl
theorem c70 : prog.cellsOf 70 = 1 := by kernel_rfl
theorem a70 : aggP prog 70 = false := by kernel_rfl
theorem t70 : tyOk prog 70 = true := by kernel_rfl
theorem e70 : elemP prog 70 = 66 := by kernel_rfl
theorem sl70 : slT prog 70 = true := by kernel_rfl
theorem c72 : prog.cellsOf 72 = 16 := by kernel_rfl
theorem b72 : prog.bytesOf 72 = 200 := by kernel_rfl
theorem a72 : aggP prog 72 = true := by kernel_rfl
theorem t72 : tyOk prog 72 = true := by kernel_rfl
theorem z72 : zeroP prog 72 = [.z,.s (.int .u8 0),.s (.int .i64 0),.s (.int .i64 0),.s (.int .i64 0),.s (.int .i64 0),.s (.string "".toUTF8),.s (.int .u8 0),.s (.int .i64 0),.s (.int .i64 0),.s (.int .i64 0),.s (.int .i64 0),.z,.z,.z,.s (.int .i64 0)] := by kernel_rfl
theorem f72_0 : fieldP prog 72 0 = some (0, 70) := by kernel_rfl
theorem f72_1 : fieldP prog 72 1 = some (1, 69) := by kernel_rfl
theorem c79 : prog.cellsOf 79 = 1 := by kernel_rfl
theorem a79 : aggP prog 79 = false := by kernel_rfl
theorem t79 : tyOk prog 79 = true := by kernel_rfl
theorem t89 : tyOk prog 89 = true := by kernel_rfl
theorem z89 : zeroP prog 89 = [.s (.string "".toUTF8),.s (.bool false),.s (.int .i64 0),.s (.int .u8 0),.z,.z,.z,.z,.z,.z,.z] := by kernel_rfl
theorem f89_0 : fieldP prog 89 0 = some (0, 26) := by kernel_rfl
theorem f89_1 : fieldP prog 89 1 = some (8, 28) := by kernel_rfl
theorem f89_2 : fieldP prog 89 2 = some (9, 28) := by kernel_rfl
theorem f89_3 : fieldP prog 89 3 = some (10, 52) := by kernel_rfl
theorem c98 : prog.cellsOf 98 = 1 := by kernel_rfl
theorem a98 : aggP prog 98 = false := by kernel_rfl
theorem t98 : tyOk prog 98 = true := by kernel_rfl
theorem c100 : prog.cellsOf 100 = 19 := by kernel_rfl
theorem t100 : tyOk prog 100 = true := by kernel_rfl
theorem c128 : prog.cellsOf 128 = 1 := by kernel_rfl
theorem a128 : aggP prog 128 = false := by kernel_rfl
theorem t128 : tyOk prog 128 = true := by kernel_rfl
theorem z128 : zeroP prog 128 = [.s .nilFunc] := by kernel_rfl
theorem c131 : prog.cellsOf 131 = 1 := by kernel_rfl
theorem a131 : aggP prog 131 = false := by kernel_rfl
theorem t131 : tyOk prog 131 = true := by kernel_rfl
theorem c133 : prog.cellsOf 133 = 10 := by kernel_rfl
theorem a133 : aggP prog 133 = true := by kernel_rfl
theorem t133 : tyOk prog 133 = true := by kernel_rfl
theorem z133 : zeroP prog 133 = [.s (.string "".toUTF8),.s (.bool false),.s (.int .i64 0),.s (.int .u8 0),.z,.z,.z,.z,.s (.map none),.s (.map none)] := by kernel_rfl
theorem f133_0 : fieldP prog 133 0 = some (0, 26) := by kernel_rfl
theorem f133_1 : fieldP prog 133 1 = some (8, 131) := by kernel_rfl
theorem f133_2 : fieldP prog 133 2 = some (9, 131) := by kernel_rfl
theorem c199 : prog.cellsOf 199 = 2 := by kernel_rfl
theorem a199 : aggP prog 199 = true := by kernel_rfl
theorem t199 : tyOk prog 199 = true := by kernel_rfl
theorem z199 : zeroP prog 199 = [.s (.string "".toUTF8),.s (.int .i64 0)] := by kernel_rfl
theorem f199_0 : fieldP prog 199 0 = some (0, 9) := by kernel_rfl
theorem f199_1 : fieldP prog 199 1 = some (1, 3) := by kernel_rfl
theorem c205 : prog.cellsOf 205 = 6 := by kernel_rfl
theorem a205 : aggP prog 205 = true := by kernel_rfl
theorem t205 : tyOk prog 205 = true := by kernel_rfl
theorem z205 : zeroP prog 205 = [.s (.int .i64 0),.s (.int .i64 0),.s (.int .i64 0),.s (.int .i64 0),.s (.int .i64 0),.s (.int .i64 0)] := by kernel_rfl
theorem f205_0 : fieldP prog 205 0 = some (0, 3) := by kernel_rfl
theorem f205_1 : fieldP prog 205 1 = some (1, 3) := by kernel_rfl
theorem f205_2 : fieldP prog 205 2 = some (2, 3) := by kernel_rfl
theorem f205_3 : fieldP prog 205 3 = some (3, 3) := by kernel_rfl
theorem f205_4 : fieldP prog 205 4 = some (4, 3) := by kernel_rfl
theorem f205_5 : fieldP prog 205 5 = some (5, 3) := by kernel_rfl
theorem e227 : elemP prog 227 = 231 := by kernel_rfl
theorem sl227 : slT prog 227 = true := by kernel_rfl
theorem c231 : prog.cellsOf 231 = 20 := by kernel_rfl
theorem b231 : prog.bytesOf 231 = 160 := by kernel_rfl
theorem a231 : aggP prog 231 = true := by kernel_rfl
theorem t231 : tyOk prog 231 = true := by kernel_rfl
theorem z231 : zeroP prog 231 = [.s (.int .u64 0),.s (.int .u64 0),.s (.int .u64 0),.s (.int .u64 0),.s (.int .u64 0),.s (.int .u64 0),.s (.int .u64 0),.s (.int .u64 0),.s (.int .u64 0),.s (.int .u64 0),.s (.int .u64 0),.s (.int .u64 0),.s (.int .u64 0),.s (.int .u64 0),.s (.int .u64 0),.s (.int .u64 0),.s (.int .u64 0),.s (.int .u64 0),.s (.int .u64 0),.s (.int .u64 0)] := by kernel_rfl
theorem e231 : elemP prog 231 = 98 := by kernel_rfl
theorem ar231 : arT prog 231 = true := by kernel_rfl
theorem l231 : lenP prog 231 = 20 := by kernel_rfl
theorem mixed : prog.follows .mixedOrders = true := by kernel_rfl
end Go.Proofs.Tryz.K
end
