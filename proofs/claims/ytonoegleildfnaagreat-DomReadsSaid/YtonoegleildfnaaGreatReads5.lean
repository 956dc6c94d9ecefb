/- Part 5 of the proof; the last part says what is proved. -/
import Derived.Test.YtonoegleildfnaaGreatReads4
section
namespace Go.Argus
open Go Go.Abs
theorem tbV (v : BitVec 64) (i : Nat) : (IntKind.u64.wrap (v.toNat : Int)).toNat.testBit i = v.getLsbD i := by
 rw [wrap_u64 v.isLt, Int.toNat_natCast, BitVec.testBit_toNat]
theorem tbO {a : Int} (ha : U64R a) (i : Nat) : (BitVec.ofInt 64 a).getLsbD i = a.toNat.testBit i := by
 obtain ⟨n, rfl⟩ := Int.eq_ofNat_of_zero_le ha.1
 have h := ha.2
 rw [<- BitVec.testBit_toNat, BitVec.toNat_ofInt]
 congr 1
 omega
theorem tb_or {a b : Int} (ha : U64R a) (hb : U64R b) (i : Nat) : (orU a b).toNat.testBit i = (a.toNat.testBit i || b.toNat.testBit i) := by
 have : orU a b = IntKind.u64.wrap (((BitVec.ofInt 64 a ||| BitVec.ofInt 64 b).toNat : Nat) : Int) := rfl
 rw [this, tbV, BitVec.getLsbD_or, tbO ha, tbO hb]
theorem tb_and {a b : Int} (ha : U64R a) (hb : U64R b) (i : Nat) : (andU a b).toNat.testBit i = (a.toNat.testBit i && b.toNat.testBit i) := by
 have : andU a b = IntKind.u64.wrap (((BitVec.ofInt 64 a &&& BitVec.ofInt 64 b).toNat : Nat) : Int) := rfl
 rw [this, tbV, BitVec.getLsbD_and, tbO ha, tbO hb]
theorem tb_nand {a b : Int} (ha : U64R a) (hb : U64R b) (i : Nat) : (nandU a b).toNat.testBit i = (a.toNat.testBit i && !(b.toNat.testBit i)) := by
 have : nandU a b = IntKind.u64.wrap (((BitVec.ofInt 64 a &&& ~~~ BitVec.ofInt 64 b).toNat : Nat) : Int) := rfl
 rw [this, tbV, BitVec.getLsbD_and, tbO ha, BitVec.getLsbD_not, tbO hb]
 by_cases h : i < 64
 ·simp [h]
 ·have : a.toNat.testBit i = false := by
   apply Nat.testBit_lt_two_pow
   have := ha.2; have := ha.1
   have h2 : 2 ^ 64 <= 2 ^ i := Nat.pow_le_pow_right (by omega) (by omega)
   omega
  simp [this]
theorem U64R_wrap (v : BitVec 64) : U64R (IntKind.u64.wrap (v.toNat : Int)) := by
 rw [wrap_u64 v.isLt]
 have := v.isLt
 unfold U64R
 omega
theorem U64R_nandU (a b : Int) : U64R (nandU a b) := U64R_wrap (BitVec.ofInt 64 a &&& ~~~ BitVec.ofInt 64 b)
theorem U64R_orU' (a b : Int) : U64R (orU a b) := U64R_wrap (BitVec.ofInt 64 a ||| BitVec.ofInt 64 b)
theorem one_bit {k : Nat} (hk : k < 64) : IntKind.u64.wrap (1 * 2 ^ (min k 64)) = ((2 ^ k : Nat) : Int) := by
 have h1 : min k 64 = k := by omega
 have h2 : (2 : Nat) ^ k < 2 ^ 64 := Nat.pow_lt_pow_right (by omega) hk
 rw [h1, Int.one_mul, <- wrap_u64 h2]
 norm_cast
def bitW (w : List Int) (r : Nat) : Bool := (w.getD (r / 64) 0).toNat.testBit (r % 64)
def AllU (w : List Int) : Prop := ∀ u ∈ w, U64R u
theorem AllU.get {w : List Int} (h : AllU w) (i : Nat) : U64R (w.getD i 0) := by
 rw [List.getD_eq_getElem?_getD]
 cases hx : w[i]? with
 | none => exact ⟨by simp, by simp⟩
 | some u => exact h u (List.mem_of_getElem? hx)
theorem U64R_pow {k : Nat} (hk : k < 64) : U64R ((2 ^ k : Nat) : Int) := by
 have h2 : (2 : Nat) ^ k < 2 ^ 64 := Nat.pow_lt_pow_right (by omega) hk
 generalize (2 : Nat) ^ k = z at h2
 unfold U64R; omega
theorem hasW_bit {w : List Int} (h : AllU w) (m : Nat) : hasW w m = bitW w m := by
 have hu := h.get (m / 64)
 unfold hasW bitW
 generalize w.getD (m / 64) 0 = u at hu
 have hk : min (m % 64) 64 = m % 64 := by omega
 rw [hk]
 obtain ⟨n, rfl⟩ := Int.eq_ofNat_of_zero_le hu.1
 have e : ((n : Int).fdiv (2 ^ (m % 64))) = ((n / 2 ^ (m % 64) : Nat) : Int) := by
  rw [Int.fdiv_eq_ediv_of_nonneg _ (Int.le_of_lt (Int.pow_pos (by omega))), Int.natCast_ediv, Int.natCast_pow]
  rfl
 rw [e]
 have hd : n / 2 ^ (m % 64) <= n := Nat.div_le_self _ _
 have hq : U64R ((n / 2 ^ (m % 64) : Nat) : Int) := by
  have := hu.2
  revert hd
  generalize n / 2 ^ (m % 64) = z
  intro hd
  unfold U64R; omega
 have h1 : U64R 1 := by unfold U64R; omega
 have hb : ∀ i, (andU ((n / 2 ^ (m % 64) : Nat) : Int) 1).toNat.testBit i = (n.testBit (m % 64) && decide (i = 0)) := fun i => by
  rw [tb_and hq h1, Int.toNat_natCast]
  by_cases hi : i = 0
  ·subst hi
   simp [Nat.testBit_eq_decide_div_mod_eq]
  ·have : (1 : Int).toNat.testBit i = false := by
    show Nat.testBit 1 i = false
    cases i with
    | zero => omega
    | succ j => simp [Nat.testBit_succ]
   rw [this]; simp [hi]
 have hp : U64R (andU ((n / 2 ^ (m % 64) : Nat) : Int) 1) := U64R_wrap (BitVec.ofInt 64 _ &&& BitVec.ofInt 64 1)
 generalize andU ((n / 2 ^ (m % 64) : Nat) : Int) 1 = z at hb hp
 obtain ⟨q, rfl⟩ := Int.eq_ofNat_of_zero_le hp.1
 simp only [Int.toNat_natCast] at hb ⊢
 cases hn : n.testBit (m % 64) with
 | false =>
  have : q = 0 := Nat.eq_of_testBit_eq fun i => by rw [hb i, hn]; simp
  subst this; rfl
 | true =>
  have : q = 1 := Nat.eq_of_testBit_eq fun i => by
   rw [hb i, hn]
   cases i with
   | zero => simp
   | succ j => simp [Nat.testBit_succ]
  subst this; rfl
theorem bit_set {w : List Int} {i : Nat} {u : Int} (hi : i < w.length) (r : Nat) : bitW (w.set i u) r = if r / 64 = i then u.toNat.testBit (r % 64) else bitW w r := by
 unfold bitW
 simp only [List.getD_eq_getElem?_getD, List.getElem?_set]
 split
 ·rename_i h; subst h; simp [hi]
 ·rename_i h; rw [if_neg fun e => h e.symm]
theorem bit_with {w : List Int} (h : AllU w) {m : Nat} (hm : m / 64 < w.length) (r : Nat) : bitW (withW w m) r = (bitW w r || decide (r = m)) := by
 have hk : m % 64 < 64 := by omega
 unfold withW
 rw [one_bit hk, bit_set hm]
 split
 ·rename_i e
  rw [tb_or (h.get _) (U64R_pow hk), Int.toNat_natCast, Nat.testBit_two_pow, bitW, e]
  congr 1
  apply decide_eq_decide.2
  omega
 ·rename_i e
  have : ¬ r = m := fun h => e (by rw [h])
  simp [this]
theorem bit_less {w : List Int} (h : AllU w) {m : Nat} (hm : m / 64 < w.length) (r : Nat) : bitW (lessW w m) r = (bitW w r && !decide (r = m)) := by
 have hk : m % 64 < 64 := by omega
 unfold lessW
 rw [one_bit hk, bit_set hm]
 split
 ·rename_i e
  rw [tb_nand (h.get _) (U64R_pow hk), Int.toNat_natCast, Nat.testBit_two_pow, bitW, e]
  congr 2
  apply decide_eq_decide.2
  omega
 ·rename_i e
  have : ¬ r = m := fun h => e (by rw [h])
  simp [this]
theorem AllU.set {w : List Int} (h : AllU w) {i : Nat} {u : Int} (hu : U64R u) : AllU (w.set i u) := fun x hx => by
 rcases List.mem_or_eq_of_mem_set hx with h1 | h1
 ·exact h x h1
 ·subst h1; exact hu
theorem AllU.with {w : List Int} (h : AllU w) (m : Nat) : AllU (withW w m) := h.set (U64R_orU' _ _)
theorem AllU.less {w : List Int} (h : AllU w) (m : Nat) : AllU (lessW w m) := h.set (U64R_nandU _ _)
theorem AllU.lessI {w : List Int} (h : AllU w) (n : Int) : AllU (lessI w n) := by
 unfold Argus.lessI; split
 ·exact h.less _
 ·exact h
theorem AllU.bothK {w v : List Int} (h : AllU w) : ∀ k, AllU (bothK w v k)
 | 0 => h
 | k + 1 => (AllU.bothK h k).set (U64R_orU' _ _)
theorem bit_lessI {w : List Int} (h : AllU w) {n : Int} (hn : n < 64 * w.length) (r : Nat) : bitW (lessI w n) r = (bitW w r && !decide ((r : Int) = n)) := by
 unfold lessI
 split
 ·rename_i h0
  rw [bit_less h (by omega)]
  congr 2
  apply decide_eq_decide.2
  omega
 ·have : ¬ (r : Int) = n := by omega
  simp [this]
theorem bit_bothK {w v : List Int} (h : AllU w) (hv : AllU v) : ∀ k, k <= w.length -> ∀ r, bitW (bothK w v k) r = (bitW w r || (decide (r / 64 < k) && bitW v r))
 | 0, _, r => by simp [bothK]
 | k + 1, hk, r => by
  have ih := bit_bothK h hv k (by omega)
  rw [bothK, bit_set (by simp; omega)]
  split
  ·rename_i e
   have h1 := ih r
   have h2 : ¬ r / 64 < k := by omega
   simp only [h2, decide_false, Bool.false_and, Bool.or_false] at h1
   unfold bitW at h1
   rw [e] at h1
   rw [tb_or ((AllU.bothK h k).get _) (hv.get _), h1]
   unfold bitW
   rw [e]
   simp
  ·rename_i e
   rw [ih r]
   have : decide (r / 64 < k) = decide (r / 64 < k + 1) := decide_eq_decide.2 (by omega)
   rw [this]
theorem bit_both {w v : List Int} (h : AllU w) (hv : AllU v) (hw : w.length = 19) (hvl : v.length = 19) (r : Nat) : bitW (bothW w v) r = (bitW w r || bitW v r) := by
 unfold bothW
 rw [bit_bothK h hv 19 (by omega)]
 by_cases hr : r / 64 < 19
 ·simp [hr]
 ·have : bitW v r = false := by
   unfold bitW
   rw [List.getD_eq_getElem?_getD, List.getElem?_eq_none (by omega)]
   simp
  simp [this]
theorem words_ext {w v : List Int} (h : AllU w) (hv : AllU v) (hl : w.length = v.length) (he : ∀ r, bitW w r = bitW v r) : w = v := by
 apply List.ext_getElem hl
 intro i h1 h2
 have e1 : w.getD i 0 = w[i] := by simp [List.getD_eq_getElem?_getD, List.getElem?_eq_getElem h1]
 have e2 : v.getD i 0 = v[i] := by simp [List.getD_eq_getElem?_getD, List.getElem?_eq_getElem h2]
 have a := h w[i] (by simp)
 have b := hv v[i] (by simp)
 have : w[i].toNat = v[i].toNat := Nat.eq_of_testBit_eq fun k => by
  by_cases hk : k < 64
  ·have := he (i * 64 + k)
   unfold bitW at this
   rw [show (i * 64 + k) / 64 = i by omega, show (i * 64 + k) % 64 = k by omega, e1, e2] at this
   exact this
  ·have h2 : 2 ^ 64 <= 2 ^ k := Nat.pow_le_pow_right (by omega) (by omega)
   unfold U64R at a b
   rw [Nat.testBit_lt_two_pow (by omega), Nat.testBit_lt_two_pow (by omega)]
 unfold U64R at a b
 omega
theorem bit_zero (n r : Nat) : bitW (List.replicate n 0) r = false := by
 unfold bitW
 rw [List.getD_eq_getElem?_getD, List.getElem?_replicate]
 split <;> simp
theorem AllU_zero (n : Nat) : AllU (List.replicate n 0) := fun u hu => by
 rw [List.eq_of_mem_replicate hu]; simp [U64R]
end Go.Argus
end
section
namespace Go.Argus
open Go Go.Abs
section
variable (beh : Nat -> List Int) (fate : Nat -> Bool -> Int) (ent : Nat -> Nat -> Int)
inductive Lv : Nat -> Prop
 | here {b : Nat} : fate b true = 1 -> Lv b
 | read {b : Nat} {c : Int} : fate b true = 0 -> c ∈ beh b -> ent b c.toNat = 1 -> Lv b
 | on {b : Nat} {c : Int} : fate b true = 0 -> c ∈ beh b -> ent b c.toNat = 0 -> Lv c.toNat -> Lv b
def cwGo (phiW : Nat -> Bool) (wIn : Nat -> Bool -> Bool) (prev : Option Int) : List Int -> Bool
 | [] => false
 | b :: t =>
  let go := if fate b.toNat prev.isNone = 2 then false
   else if fate b.toNat prev.isNone = 1 then (if t = [] then true else if wIn b.toNat prev.isNone then false else cwGo phiW wIn (some b) t)
   else (if t = [] then false else cwGo phiW wIn (some b) t)
  match prev with
  | none => go
  | some a => if ent a.toNat b.toNat = 1 /\ t = [] then true else if ent a.toNat b.toNat = 2 \/ (ent a.toNat b.toNat = 1 /\ phiW b.toNat = true) then false else go
def waySteps : List Int -> Prop
 | [] => True
 | [_] => True
 | a :: b :: t => b ∈ beh a.toNat /\ waySteps (b :: t)
variable {beh fate ent} {phiW : Nat -> Bool} {wIn : Nat -> Bool -> Bool}
structure Three (beh : Nat -> List Int) (fate : Nat -> Bool -> Int) (ent : Nat -> Nat -> Int) : Prop where
 f3 : ∀ b p, fate b p = 0 \/ fate b p = 1 \/ fate b p = 2
 e3 : ∀ a c, ent a c = 0 \/ ent a c = 1 \/ ent a c = 2
 ph : ∀ a c, c ∈ beh a -> ent a c.toNat = 0 -> fate c.toNat false = fate c.toNat true
theorem cwGo_some (h3 : Three beh fate ent) : ∀ (t : List Int) (a b : Int), b ∈ beh a.toNat -> waySteps beh (b :: t) -> cwGo fate ent phiW wIn (some a) (b :: t) = true ->
  ent a.toNat b.toNat = 1 \/ (ent a.toNat b.toNat = 0 /\ Lv beh fate ent b.toNat)
 | t, a, b, hb, hw, hc => by
  rcases h3.e3 a.toNat b.toNat with he | he | he
  ·refine .inr ⟨he, ?_⟩
   have hph := h3.ph _ _ hb he
   rw [cwGo] at hc
   simp only [he, Option.isNone_some] at hc
   rw [if_neg (by omega), if_neg (by omega), hph] at hc
   rcases h3.f3 b.toNat true with hf | hf | hf
   ·rw [hf, if_neg (by omega), if_neg (by omega)] at hc
    cases t with
    | nil => simp at hc
    | cons c t =>
     rw [if_neg (by simp)] at hc
     obtain ⟨hb', hw'⟩ := hw
     rcases cwGo_some h3 t b c hb' hw' hc with h1 | ⟨h1, h2⟩
     ·exact .read hf hb' h1
     ·exact .on hf hb' h1 h2
   ·exact .here hf
   ·rw [hf, if_pos rfl] at hc; cases hc
  ·exact .inl he
  ·rw [cwGo] at hc
   simp only [he] at hc
   rw [if_neg (by omega), if_pos (by simp)] at hc
   cases hc
theorem cwGo_lv (h3 : Three beh fate ent) {t : List Int} {b : Int} (hw : waySteps beh (b :: t)) (hc : cwGo fate ent phiW wIn none (b :: t) = true) : Lv beh fate ent b.toNat := by
 rw [cwGo] at hc
 simp only [Option.isNone_none] at hc
 rcases h3.f3 b.toNat true with hf | hf | hf
 ·rw [hf, if_neg (by omega), if_neg (by omega)] at hc
  cases t with
  | nil => simp at hc
  | cons c t =>
   rw [if_neg (by simp)] at hc
   obtain ⟨hb', hw'⟩ := hw
   rcases cwGo_some h3 t b c hb' hw' hc with h1 | ⟨h1, h2⟩
   ·exact .read hf hb' h1
   ·exact .on hf hb' h1 h2
 ·exact .here hf
 ·rw [hf, if_pos rfl] at hc; cases hc
def GoodW (beh : Nat -> List Int) (fate : Nat -> Bool -> Int) (ent : Nat -> Nat -> Int) : List Int -> Prop
 | [] => False
 | [b] => fate b.toNat true = 1
 | b :: c :: t => fate b.toNat true = 0 /\ c ∈ beh b.toNat /\ ((ent b.toNat c.toNat = 1 /\ t = []) \/ (ent b.toNat c.toNat = 0 /\ GoodW beh fate ent (c :: t)))
theorem goodW_some (h3 : Three beh fate ent) : ∀ (t : List Int) (a b : Int), b ∈ beh a.toNat -> ((ent a.toNat b.toNat = 1 /\ t = []) \/ (ent a.toNat b.toNat = 0 /\ GoodW beh fate ent (b :: t))) ->
  cwGo fate ent phiW wIn (some a) (b :: t) = true
 | t, a, b, hb, h => by
  rw [cwGo]
  rcases h with ⟨h1, h2⟩ | ⟨h1, h2⟩
  ·simp [h1, h2]
  ·have hph := h3.ph _ _ hb h1
   simp only [h1, Option.isNone_some, hph]
   rw [if_neg (by omega), if_neg (by omega)]
   cases t with
   | nil =>
    have hf : fate b.toNat true = 1 := h2
    rw [hf, if_neg (by omega), if_pos rfl, if_pos rfl]
   | cons c t =>
    obtain ⟨hf, hc, hr⟩ := h2
    rw [hf, if_neg (by omega), if_neg (by omega), if_neg (by simp)]
    exact goodW_some h3 t b c hc hr
theorem goodW_none (h3 : Three beh fate ent) {way : List Int} (h : GoodW beh fate ent way) : cwGo fate ent phiW wIn none way = true := by
 match way, h with
 | [b], h =>
  have hf : fate b.toNat true = 1 := h
  rw [cwGo]
  simp [hf]
 | b :: c :: t, ⟨hf, hc, hr⟩ =>
  rw [cwGo]
  simp only [Option.isNone_none, hf]
  rw [if_neg (by omega), if_neg (by omega), if_neg (by simp)]
  exact goodW_some h3 t b c hc hr
theorem goodW_steps : ∀ {way : List Int}, GoodW beh fate ent way -> waySteps beh way
 | [b], _ => trivial
 | b :: c :: t, ⟨_, hc, hr⟩ => by
  refine ⟨hc, ?_⟩
  rcases hr with ⟨_, rfl⟩ | ⟨_, h⟩
  ·trivial
  ·exact goodW_steps h
inductive GP (beh : Nat -> List Int) (fate : Nat -> Bool -> Int) (ent : Nat -> Nat -> Int) (b0 : Int) : List Int -> Int -> Prop
 | one : GP beh fate ent b0 [b0] b0
 | snoc {p : List Int} {a c : Int} : GP beh fate ent b0 p a -> fate a.toNat true = 0 -> c ∈ beh a.toNat -> ent a.toNat c.toNat = 0 -> GP beh fate ent b0 (p ++ [c]) c
theorem GP.good {b0 : Int} {p : List Int} {b : Int} (h : GP beh fate ent b0 p b) : ∀ q, GoodW beh fate ent (b :: q) -> GoodW beh fate ent (p ++ q) := by
 induction h with
 | one => intro q hq; exact hq
 | snoc h1 h2 h3 h4 ih =>
  intro q hq
  rw [List.append_assoc]
  exact ih _ ⟨h2, h3, .inr ⟨h4, hq⟩⟩
theorem GP.head {b0 : Int} {p : List Int} {b : Int} (h : GP beh fate ent b0 p b) : ∃ t, p = b0 :: t := by
 induction h with
 | one => exact ⟨[], rfl⟩
 | snoc _ _ _ _ ih =>
  obtain ⟨t, rfl⟩ := ih
  exact ⟨t ++ _, rfl⟩
theorem closed_not_lv {V : Nat -> Prop} (hV : ∀ b, V b -> fate b true ≠ 1 /\ (fate b true = 0 -> ∀ c ∈ beh b, ent b c.toNat ≠ 1 /\ (ent b c.toNat = 0 -> V c.toNat))) {b : Nat} (hb : V b) : ¬ Lv beh fate ent b := by
 intro h
 induction h with
 | here h => exact (hV _ hb).1 h
 | read h1 h2 h3 => exact ((hV _ hb).2 h1 _ h2).1 h3
 | on h1 h2 h3 _ ih => exact ih (((hV _ hb).2 h1 _ h2).2 h3)
end
end Go.Argus
end
section
namespace Go.Argus
open Go Go.Abs
def seenB (s : List Bool) (c : Int) : Bool := s.getD c.toNat false
def dfsV (beh : Nat -> List Int) (w : Int) : Nat -> List Bool × List Int -> Nat -> List Bool × List Int
 | 0, s, _ => s
 | k + 1, s, b =>
  let r := (beh b).foldl (fun s c => if seenB s.1 c = false /\ c ≠ w then dfsV beh w k s c.toNat else s) (s.1.set b true, s.2)
  (r.1, r.2 ++ [(b : Int)])
def dfsF (beh : Nat -> List Int) (w : Int) (k : Nat) (s : List Bool × List Int) (l : List Int) : List Bool × List Int :=
 l.foldl (fun s c => if seenB s.1 c = false /\ c ≠ w then dfsV beh w k s c.toNat else s) s
theorem dfsV_succ (beh : Nat -> List Int) (w : Int) (k : Nat) (s : List Bool × List Int) (b : Nat) :
  dfsV beh w (k + 1) s b = ((dfsF beh w k (s.1.set b true, s.2) (beh b)).1, (dfsF beh w k (s.1.set b true, s.2) (beh b)).2 ++ [(b : Int)]) := rfl
theorem dfsF_snoc (beh : Nat -> List Int) (w : Int) (k : Nat) (s : List Bool × List Int) (l : List Int) (c : Int) :
  dfsF beh w k s (l ++ [c]) = (if seenB (dfsF beh w k s l).1 c = false /\ c ≠ w then dfsV beh w k (dfsF beh w k s l) c.toNat else dfsF beh w k s l) := by
 rw [dfsF, List.foldl_append]
 rfl
theorem rev_ind {α : Type} {p : List α -> Prop} (h0 : p []) (h1 : ∀ l a, p l -> p (l ++ [a])) (l : List α) : p l := by
 have h : ∀ l : List α, p l.reverse := fun l => by
  induction l with
  | nil => exact h0
  | cons a l ih => rw [List.reverse_cons]; exact h1 _ _ ih
 have := h l.reverse
 rwa [List.reverse_reverse] at this
theorem count_set_le {l : List Bool} {b : Nat} : (l.set b true).count false <= l.count false := by
 induction l generalizing b with
 | nil => simp
 | cons x l ih =>
  cases b with
  | zero => cases x <;> simp
  | succ b => simp only [List.set_cons_succ, List.count_cons]; have := ih (b := b); omega
theorem count_set_lt {l : List Bool} {b : Nat} (h : l[b]? = some false) : (l.set b true).count false + 1 = l.count false := by
 induction l generalizing b with
 | nil => simp at h
 | cons x l ih =>
  cases b with
  | zero => simp at h; subst h; simp
  | succ b => simp only [List.set_cons_succ, List.count_cons]; have := ih (b := b) (by simpa using h); omega
structure Grow (beh : Nat -> List Int) (w : Int) (s s' : List Bool × List Int) : Prop where
 len : s'.1.length = s.1.length
 cnt : s'.1.count false <= s.1.count false
 mono : ∀ i, s.1.getD i false = true -> s'.1.getD i false = true
 out : ∃ l : List Int, s'.2 = s.2 ++ l /\ l.Nodup /\ ∀ x, x ∈ l ↔ 0 <= x /\ s'.1.getD x.toNat false = true /\ s.1.getD x.toNat false = false
theorem Grow.refl {beh : Nat -> List Int} {w : Int} (s : List Bool × List Int) : Grow beh w s s := ⟨rfl, Nat.le_refl _, fun _ h => h, [], by simp, List.nodup_nil, fun x => by
 constructor
 ·intro h; simp at h
 ·rintro ⟨_, h1, h2⟩; rw [h1] at h2; cases h2⟩
theorem Grow.trans {beh : Nat -> List Int} {w : Int} {s t u : List Bool × List Int} (h1 : Grow beh w s t) (h2 : Grow beh w t u) : Grow beh w s u := by
 refine ⟨h2.len.trans h1.len, Nat.le_trans h2.cnt h1.cnt, fun i h => h2.mono i (h1.mono i h), ?_⟩
 obtain ⟨l1, a1, b1, c1⟩ := h1.out
 obtain ⟨l2, a2, b2, c2⟩ := h2.out
 refine ⟨l1 ++ l2, by rw [a2, a1, List.append_assoc], ?_, fun x => ?_⟩
 ·rw [List.nodup_append]
  refine ⟨b1, b2, fun a ha b hb e => ?_⟩
  subst e
  have := ((c1 a).1 ha).2.1
  rw [((c2 a).1 hb).2.2] at this
  cases this
 ·rw [List.mem_append, c1, c2]
  constructor
  ·rintro (⟨h0, h, h'⟩ | ⟨h0, h, h'⟩)
   ·exact ⟨h0, h2.mono _ h, h'⟩
   ·refine ⟨h0, h, ?_⟩
    cases hs : s.1.getD x.toNat false with
    | false => rfl
    | true => rw [h1.mono _ hs] at h'; cases h'
  ·rintro ⟨h0, h, h'⟩
   cases ht : t.1.getD x.toNat false with
   | true => exact .inl ⟨h0, rfl, h'⟩
   | false => exact .inr ⟨h0, h, rfl⟩
theorem getD_set_true {l : List Bool} {b i : Nat} (hb : b < l.length) : (l.set b true).getD i false = (decide (i = b) || l.getD i false) := by
 simp only [List.getD_eq_getElem?_getD, List.getElem?_set]
 split
 ·rename_i h; subst h; simp [hb]
 ·rename_i h
  have : ¬ i = b := fun e => h e.symm
  simp [this]
section
variable {beh : Nat -> List Int} {w : Int} {n : Nat} (hb : ∀ b, ∀ c ∈ beh b, 0 <= c /\ c.toNat < n)
theorem getD_false {l : List Bool} {c : Nat} (h : l.getD c false = false) (hc : c < l.length) : l[c]? = some false := by
 rw [List.getD_eq_getElem?_getD, List.getElem?_eq_getElem hc] at h
 rw [List.getElem?_eq_getElem hc]
 simpa using h
include hb in
theorem dfs_grow : ∀ (k : Nat) (s : List Bool × List Int) (b : Nat), s.1.length = n -> b < n -> s.1.count false <= k -> s.1.getD b false = false ->
  Grow beh w s (dfsV beh w k s b) /\ (dfsV beh w k s b).1.getD b false = true /\
  (∀ x, (dfsV beh w k s b).1.getD x false = true -> s.1.getD x false = false -> ∀ c ∈ beh x, c ≠ w -> (dfsV beh w k s b).1.getD c.toNat false = true)
 | 0, s, b, hn, hbn, hk, hs => by
  have := count_set_lt (getD_false hs (by omega))
  omega
 | k + 1, s, b, hn, hbn, hk, hs => by
  have h0 : Grow beh w s (s.1.set b true, s.2 ++ [(b : Int)]) := by
   refine ⟨by simp, count_set_le, fun i h => ?_, [(b : Int)], rfl, by simp, fun x => ?_⟩
   ·simp only; rw [getD_set_true (by omega), h, Bool.or_true]
   ·simp only [getD_set_true (show b < s.1.length by omega), List.mem_singleton]
    constructor
    ·rintro rfl; simp [<- List.getD_eq_getElem?_getD, hs]
    ·rintro ⟨h1, h2, h3⟩
     rw [h3, Bool.or_false, decide_eq_true_eq] at h2
     omega
  have hF : ∀ l : List Int, (∀ c ∈ l, 0 <= c /\ c.toNat < n) -> ∀ o, let r := dfsF beh w k (s.1.set b true, o) l
    Grow beh w (s.1.set b true, o) r /\ (∀ c ∈ l, c ≠ w -> r.1.getD c.toNat false = true) /\
    (∀ x, r.1.getD x false = true -> (s.1.set b true).getD x false = false -> ∀ c ∈ beh x, c ≠ w -> r.1.getD c.toNat false = true) := by
   intro l
   induction l using rev_ind with
   | h0 => intro _ o; exact ⟨.refl _, fun c h => by simp at h, fun x h h' => by rw [show (dfsF beh w k (s.1.set b true, o) []).1 = s.1.set b true from rfl, h'] at h; cases h⟩
   | h1 l c ih =>
    intro hl o
    obtain ⟨g1, g2, g3⟩ := ih (fun c h => hl c (by simp [h])) o
    simp only
    rw [dfsF_snoc]
    generalize dfsF beh w k (s.1.set b true, o) l = t at g1 g2 g3
    have hc := hl c (by simp)
    have hcl : t.1.length = n := by rw [g1.len]; simp [hn]
    split
    ·rename_i hcc
     have hcs : t.1.getD c.toNat false = false := hcc.1
     have hcnt : t.1.count false <= k := by
      have a1 := g1.cnt
      have a2 := count_set_lt (getD_false hs (by omega))
      simp only at a1
      omega
     obtain ⟨q1, q2, q3⟩ := dfs_grow k t c.toNat hcl hc.2 hcnt hcs
     refine ⟨g1.trans q1, fun c' h' hw => ?_, fun x h1 h2 c' hc' hw => ?_⟩
     ·rw [List.mem_append] at h'
      rcases h' with h' | h'
      ·exact q1.mono _ (g2 c' h' hw)
      ·simp at h'; subst h'; exact q2
     ·cases ht : t.1.getD x false with
      | true => exact q1.mono _ (g3 x ht h2 c' hc' hw)
      | false => exact q3 x h1 ht c' hc' hw
    ·rename_i hcc
     refine ⟨g1, fun c' h' hw => ?_, g3⟩
     rw [List.mem_append] at h'
     rcases h' with h' | h'
     ·exact g2 c' h' hw
     ·simp at h'; subst h'
      cases ht : t.1.getD c'.toNat false with
      | true => rfl
      | false => exact absurd ⟨ht, hw⟩ hcc
  rw [dfsV_succ]
  obtain ⟨g1, g2, g3⟩ := hF (beh b) (hb b) s.2
  generalize dfsF beh w k (s.1.set b true, s.2) (beh b) = t at g1 g2 g3
  have hbt : t.1.getD b false = true := g1.mono b (by simp only; rw [getD_set_true (by omega)]; simp)
  refine ⟨⟨by have := g1.len; simp at this; exact this, Nat.le_trans g1.cnt count_set_le, fun i h => g1.mono i (by simp only; rw [getD_set_true (by omega), h, Bool.or_true]), ?_⟩, hbt, fun x h1 h2 c hc hw => ?_⟩
  ·obtain ⟨l, e, nd, hm⟩ := g1.out
   simp only at e hm
   refine ⟨l ++ [(b : Int)], by simp only; rw [e, List.append_assoc], ?_, fun x => ?_⟩
   ·rw [List.nodup_append]
    refine ⟨nd, by simp, fun a ha b' hb' e => ?_⟩
    simp at hb'
    subst hb' e
    have := ((hm _).1 ha).2.2
    rw [getD_set_true (by omega)] at this
    simp at this
   ·rw [List.mem_append, hm, getD_set_true (by omega), List.mem_singleton]
    simp only
    constructor
    ·rintro (⟨h0, h1, h2⟩ | rfl)
     ·simp only [Bool.or_eq_false_iff] at h2
      exact ⟨h0, h1, h2.2⟩
     ·exact ⟨by omega, by simpa using hbt, by simpa using hs⟩
    ·rintro ⟨h0, h1, h2⟩
     by_cases hx : x = (b : Int)
     ·exact .inr hx
     ·refine .inl ⟨h0, h1, ?_⟩
      rw [h2]
      have : ¬ x.toNat = b := by omega
      simp [this]
  ·simp only at h1 ⊢
   by_cases hx : x = b
   ·subst hx; exact g2 c hc hw
   ·exact g3 x h1 (by rw [getD_set_true (by omega), h2]; simp [hx]) c hc hw
end
def reachR (beh : Nat -> List Int) (n : Nat) (w : Int) : List Bool := if w = 0 then List.replicate n false else (dfsV beh w n (List.replicate n false, []) 0).1
def orderR (beh : Nat -> List Int) (n : Nat) : List Int := (dfsV beh (-1) n (List.replicate n false, []) 0).2.reverse
section
variable {beh : Nat -> List Int} {n : Nat} (hb : ∀ b, ∀ c ∈ beh b, 0 <= c /\ c.toNat < n) (hn : 0 < n)
include hb hn
theorem dfs0 (w : Int) : Grow beh w (List.replicate n false, []) (dfsV beh w n (List.replicate n false, []) 0) /\ (dfsV beh w n (List.replicate n false, []) 0).1.getD 0 false = true /\
  (∀ x, (dfsV beh w n (List.replicate n false, []) 0).1.getD x false = true -> ∀ c ∈ beh x, c ≠ w -> (dfsV beh w n (List.replicate n false, []) 0).1.getD c.toNat false = true) := by
 have hz : ∀ i, (List.replicate n false).getD i false = false := fun i => by
  rw [List.getD_eq_getElem?_getD, List.getElem?_replicate]; split <;> rfl
 obtain ⟨h1, h2, h3⟩ := dfs_grow (w := w) hb n (List.replicate n false, []) 0 (by simp) hn (by simp) (hz 0)
 exact ⟨h1, h2, fun x hx => h3 x hx (hz x)⟩
theorem reach_len (w : Int) : (reachR beh n w).length = n := by
 unfold reachR
 split
 ·simp
 ·rw [(dfs0 hb hn w).1.len]; simp
theorem mem_order {x : Int} : x ∈ orderR beh n ↔ 0 <= x /\ (reachR beh n (-1)).getD x.toNat false = true := by
 obtain ⟨h1, _, _⟩ := dfs0 hb hn (-1)
 obtain ⟨l, e, _, hm⟩ := h1.out
 unfold orderR reachR
 rw [if_neg (by omega), List.mem_reverse, e]
 simp only [List.nil_append]
 rw [hm]
 have hz : (List.replicate n false).getD x.toNat false = false := by
  rw [List.getD_eq_getElem?_getD, List.getElem?_replicate]; split <;> rfl
 simp only [hz, and_true]
theorem reach_closed {x : Nat} (hx : (reachR beh n (-1)).getD x false = true) : ∀ c ∈ beh x, (reachR beh n (-1)).getD c.toNat false = true := by
 obtain ⟨_, _, h3⟩ := dfs0 hb hn (-1)
 unfold reachR at hx ⊢
 rw [if_neg (by omega)] at hx ⊢
 intro c hc
 exact h3 x hx c hc (by have := hb x c hc; omega)
end
end Go.Argus
end
section
open Go Go.Abs Go.Proofs Go.Argus
namespace Go.Argus
def ed1 (x : End) : List Int := if x.kind ≠ 3 /\ x.kind ≠ 4 then [x.to] else []
def ed2 (x : End) : List Int := if x.kind = 2 \/ x.kind = 8 then ed1 x ++ [x.els] else ed1 x
def ed3 (x : End) (k : Nat) : List Int := ed2 x ++ (x.whens.take k).map (·.to)
def edgesR (x : End) : List Int := if 0 <= x.others then ed3 x x.whens.length ++ [x.others] else ed3 x x.whens.length
theorem ed3_succ {x : End} {k : Nat} {w : When} (h : x.whens[k]? = some w) : ed3 x (k + 1) = ed3 x k ++ [w.to] := by
 unfold ed3
 rw [List.take_add_one, h, List.map_append, List.append_assoc]
 rfl
theorem len_ed2 (x : End) : (ed2 x).length <= 2 := by unfold ed2 ed1; repeat' split <;> simp
theorem len_edges (x : End) : (edgesR x).length <= x.whens.length + 3 := by
 have := len_ed2 x
 unfold edgesR ed3
 split <;> simp <;> omega
end Go.Argus
namespace Go.Proofs.Tryz.K
set_option maxRecDepth 10000
def stE (x : Argus.End) (l : List Int) (s : St) : Prop := ∃ r m nx, r < nx /\ m r = some (.cells (l.map I) 3) /\ Ghost Tryz.prog s ⟨envL [(1, .pt (encEnd x)), (3, .rs r 0 l.length)], m, nx⟩
theorem k115 {x : Argus.End} (hlen : x.whens.length <= 100000) : OCall Tryz.prog 115 [.agg (encEnd x)] ((edgesR x).map I) (edgesR x).length 3 := by
 have htr : ∀ a ∈ [D.agg (encEnd x)], Tr a := .cons (.agg (trs_end x)) .nil
 refine ocall_of mixed ok115 (by rw [nt115]; rfl) htr (.map fun _ => .s _) ?_
 rw [rs115, sk115]
 refine w_seq_region_g ?_
 refine J64 ?_;refine J23 ?_
 refine ao_end (w_ghost (ghost_fr [(0, encEnd x, 69)] ⟨rfl, trivial⟩ (l := [(1, .pt (encEnd x))]) ⟨rfl, trivial⟩) (w_seq_region_g ?_))
 refine J23 ?_
 refine ao_end ⟨_, .nilrow _ _ _ 3 3 rfl, ?_⟩
 refine w_cut_g (stE x (ed1 x)) (w_seq_region ?_) fun s hs => ?_
 ·have yes : x.kind ≠ 3 /\ x.kind ≠ 4 -> ed1 x = [x.to] := fun h => by rw [ed1, if_pos h]
  have no : ¬ (x.kind ≠ 3 /\ x.kind ≠ 4) -> ed1 x = [] := fun h => by rw [ed1, if_neg h]
  have hrow : up (fun _ => (none : Option Row)) 1 (some (.cells [] 3)) 1 = some (.cells [] 3) := up_same _ _ _
  by_cases h3 : x.kind = 3
  ·have kneq : (x.kind != 3) = false := by simp [h3]
   refine J5 ?_;refine J4 ?_;refine J73 ?_;refine J2 ?_;refine z fun _ _ => ?_;refine z fun _ _ => ?_;refine z fun _ _ => ?_;refine J15 ?_
   refine ao_end (w_if rfl (fun h => (by cases h)) fun h => w_skipJ ?_)
   rw [no (by simp [h3])]
   exact ⟨_, _, _, Nat.lt_succ_self _, up_same _ _ _, ghost_of ⟨rfl, rfl, trivial⟩⟩
  ·by_cases h4 : x.kind = 4
   ·have kneq : (x.kind != 3) = true := by simp [h4]
    have kneq' : (x.kind != 4) = false := by simp [h4]
    refine J5 ?_;refine J4 ?_;refine J73 ?_;refine J2 ?_;refine J7 ?_;refine J6 ?_;refine J58 ?_;refine J21 ?_
    refine ao_end (w_if rfl (fun h => (by simp [h4] at h)) fun h => w_skipJ ?_)
    rw [no (by simp [h4])]
    exact ⟨_, _, _, Nat.lt_succ_self _, up_same _ _ _, ghost_of ⟨rfl, rfl, trivial⟩⟩
   ·have kneq : (x.kind != 3) = true := by simp [h3]
    have kneq' : (x.kind != 4) = true := by simp [h4]
    refine J5 ?_;refine J4 ?_;refine J73 ?_;refine J2 ?_;refine J7 ?_;refine J6 ?_;refine J58 ?_;refine J21 ?_
    refine ao_end (w_if rfl (fun h => ?_) fun h => (by simp [h4] at h))
    refine w_regE ?_
    refine J12 ?_;refine J5 ?_;refine J4 ?_;refine J35 ?_
    refine ao_m (e_appR rfl rfl rfl V.h V.h (cells_rs rfl rfl) rfl) ak ⟨V.h, rfl, (by first | omega | exact Nat.le_of_ble_eq_true rfl | (simp; done) | (simp; omega)), (by decide), (by first | rfl | (simp; done) | (simp; omega)), (by unfold maxLen; first | omega | (simp; omega)), (by rw [b3]; first | omega | (simp; omega)), (by first | (simp; done) | (simp; omega))⟩ ?_
    refine J18 ?_
    refine ao_end ?_
    rw [yes ⟨h3, h4⟩]
    exact ⟨_, _, _, Nat.lt_succ_self _, up_same _ _ _, ghost_of ⟨rfl, rfl, trivial⟩⟩
 obtain ⟨r, m, nx, hr, hrow, hg⟩ := hs
 refine ⟨_, hg, w_cut_g (stE x (ed2 x)) (w_seq_region ?_) fun s hs => ?_⟩
 ·have hd2 : ed2 x = if x.kind = 2 \/ x.kind = 8 then ed1 x ++ [x.els] else ed1 x := rfl
  have hlj : (ed1 x).length <= 1 := by unfold ed1; split <;> simp
  generalize ed1 x = l at hrow hd2 hlj
  have hlk : (l.map I).length = l.length := by simp
  by_cases h2 : x.kind = 2 \/ x.kind = 8
  ·rw [if_pos h2] at hd2
   refine J5 ?_;refine J4 ?_;refine J8 ?_;refine J2 ?_;refine J7 ?_;refine J6 ?_;refine J19 ?_;refine J9 ?_
   refine ao_end (w_if rfl (fun h => w_regE ?_) fun h => (by rcases h2 with h2 | h2 <;> simp [h2] at h))
   refine J12 ?_;refine J5 ?_;refine J4 ?_;refine J35 ?_;refine J101 ?_;refine J18 ?_
   refine ao_end ?_
   rw [hd2]
   refine ⟨_, _, _, Nat.lt_succ_self _, (up_same _ _ _).trans (by rw [List.map_append]; rfl), ghost_of ⟨rfl, ?_, trivial⟩⟩
   show D.rs _ 0 _ = D.rs _ 0 _
   rw [List.length_append]; rfl
  ·rw [if_neg h2] at hd2
   refine J5 ?_;refine J4 ?_;refine J8 ?_;refine J2 ?_;refine J7 ?_;refine J6 ?_;refine J19 ?_;refine J9 ?_
   refine ao_end (w_if rfl (fun h => (by exfalso; apply h2; revert h; by_cases e2 : x.kind = 2 <;> by_cases e8 : x.kind = 8 <;> simp [e2, e8])) fun h => w_skipJ ?_)
   rw [hd2]
   exact ⟨r, m, nx, hr, hrow, ghost_of ⟨rfl, rfl, trivial⟩⟩
 clear hg hr hrow
 obtain ⟨r, m, nx, hr, hrow, hg⟩ := hs
 refine ⟨_, hg, w_cut_g (stE x (ed3 x x.whens.length)) (w_seq_region_g ?_) fun s hs => ?_⟩
 ·refine J5 ?_;refine J4 ?_;refine J14 ?_;refine J0 ?_
  refine ao_end (w_range (α := Nat × Nat × Mem × Nat) (fun s => ⟨envL [(1, .pt (encEnd x)), (3, .rs s.2.1 0 (ed3 x s.1).length), (33, encWhens x.whens), (34, I x.whens.length), (35, I s.1)], s.2.2.1, s.2.2.2⟩)
   (fun s => s.1 <= x.whens.length /\ s.2.1 < s.2.2.2 /\ s.2.2.1 s.2.1 = some (.cells ((ed3 x s.1).map I) 3)) (fun s => x.whens.length - s.1) (0, r, m, nx) (ghost_of ⟨rfl, ?_, rfl, rfl, rfl, trivial⟩) ⟨Nat.zero_le _, hr, ?_⟩ ?_)
  ·show D.rs r 0 _ = D.rs r 0 _
   simp [ed3]
  ·show m r = _
   rw [hrow]; simp [ed3]
  clear hg hr hrow
  rintro ⟨j, r, m, nx⟩ ⟨hj, hr, hrow⟩
  dsimp only at hj hr hrow ⊢
  refine J16 ?_
  refine ao_end ⟨_, rfl, fun h => ?_, fun h => ?_⟩
  ·have hjl : j < x.whens.length := by simpa using h
   have hy : x.whens[j]? = some x.whens[j] := List.getElem?_eq_getElem hjl
   generalize x.whens[j] = w at hy
   have hst := ed3_succ hy
   have hln : (ed3 x (j + 1)).length = (ed3 x j).length + 1 := by rw [hst]; simp
   have hlk : ((ed3 x j).map I).length = (ed3 x j).length := by simp
   have hlj : (ed3 x j).length <= 2 + j := by have := len_ed2 x; unfold ed3; simp; omega
   generalize ed3 x j = l at hrow hst hlk hln hlj
   refine ws ?_;refine J105 ?_;refine J106 ?_;refine J22 ?_;refine J131 ?_
   refine ao_end (w_regB2 ?_)
   refine J12 ?_;refine J97 ?_;refine J137 ?_;refine J35 ?_
   refine ao_m (e_appR rfl (mskip (by omega) (mskip (by omega) (mskip (by omega) hrow))) rfl V.h V.h (cells_rs (up_same _ _ _) rfl) rfl) ak ⟨V.h, rfl, (by first | omega | exact Nat.le_of_ble_eq_true rfl | (simp; done) | (simp; omega)), (by decide), (by first | rfl | (simp; done) | (simp; omega)), (by unfold maxLen; first | omega | (simp; omega)), (by rw [b3]; first | omega | (simp; omega)), (by first | (simp; done) | (simp; omega))⟩ ?_
   refine J18 ?_
   refine ao_end ?_
   refine J10 ?_;refine J0 ?_
   refine ao_end (next_of (j + 1, nx + 1 + 1, _, _) (ghost_of ⟨rfl, ?_, rfl, rfl, rfl, trivial⟩) ⟨by dsimp only; omega, by dsimp only; omega, ?_⟩ (by dsimp only; omega))
   ·show D.rs _ 0 _ = D.rs _ 0 _
    rw [hln]
   ·dsimp only
    rw [hst, List.map_append]
    exact up_same _ _ _
  ·have hge : ¬ j < x.whens.length := by simpa using h
   have : j = x.whens.length := by omega
   subst this
   exact ⟨r, m, nx, hr, hrow, ghost_of ⟨rfl, rfl, trivial⟩⟩
 clear hg hr hrow
 obtain ⟨r, m, nx, hr, hrow, hg⟩ := hs
 refine ⟨_, hg, w_cut_g (stE x (edgesR x)) (w_seq_region ?_) fun s hs => ?_⟩
 ·have hd : edgesR x = if 0 <= x.others then ed3 x x.whens.length ++ [x.others] else ed3 x x.whens.length := rfl
  have hlj : (ed3 x x.whens.length).length <= 2 + x.whens.length := by have := len_ed2 x; unfold ed3; simp; omega
  generalize ed3 x x.whens.length = l at hrow hd hlj
  have hlk : (l.map I).length = l.length := by simp
  refine J5 ?_;refine J4 ?_;refine J60 ?_
  refine ao_end (w_if rfl (fun h => w_regE ?_) fun h => w_skipJ ?_)
  ·rw [if_pos (by simpa using h)] at hd
   refine J12 ?_;refine J5 ?_;refine J4 ?_;refine J35 ?_;refine J101 ?_;refine J18 ?_
   refine ao_end ?_
   rw [hd]
   refine ⟨_, _, _, Nat.lt_succ_self _, (up_same _ _ _).trans (by rw [List.map_append]; rfl), ghost_of ⟨rfl, ?_, trivial⟩⟩
   show D.rs _ 0 _ = D.rs _ 0 _
   rw [List.length_append]; rfl
  ·rw [if_neg (by simpa using h)] at hd
   rw [hd]
   exact ⟨r, m, nx, hr, hrow, ghost_of ⟨rfl, rfl, trivial⟩⟩
 clear hg hr hrow
 obtain ⟨r, m, nx, hr, hrow, hg⟩ := hs
 refine ⟨_, hg, w_seq_region ?_⟩
 refine J12 ?_;refine J18 ?_
 exact ao_end (q_ret1 rfl ⟨r, rfl, hrow⟩)
end Go.Proofs.Tryz.K
end
section
open Go Go.Abs Go.Proofs Go.Argus
namespace Go.Abs
theorem w_seq_skip_g {P : Program} {Y : YSpec} {rf : Bool} {Q : Exit -> St -> Prop} {st : St} {b : Code} [YMono Y] (h : ∃ st', Ghost P st st' /\ AW P Y rf b Q st') : AW P Y rf (.seq .skip b) Q st := by
 obtain ⟨st', h1, h2⟩ := h
 exact ⟨st', h1, h2⟩
end Go.Abs
namespace Go.Argus
def encGraph (f : Flow) (beh ahd : List (List Int)) (c : D) : List D := [S f.name, B f.iter, I f.args, U8 f.result, encBytes f.regs, encBytes f.slots, encStrs f.signals, encBlocks f.blocks, encLists beh, encLists ahd, c]
theorem trs_graph {f : Flow} {beh ahd : List (List Int)} {c : D} (hc : Tr c) : ∀ a ∈ encGraph f beh ahd c, Tr a := .cons (.s _) (.cons (.s _) (.cons (.s _) (.cons (.s _) (.cons (tr_bytes _) (.cons (tr_bytes _) (.cons (tr_strs _) (.cons (tr_blocks _) (.cons (tr_lists _) (.cons (tr_lists _) (.cons hc .nil))))))))))
theorem tr_graph {f : Flow} {beh ahd : List (List Int)} {c : D} (hc : Tr c) : Tr (.pt (encGraph f beh ahd c)) := .pt (trs_graph hc)
@[simp] theorem len_encGraph (f : Flow) (beh ahd : List (List Int)) (c : D) : (encGraph f beh ahd c).length = 11 := rfl
def phisR (x : Block) : List Ins := x.ins.takeWhile isPhi
theorem phis_spec (l : List Ins) : (idxF (fun y => y.op != 19) l = -1 /\ l.takeWhile isPhi = l.take l.length) \/ ∃ k : Nat, k <= l.length /\ idxF (fun y => y.op != 19) l = k /\ l.takeWhile isPhi = l.take k := by
 unfold idxF
 cases h : l.findIdx? (fun y => y.op != 19) with
 | none =>
  refine .inl ⟨rfl, takeWhile_eq (fun y hy => ?_) fun y hy => by simp at hy⟩
  rw [List.findIdx?_eq_none_iff] at h
  have := h y (List.mem_of_mem_take hy)
  simpa [isPhi] using this
 | some k =>
  obtain ⟨hk, hp, hj⟩ := List.findIdx?_eq_some_iff_getElem.1 h
  refine .inr ⟨k, by omega, rfl, takeWhile_eq (fun y hy => ?_) fun y hy => ?_⟩
  ·obtain ⟨j, hj', rfl⟩ := List.getElem_of_mem hy
   rw [List.length_take] at hj'
   rw [List.getElem_take]
   simpa [isPhi] using hj j (by omega)
  ·rw [List.getElem?_eq_getElem hk] at hy
   cases hy
   simpa [isPhi] using hp
def hasI (l : List Int) (x : Int) : Bool := l.any fun y => x == y
theorem hasI_iff {l : List Int} {x : Int} : hasI l x = true ↔ x ∈ l := by simp [hasI]
def givenR (A : List Int) (a : Int) (x : Block) : List Int := (phisR x).map fun y => y.args.getD (idxF (fun y => a == y) A).toNat 0
def cntI (b : Int) (l : List Int) : Nat := l.countP fun y => y == b
def aloneE (x : End) (b : Int) : Bool := if ((cntI b (edgesR x) : Int) == 1) = true then x.to == b else false
def writtenR (x : End) (b : Int) : Int := if aloneE x b = true then writesEnd x else -1
def insideB (r : Int) (p : Bool) (y : Ins) : Bool := if (writesR y == r) = true then (if p = true then true else y.op != 19) else false
def fateI (r : Int) (p : Bool) : List Ins -> Int
 | [] => 0
 | y :: t => if hasI (readsR y) r = true then 1 else if insideB r p y = true then 2 else fateI r p t
def fateR (x : Block) (r : Int) (p : Bool) : Int := if fateI r p x.ins = 0 then (if hasI (readsEnd x.fin) r = true then 1 else 0) else fateI r p x.ins
def phiW (y : Block) (r : Int) : Bool := (phisR y).any fun z => z.to == r
def entersR (x y : Block) (A : List Int) (a b r : Int) : Int := if (writtenR x.fin b == r) = true then 2 else if hasI (givenR A a y) r = true then 1 else if phiW y r = true then 2 else 0
def withinR (n : Nat) (b : Int) : Bool := if decide (0 <= b) = true then decide (b < (n : Int)) else false
theorem withinR_iff {n : Nat} {b : Int} : withinR n b = true ↔ 0 <= b /\ b < n := by unfold withinR; split <;> simp_all; omega
end Go.Argus
namespace Go.Proofs.Tryz.K
set_option maxRecDepth 10000
theorem k110 {l : List Int} {v : Int} : PCall Tryz.prog 110 [encInts l, I v] (I (idxF (fun y => v == y) l)) := by
 refine pcall_real ok110.he (.cons (tr_ints _) (.cons (.s _) .nil)) fun hreal => ?_
 have hlen := (hreal (encInts l) (by simp)).sl.1
 unfold maxLen at hlen
 refine pcall_of mixed ok110 (by rw [nt110]; rfl) (.cons (tr_ints _) (.cons (.s _) .nil)) (Tr.s _) ?_
 rw [rs110, sk110]
 refine ws ?_;refine J3 ?_
 refine ao_end (w_assoc (w_seq_region_g ?_))
 refine J17 ?_;refine J14 ?_;refine J0 ?_
 refine ao_end (w_then (fun s => Ghost Tryz.prog s ⟨envL [], fun _ => none, 0⟩ /\ ∀ (j : Nat) y, l[j]? = some y -> (v == y) = false) (w_range (α := Nat) (fun k => ⟨envL [(0, encInts l), (1, I v), (7, I l.length), (8, I k)], fun _ => none, 0⟩)
  (fun k => k <= l.length /\ ∀ j y, j < k -> l[j]? = some y -> (v == y) = false) (fun k => l.length - k) 0 (ghost_of ⟨rfl, rfl, rfl, rfl, trivial⟩) ⟨by omega, fun j y hj => by omega⟩ ?_) ?_)
 ·rintro k ⟨hk, hinv⟩
  refine J16 ?_
  refine ao_end ⟨_, rfl, fun h => ?_, fun h => ?_⟩
  ·have hlt : k < l.length := by simpa using h
   have hx : l[k]? = some l[k] := by simp [hlt]
   generalize l[k] = x at hx
   refine ws ?_;refine J0 ?_;refine J3 ?_;refine er ?_;refine J0 ?_;refine J17 ?_;refine J0 ?_;refine J25 ?_;refine J4 ?_;refine J8 ?_
   refine ao_end (w_if rfl (fun hp => ?_) fun hp => ?_)
   ·refine ws ?_;refine J0 ?_;refine J3 ?_
    refine ao_end (w_ret (j_body (j_seq (q_ret1 rfl ?_))))
    rw [idxF_some hx hp hinv]
    rfl
   ·refine w_end ?_
    refine J10 ?_;refine J0 ?_
    refine ao_end (next_of (k + 1) (ghost_of ⟨rfl, rfl, rfl, rfl, trivial⟩) ⟨by omega, fun j y hj hy => ?_⟩ (by omega))
    by_cases e : j = k
    ·subst e; rw [hx] at hy; cases hy; exact hp
    ·exact hinv j y (by omega) hy
  ·have hge : ¬ k < l.length := by simpa using h
   exact ⟨.forget _ _ _ _ fun _ => .inr rfl, fun j y hy => hinv j y (by have := (List.getElem?_eq_some_iff.1 hy).1; omega) hy⟩
 ·rintro s ⟨hg, hnone⟩
  refine ⟨_, hg, w_seq_region ?_⟩
  refine J3 ?_
  refine ao_end (q_ret1 rfl ?_)
  rw [idxF_none hnone]
  rfl
theorem k54 {l : List Int} {v : Int} : PCall Tryz.prog 54 [encInts l, I v] (B (hasI l v)) := by
 have k110 := k110 (l := l) (v := v)
 refine pcall_of mixed ok54 (by rw [nt54]; rfl) (.cons (tr_ints _) (.cons (.s _) .nil)) (Tr.s _) ?_
 rw [rs54, sk54]
 refine ws ?_;refine J1 ?_;refine er ?_;refine J17 ?_;refine J0 ?_;refine cl k110 ?_;refine J60 ?_;refine J1 ?_
 refine ao_end (q_ret1 (d := .s (.bool _)) rfl ?_)
 rw [hasI, <- idxF_any]
theorem k177 {x : Ins} : PCall Tryz.prog 177 [.agg (encIns x)] (B (x.op != 19)) := by
 have htr : ∀ a ∈ [D.agg (encIns x)], Tr a := .cons (.agg (trs_ins x)) .nil
 refine pcall_of mixed ok177 (by rw [nt177]; rfl) htr (Tr.s _) ?_
 rw [rs177, sk177]
 refine w_seq_region_g ?_
 refine J68 ?_;refine J1 ?_
 refine ao_end (w_ghost (ghost_fr [(0, encIns x, 66)] ⟨rfl, trivial⟩ (l := [(1, .pt (encIns x))]) ⟨rfl, trivial⟩) (w_seq_region ?_))
 refine J5 ?_;refine J4 ?_;refine J39 ?_;refine J1 ?_
 refine ao_end (q_ret1 (d := .s (.bool _)) rfl ?_)
 rfl
section
variable {f : Flow} {beh ahd : List (List Int)} {c : D} (hc : Tr c) (hc1 : c.one = true)
include hc hc1
theorem k69 {b : Int} : PCall Tryz.prog 69 [.pt (encGraph f beh ahd c), I b] (B (withinR f.blocks.length b)) := by
 have _ := hc1; refine pcall_of mixed ok69 (by rw [nt69]; rfl) (.cons (tr_graph hc) (.cons (.s _) .nil)) (Tr.s _) ?_
 rw [rs69, sk69]
 refine ws ?_;refine J1 ?_;refine er ?_;refine J0 ?_;refine J60 ?_;refine J2 ?_;refine J11 ?_;refine J59 ?_;refine J74 ?_;refine J7 ?_;refine J7 ?_;refine J6 ?_;refine J27 ?_;refine J92 ?_;refine J9 ?_;refine J1 ?_
 refine ao_end (q_ret1 (d := .s (.bool _)) rfl ?_)
 simp [withinR]
theorem k141 {b : Int} {k : Nat} {x : Block} (hb : b = k) (hx : f.blocks[k]? = some x) (hl : x.ins.length <= 100000) : PCall Tryz.prog 141 [.pt (encGraph f beh ahd c), I b] (encInss (phisR x)) := by
 have _ := hc1; subst hb
 have k158 := k158 (l := x.ins) (g := 177) (fs := []) (cs := []) (p := fun y => y.op != 19) (.fn (by simp) (by simp)) (fun x _ => k177)
 refine pcall_of mixed ok141 (by rw [nt141]; rfl) (.cons (tr_graph hc) (.cons (.s _) .nil)) (tr_inss _) ?_
 have hlt := (List.getElem?_eq_some_iff.1 hx).1
 rw [rs141, sk141]
 refine ws ?_;refine J23 ?_;refine er ?_;refine J30 ?_;refine J48 ?_;refine J5 ?_;refine J5 ?_;refine J4 ?_;refine J0 ?_;refine J50 ?_;refine J5 ?_;refine J4 ?_;refine J44 ?_;refine er ?_;refine J17 ?_;refine cl k158 ?_;refine J3 ?_
 refine ao_end (w_assoc (w_seq_region ?_))
 have fin : ∀ j : Nat, j <= x.ins.length -> x.ins.takeWhile isPhi = x.ins.take j -> AW Tryz.prog noY true (.seq (.region 5 (Z body141 47) false) .ret) (retQ Tryz.prog [.tmp 4] fun d x' => d = encInss (phisR x)) ⟨envL [(5, encInss x.ins), (6, I j)], fun _ => none, 0⟩ := fun j hj h2 => by
  refine ws ?_;refine J17 ?_;refine J0 ?_;refine J0 ?_
  refine ao_p (e_slice3 rfl V.h V.h rfl rfl rfl rfl) ak ⟨V.h, rfl, by omega, by omega, by omega, by omega⟩ ?_
  refine J44 ?_
  refine ao_end (q_ret1 rfl ?_)
  rw [phisR, h2]
  exact sl_take len_encIns hj
 rcases phis_spec x.ins with ⟨h1, h2⟩ | ⟨j, hj, h1, h2⟩
 ·rw [h1]
  refine J0 ?_;refine J16 ?_
  refine ao_end (w_seq_if rfl (fun _ => w_seq_region_g ?_) fun h => (by cases h))
  refine J17 ?_;refine J14 ?_;refine J3 ?_
  exact ao_end (w_ghost (ghost_of (l := [(5, encInss x.ins), (6, I x.ins.length)]) ⟨rfl, rfl, trivial⟩) (fin _ (Nat.le_refl _) h2))
 ·rw [h1]
  have klss : decide ((j : Int) < 0) = false := by simp
  refine J0 ?_
  refine ao_p (e_lssK rfl rfl klss) ak rfl ?_
  refine ao_end (w_seq_if rfl (fun h => (by cases h)) fun _ => w_seq_skip_g (w_ghost (ghost_of (l := [(5, encInss x.ins), (6, I j)]) ⟨rfl, rfl, trivial⟩) (fin j hj h2)))
end
theorem k174 {x : Argus.End} {b : Int} (hlen : x.whens.length <= 1000) : PCall Tryz.prog 174 [.agg (encEnd x), I b] (B (aloneE x b)) := by
 have htr : ∀ a ∈ [D.agg (encEnd x), I b], Tr a := .cons (.agg (trs_end x)) (.cons (.s _) .nil)
 have k115 := k115 (x := x) (by omega)
 have hl := len_edges x
 refine pcall_of mixed ok174 (by rw [nt174]; rfl) htr (Tr.s _) ?_
 rw [rs174, sk174]
 refine w_seq_region_g ?_
 refine J64 ?_;refine J1 ?_
 refine ao_end (w_ghost (ghost_fr [(0, encEnd x, 69)] ⟨rfl, trivial⟩ (l := [(1, I b), (2, .pt (encEnd x))]) ⟨rfl, rfl, trivial⟩) (w_seq_region ?_))
 refine J3 ?_
 have hal : aloneE x b = if ((cntI b (edgesR x) : Int) == 1) = true then x.to == b else false := rfl
 generalize edgesR x = l at k115 hl hal
 refine ao_end (w_assoc (w_seq_region_g ?_))
 refine J69 ?_
 refine ao_oc k115 rfl (by repeat' (first | exact trivial | exact rfl | refine And.intro ?_ ?_)) ?_
 refine J147 ?_;refine J0 ?_
 refine ao_end (w_then (fun s => Ghost Tryz.prog s ⟨envL [(1, I b), (2, .pt (encEnd x)), (5, I (cntI b l))], fun _ => none, 2⟩) (w_range (α := Nat) (fun k => ⟨envL [(1, I b), (2, .pt (encEnd x)), (5, I (cntI b (l.take k))), (9, encInts l), (10, I l.length), (11, I k)], fun _ => none, 2⟩)
  (fun k => k <= l.length) (fun k => l.length - k) 0 (ghost_fz (i := 1) (up_same _ _ _) ⟨rfl, rfl, rfl, sub_rs_eq (by rw [c3]; simp), rfl, rfl, trivial⟩) (by omega) ?_) ?_)
 ·intro k hk
  refine J16 ?_
  refine ao_end ⟨_, rfl, fun h => ?_, fun h => ?_⟩
  ·have hlt : k < l.length := by simpa using h
   have hx : l[k]? = some l[k] := by simp [hlt]
   have hs : cntI b (l.take (k + 1)) = cntI b (l.take k) + (if l[k] = b then 1 else 0) := by
    unfold cntI
    rw [List.take_add_one, hx, List.countP_append]
    by_cases e : l[k] = b <;> simp [e]
   have hle : cntI b (l.take k) <= k := Nat.le_trans List.countP_le_length (by simp; omega)
   generalize cntI b (l.take k) = q at hs hle
   generalize l[k] = y at hx hs
   refine ws ?_;refine J25 ?_;refine J4 ?_;refine J3 ?_;refine er ?_;refine J0 ?_;refine J0 ?_;refine J8 ?_
   refine ao_end (w_if rfl (fun hp => ?_) fun hp => ?_)
   ·have hp : y = b := by simpa using hp
    refine w_regB2 ?_
    refine J0 ?_;refine J10 ?_;refine J3 ?_
    refine ao_end ?_
    refine J10 ?_;refine J0 ?_
    refine ao_end (next_of (k + 1) (ghost_of ⟨rfl, rfl, ?_, rfl, rfl, rfl, trivial⟩) (by omega) (by omega))
    rw [hs, if_pos hp]; rfl
   ·have hp : ¬ y = b := by simpa using hp
    refine w_end ?_
    refine J10 ?_;refine J0 ?_
    refine ao_end (next_of (k + 1) (ghost_of ⟨rfl, rfl, ?_, rfl, rfl, rfl, trivial⟩) (by omega) (by omega))
    rw [hs, if_neg hp]; rfl
  ·have hge : ¬ k < l.length := by simpa using h
   have : k = l.length := by omega
   subst this
   rw [List.take_length]
   exact ghost_of ⟨rfl, rfl, rfl, trivial⟩
 ·intro s hg
  refine ⟨_, hg, w_seq_region ?_⟩
  refine J0 ?_;refine J8 ?_;refine J2 ?_;refine J7 ?_;refine J6 ?_;refine J11 ?_;refine J19 ?_;refine J9 ?_;refine J1 ?_
  refine ao_end (q_ret1 (d := .s (.bool _)) rfl ?_)
  rw [hal]
theorem k136 {x : Argus.End} {b : Int} (hlen : x.whens.length <= 1000) : PCall Tryz.prog 136 [.agg (encEnd x), I b] (I (writtenR x b)) := by
 have htr : ∀ a ∈ [D.agg (encEnd x), I b], Tr a := .cons (.agg (trs_end x)) (.cons (.s _) .nil)
 have k174 := k174 (x := x) (b := b) hlen
 have k175 := k175 (x := x)
 refine pcall_of mixed ok136 (by rw [nt136]; rfl) htr (Tr.s _) ?_
 rw [rs136, sk136]
 refine w_seq_region_g ?_
 refine J64 ?_;refine J3 ?_
 refine ao_end (w_ghost (ghost_fr [(0, encEnd x, 69)] ⟨rfl, trivial⟩ (l := [(1, I b), (2, .pt (encEnd x))]) ⟨rfl, rfl, trivial⟩) (w_assoc (w_seq_region ?_)))
 refine J69 ?_;refine J0 ?_;refine cl k174 ?_
 refine ao_end (w_seq_if rfl (fun h => ?_) fun h => w_seq_skip (w_seq_region ?_))
 ·refine w_assoc (w_seq_region ?_)
  refine J69 ?_;refine cl k175 ?_;refine J3 ?_
  refine ao_end (w_seq_ret (q_ret1 rfl ?_))
  rw [writtenR, if_pos h]
  rfl
 ·refine J3 ?_
  refine ao_end (q_ret1 rfl ?_)
  rw [writtenR, if_neg (by simp [h])]
  rfl
theorem k142 {x : Ins} {r : Int} : PCall Tryz.prog 142 [.agg (encIns x), .pt [I r]] (B (x.to == r)) := by
 have htr : ∀ a ∈ [D.agg (encIns x), .pt [I r]], Tr a := .cons (.agg (trs_ins x)) (.cons (.pt (.cons (.s _) .nil)) .nil)
 refine pcall_of mixed ok142 (by rw [nt142]; rfl) htr (Tr.s _) ?_
 rw [rs142, sk142]
 refine w_seq_region_g ?_
 refine J68 ?_;refine J1 ?_
 refine ao_end (w_ghost (ghost_fr [(0, encIns x, 66)] ⟨rfl, trivial⟩ (l := [(1, .pt [I r]), (2, .pt (encIns x))]) ⟨rfl, rfl, trivial⟩) (w_seq_region ?_))
 refine J5 ?_;refine J4 ?_;refine J4 ?_;refine J8 ?_;refine J1 ?_
 refine ao_end (q_ret1 (d := .s (.bool _)) rfl ?_)
 rfl
theorem k143 {x : Ins} {r : Int} : PCall Tryz.prog 143 [.agg (encIns x), .pt [I r]] (B (x.to == r)) := by
 have htr : ∀ a ∈ [D.agg (encIns x), .pt [I r]], Tr a := .cons (.agg (trs_ins x)) (.cons (.pt (.cons (.s _) .nil)) .nil)
 refine pcall_of mixed ok143 (by rw [nt143]; rfl) htr (Tr.s _) ?_
 rw [rs143, sk143]
 refine w_seq_region_g ?_
 refine J68 ?_;refine J1 ?_
 refine ao_end (w_ghost (ghost_fr [(0, encIns x, 66)] ⟨rfl, trivial⟩ (l := [(1, .pt [I r]), (2, .pt (encIns x))]) ⟨rfl, rfl, trivial⟩) (w_seq_region ?_))
 refine J5 ?_;refine J4 ?_;refine J4 ?_;refine J8 ?_;refine J1 ?_
 refine ao_end (q_ret1 (d := .s (.bool _)) rfl ?_)
 rfl
theorem k144 {x : Ins} {r : Int} {p : Bool} : PCall Tryz.prog 144 [.agg (encIns x), .pt [I r], .pt [B p]] (B (insideB r p x)) := by
 have htr : ∀ a ∈ [D.agg (encIns x), .pt [I r], .pt [B p]], Tr a := .cons (.agg (trs_ins x)) (.cons (.pt (.cons (.s _) .nil)) (.cons (.pt (.cons (.s _) .nil)) .nil))
 have k139 := k139 (x := x)
 refine pcall_of mixed ok144 (by rw [nt144]; rfl) htr (Tr.s _) ?_
 rw [rs144, sk144]
 refine w_seq_region_g ?_
 refine J68 ?_;refine J1 ?_
 refine ao_end (w_ghost (ghost_fr [(0, encIns x, 66)] ⟨rfl, trivial⟩ (l := [(1, .pt [I r]), (2, .pt [B p]), (3, .pt (encIns x))]) ⟨rfl, rfl, rfl, trivial⟩) (w_seq_draw di_r144_1 ?_))
 refine J56 ?_;refine cl k139 ?_;refine J4 ?_;refine J8 ?_;refine J2 ?_;refine J6 ?_;refine J28 ?_;refine J7 ?_;refine J6 ?_;refine J58 ?_;refine J65 ?_;refine J9 ?_;refine J1 ?_
 refine ao_endc (by simp [apartT]) (q_ret1 (d := .s (.bool _)) rfl ?_)
 rfl
section
variable {f : Flow} {beh ahd : List (List Int)} {c : D} (hc : Tr c) (hc1 : c.one = true)
include hc hc1
theorem k71 {b r : Int} {k : Nat} {x : Block} (hb : b = k) (hx : f.blocks[k]? = some x) (hl : x.ins.length <= 100000) : PCall Tryz.prog 71 [.pt (encGraph f beh ahd c), I b, I r] (B (phiW x r)) := by
 have k141 := k141 (beh := beh) (ahd := ahd) hc hc1 hb hx hl
 have k100 := k100 (l := phisR x) (g := 143) (fs := []) (cs := [.pt [I r]]) (p := fun z => z.to == r) (.fn (by simp) (.cons (.pt (.cons (.s _) .nil)) .nil)) (fun x _ => k143)
 refine pcall_of mixed ok71 (by rw [nt71]; rfl) (.cons (tr_graph hc) (.cons (.s _) (.cons (.s _) .nil))) (Tr.s _) ?_
 rw [rs71, sk71]
 refine w_seq_region_g ?_
 refine J85 ?_;refine J1 ?_
 refine ao_end (w_ghost (ghost_fr [(0, [I r], 3)] ⟨rfl, trivial⟩ (l := [(0, .pt (encGraph f beh ahd c)), (1, I b), (5, .pt [I r])]) ⟨rfl, rfl, rfl, trivial⟩) (w_seq_region ?_))
 refine J30 ?_;refine J0 ?_;refine cl k141 ?_;refine J63 ?_;refine cl k100 ?_;refine J1 ?_
 refine ao_end (q_ret1 (d := .s (.bool _)) rfl ?_)
 rfl
theorem k73 {b r : Int} {p : Bool} {k : Nat} {x : Block} (hb : b = k) (hx : f.blocks[k]? = some x) : PCall Tryz.prog 73 [.pt (encGraph f beh ahd c), I b, I r, B p] (B (x.ins.any (insideB r p))) := by
 have _ := hc1; subst hb
 have hlt := (List.getElem?_eq_some_iff.1 hx).1
 have k100 := k100 (l := x.ins) (g := 144) (fs := []) (cs := [.pt [I r], .pt [B p]]) (p := insideB r p) (.fn (by simp) (.cons (.pt (.cons (.s _) .nil)) (.cons (.pt (.cons (.s _) .nil)) .nil))) (fun x _ => k144)
 refine pcall_of mixed ok73 (by rw [nt73]; rfl) (.cons (tr_graph hc) (.cons (.s _) (.cons (.s _) (.cons (.s _) .nil)))) (Tr.s _) ?_
 rw [rs73, sk73]
 refine w_seq_region_g ?_
 refine J85 ?_
 refine ao_a (e_box1 (d := .s (.bool _)) rfl rfl) ak rfl ?_
 refine J1 ?_
 refine ao_end (w_ghost (ghost_fr [(0, [I r], 3), (1, [B p], 4)] ⟨rfl, rfl, trivial⟩ (l := [(0, .pt (encGraph f beh ahd c)), (1, I k), (6, .pt [I r]), (7, .pt [B p])]) ⟨rfl, rfl, rfl, rfl, trivial⟩) (w_seq_region ?_))
 refine J30 ?_;refine J48 ?_;refine J5 ?_;refine J5 ?_;refine J4 ?_;refine J0 ?_;refine J50 ?_;refine J5 ?_;refine J4 ?_;refine J63 ?_;refine cl k100 ?_;refine J1 ?_
 refine ao_end (q_ret1 (d := .s (.bool _)) rfl ?_)
 rfl
theorem k72 {b r : Int} {p : Bool} {k : Nat} {x : Block} (hb : b = k) (hx : f.blocks[k]? = some x) (hl : x.ins.length <= 100000) (hr : ∀ y ∈ x.ins, y.op = 10 \/ y.op = 38 -> y.args.length <= 1000)
  (he : x.fin.kind = 5 -> x.fin.ins.op = 10 \/ x.fin.ins.op = 38 -> x.fin.ins.args.length <= 1000) (he' : x.fin.kind = 6 \/ x.fin.kind = 7 -> x.fin.args.length <= 1000) :
  PCall Tryz.prog 72 [.pt (encGraph f beh ahd c), I b, I r, B p] (U8 (fateR x r p)) := by
 have _ := hc1; subst hb
 have hlt := (List.getElem?_eq_some_iff.1 hx).1
 refine pcall_of mixed ok72 (by rw [nt72]; rfl) (.cons (tr_graph hc) (.cons (.s _) (.cons (.s _) (.cons (.s _) .nil)))) (Tr.s _) ?_
 rw [rs72, sk72]
 refine ws ?_;refine J3 ?_
 refine ao_end (w_seq_region_g ?_)
 refine J30 ?_;refine J48 ?_;refine J5 ?_;refine J5 ?_;refine J4 ?_;refine J0 ?_;refine J50 ?_;refine J61 ?_;refine J22 ?_
 refine ao_w (e_storeA (cs' := encBlock _) rfl rfl rfl rfl) ak (p_store V.h V.h (by first | (simp; done) | exact ⟨rfl, Nat.le_of_ble_eq_true rfl⟩ | (simp; omega)) (by rfl)) ?_
 refine ao_end (w_ghost (ghost_fz (i := 0) (l := [(2, I r), (3, B p), (9, .pt (encBlock x))]) (up_same _ _ _) ⟨rfl, rfl, rfl, trivial⟩) (w_assoc (w_seq_region_g ?_)))
 refine J5 ?_;refine J4 ?_;refine J14 ?_;refine J0 ?_
 refine ao_end (w_then (fun s => (∃ nx, Ghost Tryz.prog s ⟨envL [(2, I r), (9, .pt (encBlock x))], fun _ => none, nx⟩) /\ fateI r p x.ins = 0) (w_range (α := Nat × Nat) (fun k => ⟨envL [(2, I r), (3, B p), (9, .pt (encBlock x)), (21, encInss x.ins), (22, I x.ins.length), (23, I k.1)], fun _ => none, k.2⟩)
  (fun k => k.1 <= x.ins.length /\ fateI r p x.ins = fateI r p (x.ins.drop k.1)) (fun k => x.ins.length - k.1) (0, _) (ghost_of ⟨rfl, rfl, rfl, rfl, rfl, rfl, trivial⟩) ⟨by omega, rfl⟩ ?_) ?_)
 ·rintro ⟨j, nx⟩ ⟨hj, hinv⟩
  dsimp only at hj hinv ⊢
  refine J16 ?_
  refine ao_end ⟨_, rfl, fun h => ?_, fun h => ?_⟩
  ·have hjl : j < x.ins.length := by simpa using h
   have hy : x.ins[j]? = some x.ins[j] := by simp [hjl]
   have hstep : fateI r p x.ins = if hasI (readsR x.ins[j]) r = true then 1 else if insideB r p x.ins[j] = true then 2 else fateI r p (x.ins.drop (j + 1)) := by
    rw [hinv, List.drop_eq_getElem_cons hjl]; rfl
   have hmem : x.ins[j] ∈ x.ins := List.getElem_mem _
   generalize x.ins[j] = y at hy hstep hmem
   have k140 := k140 (x := y) (hr y hmem)
   have k54 := k54 (l := readsR y) (v := r)
   have k139 := k139 (x := y)
   refine w_seq_region_g ?_
   refine J75 ?_;refine J56 ?_;refine J22 ?_;refine J89 ?_
   refine ao_end (w_ghost (ghost_fz (i := nx) (l := [(2, I r), (3, B p), (9, .pt (encBlock x)), (11, .pt (encIns y)), (21, encInss x.ins), (22, I x.ins.length), (23, I j)]) (up_same _ _ _) ⟨rfl, rfl, rfl, ?_, rfl, rfl, rfl, trivial⟩) (w_assoc (w_seq_region ?_)))
   ·exact fz_rp
   refine J56 ?_;refine cl k140 ?_;refine J0 ?_;refine cl k54 ?_
   refine ao_end (w_seq_if rfl (fun hp => ?_) fun hp => w_seq_skip (w_seq_region ?_))
   ·refine w_assoc (w_seq_region ?_)
    refine J3 ?_
    refine ao_end (w_seq_ret (j_body (j_seq (q_ret1 rfl ?_))))
    have e : fateI r p x.ins = 1 := by rw [hstep, if_pos hp]
    rw [fateR, e]
    rfl
   ·refine J56 ?_;refine cl k139 ?_;refine J0 ?_;refine J8 ?_;refine J2 ?_;refine J28 ?_;refine J28 ?_;refine J7 ?_;refine J6 ?_;refine J58 ?_;refine J65 ?_;refine J9 ?_
    refine ao_end (w_if rfl (fun hq => ?_) fun hq => ?_)
    ·refine ws ?_;refine J3 ?_
     refine ao_end (w_ret (j_body (j_seq (q_ret1 rfl ?_))))
     have e : fateI r p x.ins = 2 := by rw [hstep, if_neg (by simp [hp]), if_pos (show insideB r p y = true from hq)]
     rw [fateR, e]
     rfl
    ·refine w_end ?_
     refine J10 ?_;refine J0 ?_
     refine ao_end (next_of (j + 1, nx + 1) (ghost_of ⟨rfl, rfl, rfl, rfl, rfl, rfl, trivial⟩) ⟨by dsimp only; omega, ?_⟩ (by dsimp only; omega))
     rw [hstep, if_neg (by simp [hp]), if_neg (by rw [show insideB r p y = false from hq]; simp)]
  ·have hge : ¬ j < x.ins.length := by simpa using h
   refine ⟨⟨nx, ghost_of ⟨rfl, rfl, trivial⟩⟩, ?_⟩
   rw [hinv, List.drop_eq_nil_of_le (by omega)]; rfl
 ·rintro s ⟨⟨nx, hg⟩, hz⟩
  have k137 := k137 (x := x.fin) he he'
  have k54 := k54 (l := readsEnd x.fin) (v := r)
  refine ⟨_, hg, w_assoc (w_seq_region ?_)⟩
  refine J5 ?_;refine J69 ?_;refine cl k137 ?_;refine J0 ?_;refine cl k54 ?_
  refine ao_end (w_seq_if rfl (fun hp => ?_) fun hp => w_seq_skip (w_seq_region ?_))
  ·refine w_assoc (w_seq_region ?_)
   refine J3 ?_
   refine ao_end (w_seq_ret (q_ret1 rfl ?_))
   rw [fateR, if_pos hz, if_pos hp]
   rfl
  ·refine J3 ?_
   refine ao_end (q_ret1 rfl ?_)
   rw [fateR, if_pos hz, if_neg (by simp [hp])]
   rfl
end
end Go.Proofs.Tryz.K
end
section
open Go Go.Abs Go.Proofs Go.Argus
namespace Go.Argus
def backL (l : List Ins) : List (List D) := (List.range l.length).map fun i => [I ((l.length - 1 - i : Nat) : Int), .agg (encIns (l.getD (l.length - 1 - i) noIns0))]
@[simp] theorem len_backL (l : List Ins) : (backL l).length = l.length := by simp [backL]
theorem get_backL {l : List Ins} {i : Nat} {x : Ins} (hi : i < l.length) (hx : l[l.length - 1 - i]? = some x) : (backL l)[i]? = some [I ((l.length - 1 - i : Nat) : Int), .agg (encIns x)] := by
 unfold backL
 rw [List.getElem?_map, List.getElem?_range hi]
 simp [List.getD_eq_getElem?_getD, hx]
theorem idx_lt {l : List Int} {a : Int} (h : a ∈ l) : ∃ p : Nat, idxF (fun y => a == y) l = p /\ p < l.length := by
 unfold idxF
 cases e : l.findIdx? (fun y => a == y) with
 | none => rw [List.findIdx?_eq_none_iff] at e; have := e a h; simp at this
 | some p => exact ⟨p, rfl, (List.findIdx?_eq_some_iff_getElem.1 e).1⟩
end Go.Argus
namespace Go.Proofs.Tryz.K
set_option maxRecDepth 10000
section
variable {f : Flow} {beh ahd : List (List Int)} {c : D} (hc : Tr c) (hc1 : c.one = true)
include hc hc1
theorem k132 {a b : Int} {k : Nat} {x : Block} {A : List Int} (hb : b = k) (hx : f.blocks[k]? = some x) (hA : ahd[k]? = some A) (hl : x.ins.length <= 100000) (hin : ∀ y ∈ phisR x, y.args.length = A.length) (hm : a ∈ A) :
  PCall Tryz.prog 132 [.pt (encGraph f beh ahd c), I a, I b] (encInts (givenR A a x)) := by
 subst hb
 obtain ⟨p, hp, hpl⟩ := idx_lt hm
 have k110 := k110 (l := A) (v := a)
 rw [hp] at k110
 have k141 := k141 (f := f) (beh := beh) (ahd := ahd) hc hc1 rfl hx hl
 have hlp : (phisR x).length <= 100000 := by
  have : (phisR x).length <= x.ins.length := (List.takeWhile_prefix isPhi).length_le
  omega
 have hgv : givenR A a x = (phisR x).map fun y => y.args.getD p 0 := by rw [givenR, hp, Int.toNat_natCast]
 generalize phisR x = ph at k141 hlp hin hgv
 have hal := (List.getElem?_eq_some_iff.1 hA).1
 refine pcall_of mixed ok132 (by rw [nt132]; rfl) (.cons (tr_graph hc) (.cons (.s _) (.cons (.s _) .nil))) (tr_ints _) ?_
 rw [rs132, sk132]
 refine ws ?_;refine J23 ?_;refine er ?_;refine J30 ?_;refine J48 ?_;refine J5 ?_;refine J4 ?_;refine J0 ?_;refine J25 ?_;refine J4 ?_;refine J0 ?_;refine cl k110 ?_;refine J3 ?_
 refine ao_end (w_seq_region_g ?_)
 refine J23 ?_
 refine ao_end ⟨_, .nilrow _ _ _ 8 3 rfl, w_assoc (w_seq_region_g ?_)⟩
 refine J30 ?_;refine J0 ?_;refine cl k141 ?_;refine J14 ?_;refine J0 ?_
 refine ao_end (w_then (fun s => ∃ r m nx, Ghost Tryz.prog s ⟨envL [(8, .rs r 0 ph.length)], m, nx⟩ /\ m r = some (.cells ((ph.map fun y => y.args.getD p 0).map I) 3)) (w_range (α := Nat × Nat × Mem × Nat)
  (fun s => ⟨envL [(7, I p), (8, .rs s.2.1 0 s.1), (22, encInss ph), (23, I ph.length), (24, I s.1)], s.2.2.1, s.2.2.2⟩)
  (fun s => s.1 <= ph.length /\ s.2.1 < s.2.2.2 /\ s.2.2.1 s.2.1 = some (.cells (((ph.take s.1).map fun y => y.args.getD p 0).map I) 3)) (fun s => ph.length - s.1) (0, _, _, _)
  (ghost_of ⟨rfl, rfl, rfl, rfl, rfl, trivial⟩) ⟨Nat.zero_le _, Nat.lt_succ_self _, rfl⟩ ?_) ?_)
 ·rintro ⟨j, r, m, nx⟩ ⟨hj, hr, hrow⟩
  dsimp only at hj hr hrow ⊢
  refine J16 ?_
  refine ao_end ⟨_, rfl, fun h => ?_, fun h => ?_⟩
  ·have hjl : j < ph.length := by simpa using h
   have hy : ph[j]? = some ph[j] := by simp [hjl]
   have hmem : ph[j] ∈ ph := List.getElem_mem _
   have htk : ((ph.take (j + 1)).map fun y => y.args.getD p 0).map I = ((ph.take j).map fun y => y.args.getD p 0).map I ++ [I (ph[j].args.getD p 0)] := by
    rw [List.take_add_one, hy, List.map_append, List.map_append]; rfl
   have hlk : (((ph.take j).map fun y => y.args.getD p 0).map I).length = j := by simp; omega
   generalize ph[j] = y at hy hmem htk
   generalize ((ph.take j).map fun y => y.args.getD p 0).map I = cs at hrow htk hlk
   have hya := hin y hmem
   have hv : y.args[p]? = some y.args[p] := List.getElem?_eq_getElem (by omega)
   have hvd : y.args.getD p 0 = y.args[p] := by simp [List.getD_eq_getElem?_getD, hv]
   rw [hvd] at htk
   generalize y.args[p] = v at hv htk
   refine ws ?_;refine J75 ?_;refine J56 ?_;refine J22 ?_;refine J89 ?_
   refine ao_end (w_regB2 ?_)
   refine J12 ?_;refine J97 ?_;refine J137 ?_;refine J0 ?_;refine J25 ?_;refine J4 ?_;refine J35 ?_
   refine ao_m (e_appR rfl (mskip (by omega) (mskip (by omega) (mskip (by omega) hrow))) rfl V.h V.h (cells_rs (up_same _ _ _) rfl) rfl) ak ⟨V.h, rfl, (by first | omega | exact Nat.le_of_ble_eq_true rfl | (simp; done) | (simp; omega)), (by decide), (by first | rfl | (simp; done) | (simp; omega)), (by unfold maxLen; first | omega | (simp; omega)), (by rw [b3]; first | omega | (simp; omega)), (by first | (simp; done) | (simp; omega))⟩ ?_
   refine J18 ?_
   refine ao_end ?_
   refine J10 ?_;refine J0 ?_
   refine ao_end (next_of (j + 1, nx + 1 + 1, _, _) (ghost_of ⟨rfl, rfl, rfl, rfl, rfl, trivial⟩) ⟨by dsimp only; omega, by dsimp only; omega, ?_⟩ (by dsimp only; omega))
   dsimp only
   rw [htk]
   exact up_same _ _ _
  ·have hge : ¬ j < ph.length := by simpa using h
   have : j = ph.length := by omega
   subst this
   rw [List.take_length] at hrow
   exact ⟨r, m, nx, ghost_of ⟨rfl, trivial⟩, hrow⟩
 ·rintro s ⟨r, m, nx, hg, hrow⟩
  refine ⟨_, hg, w_seq_region_g ?_⟩
  refine J12 ?_;refine J18 ?_
  refine ao_end (w_ghost (ghost_fz hrow (l := [(6, encInts (givenR A a x))]) ⟨?_, trivial⟩) (q_ret1 rfl rfl))
  rw [hgv]
  exact (sub_rs_eq (by rw [c3]; simp)).trans (by simp)
theorem k70 {a b r : Int} {ka kb : Nat} {xa xb : Block} {A : List Int} (ha : a = ka) (hb : b = kb) (hxa : f.blocks[ka]? = some xa) (hxb : f.blocks[kb]? = some xb) (hA : ahd[kb]? = some A) (hl : xb.ins.length <= 100000)
  (hin : ∀ y ∈ phisR xb, y.args.length = A.length) (hm : a ∈ A) (hw : xa.fin.whens.length <= 1000) : PCall Tryz.prog 70 [.pt (encGraph f beh ahd c), I a, I b, I r] (U8 (entersR xa xb A a b r)) := by
 have k132 := k132 (f := f) (beh := beh) (ahd := ahd) hc hc1 hb hxb hA hl hin hm
 have k141 := k141 (f := f) (beh := beh) (ahd := ahd) hc hc1 hb hxb hl
 have k136 := k136 (x := xa.fin) (b := b) hw
 have k54 := k54 (l := givenR A a xb) (v := r)
 have k100 := k100 (l := phisR xb) (g := 142) (fs := []) (cs := [.pt [I r]]) (p := fun z => z.to == r) (.fn (by simp) (.cons (.pt (.cons (.s _) .nil)) .nil)) (fun x _ => k142)
 subst ha
 have hlt := (List.getElem?_eq_some_iff.1 hxa).1
 refine pcall_of mixed ok70 (by rw [nt70]; rfl) (.cons (tr_graph hc) (.cons (.s _) (.cons (.s _) (.cons (.s _) .nil)))) (Tr.s _) ?_
 rw [rs70, sk70]
 refine w_seq_region_g ?_
 refine J85 ?_;refine J3 ?_
 refine ao_end (w_ghost (ghost_fr [(0, [I r], 3)] ⟨rfl, trivial⟩ (l := [(0, .pt (encGraph f beh ahd c)), (1, I ka), (2, I b), (7, .pt [I r])]) ⟨rfl, rfl, rfl, rfl, trivial⟩) (w_seq_blk (w_seq_draw di_r70_1 ?_)))
 refine J30 ?_;refine J48 ?_;refine J5 ?_;refine J5 ?_;refine J4 ?_;refine J0 ?_;refine J50 ?_;refine J5 ?_;refine J69 ?_;refine J0 ?_;refine cl k136 ?_;refine J4 ?_;refine J8 ?_;refine J1 ?_
 refine ao_endc (by simp [apartT]) (w_if rfl (fun h => w_seq_region ?_) fun h => w_seq_draw di_r70_3 ?_)
 ·refine J3 ?_
  refine ao_end (w_ret (j_block (j_seq (q_ret1 (d := U8 2) rfl ?_))))
  rw [entersR, if_pos h]
 ·refine J30 ?_;refine J0 ?_;refine J0 ?_;refine cl k132 ?_;refine J4 ?_;refine cl k54 ?_;refine J1 ?_
  refine ao_endc (by simp [apartT]) (w_if rfl (fun h' => w_seq_region ?_) fun h' => w_seq_region ?_)
  ·refine J3 ?_
   refine ao_end (w_ret (j_block (j_seq (q_ret1 (d := U8 1) rfl ?_))))
   rw [entersR, if_neg (by simp [h]), if_pos h']
  ·refine J30 ?_;refine J0 ?_;refine cl k141 ?_;refine J63 ?_;refine cl k100 ?_;refine J1 ?_
   refine ao_end (w_if rfl (fun h2 => w_seq_region ?_) fun h2 => w_endB (w_seq_region ?_))
   ·refine J3 ?_
    refine ao_end (w_ret (j_block (j_seq (q_ret1 (d := U8 2) rfl ?_))))
    rw [entersR, if_neg (by simp [h]), if_neg (by simp [h']), if_pos (show phiW xb r = true from h2)]
   ·refine J3 ?_
    refine ao_end (q_ret1 (d := U8 0) rfl ?_)
    rw [entersR, if_neg (by simp [h]), if_neg (by simp [h']), if_neg (by rw [phiW, h2]; simp)]
end
theorem k66 {w : List Int} {n : Nat} (hw : w.length = 19) (hn : n <= 1200) : PCall Tryz.prog 66 [encW w, I n] (encInts (listW w n)) := by
 refine pcall_of mixed ok66 (by rw [nt66]; rfl) (.cons (tr_w _) (.cons (.s _) .nil)) (tr_ints _) ?_
 rw [rs66, sk66]
 refine w_seq_region_g ?_
 refine J54 ?_;refine J23 ?_
 refine ao_end (w_ghost (ghost_fr [(0, w.map U64, 100)] ⟨rfl, trivial⟩ (l := [(1, I n), (2, .pt (w.map U64))]) ⟨rfl, rfl, trivial⟩) (w_seq_region_g ?_))
 refine J23 ?_
 refine ao_end ⟨_, .nilrow _ _ _ 5 3 rfl, w_assoc (w_seq_region_g ?_)⟩
 refine J0 ?_;refine J0 ?_
 refine ao_end (w_then (fun s => ∃ r l m nx, Ghost Tryz.prog s ⟨envL [(5, .rs r 0 l)], m, nx⟩ /\ m r = some (.cells ((listW w n).map I) 3) /\ l = (listW w n).length) (w_range (α := Nat × Nat × Nat × Mem × Nat)
  (fun s => ⟨envL [(1, I n), (2, .pt (w.map U64)), (5, .rs s.2.1 0 s.2.2.1), (7, I n), (8, I s.1)], s.2.2.2.1, s.2.2.2.2⟩)
  (fun s => s.1 <= n /\ s.2.1 < s.2.2.2.2 /\ s.2.2.2.1 s.2.1 = some (.cells ((listW w s.1).map I) 3) /\ s.2.2.1 = (listW w s.1).length /\ s.2.2.1 <= s.1) (fun s => n - s.1) (0, _, 0, _, _)
  (ghost_of ⟨rfl, rfl, rfl, rfl, rfl, trivial⟩) ⟨Nat.zero_le _, Nat.lt_succ_self _, rfl, rfl, Nat.le_refl _⟩ ?_) ?_)
 ·rintro ⟨j, r, l, m, nx⟩ ⟨hj, hr, hrow, hll, hlj⟩
  dsimp only at hj hr hrow hll hlj ⊢
  refine J16 ?_
  refine ao_end ⟨_, rfl, fun h => ?_, fun h => ?_⟩
  ·have hjl : j < n := by simpa using h
   have k82 := k82 (w := w) (m := j) hw (by omega)
   have hstep := listW_succ w j
   generalize listW w j = L at hrow hll hstep
   refine ws ?_;refine J0 ?_;refine J3 ?_;refine er ?_
   refine ao_p (e_loadA rfl V.h V.h (takeW2 (by first | rfl | exact Nat.le_of_ble_eq_true rfl | (simp; done) | (simp; omega) | omega))) ak (p_loadA V.h V.h (by first | rfl | exact Nat.le_of_ble_eq_true rfl | (simp; done) | (simp; omega) | omega)) ?_
   refine J0 ?_;refine cl k82 ?_
   refine ao_end (w_if rfl (fun hp => ?_) fun hp => ?_)
   ·rw [if_pos hp] at hstep
    have hlk : (L.map I).length = l := by simp [hll]
    refine w_regB2 ?_
    refine J12 ?_;refine J0 ?_;refine J35 ?_;refine J101 ?_;refine J18 ?_
    refine ao_end ?_
    refine J10 ?_;refine J0 ?_
    refine ao_end (next_of (j + 1, nx + 1, l + 1, _, _) (ghost_of ⟨rfl, rfl, rfl, rfl, rfl, trivial⟩) ⟨by dsimp only; omega, by dsimp only; omega, ?_, ?_, ?_⟩ (by dsimp only; omega))
    ·dsimp only
     rw [hstep, List.map_append]
     exact up_same _ _ _
    ·dsimp only; rw [hstep]; simp [hll]
    ·dsimp only; omega
   ·rw [if_neg (by simp [hp])] at hstep
    refine w_end ?_
    refine J10 ?_;refine J0 ?_
    exact ao_end (next_of (j + 1, r, l, m, nx) (ghost_of ⟨rfl, rfl, rfl, rfl, rfl, trivial⟩) ⟨by dsimp only; omega, by dsimp only; omega, by rw [hstep]; exact hrow, by rw [hstep]; exact hll, by dsimp only; omega⟩ (by dsimp only; omega))
  ·have hge : ¬ j < n := by simpa using h
   have : j = n := by omega
   subst this
   exact ⟨r, l, m, nx, ghost_of ⟨rfl, trivial⟩, hrow, hll⟩
 ·rintro s ⟨r, l, m, nx, hg, hrow, hll⟩
  generalize listW w n = L at hrow hll ⊢
  refine ⟨_, hg, w_seq_region_g ?_⟩
  refine J12 ?_;refine J18 ?_
  refine ao_end (w_ghost (ghost_fz hrow (l := [(4, encInts L)]) ⟨?_, trivial⟩) (q_ret1 rfl rfl))
  subst hll
  exact (sub_rs_eq (by rw [c3]; simp)).trans (by simp)
theorem k138 {l : List Ins} : PCall Tryz.prog 138 [encInss l] (.fn (.func 176) [] [.pt [encInss l]]) := by
 have htr : ∀ a ∈ [encInss l], Tr a := .cons (tr_inss l) .nil
 refine pcall_of mixed ok138 (by rw [nt138]; rfl) htr (.fn (by simp) (.cons (.pt (.cons (tr_inss l) .nil)) .nil)) ?_
 rw [rs138, sk138]
 refine w_seq_region_g ?_
 refine ao_a (e_box1 (d := .sl _ _) rfl rfl) ak rfl ?_
 refine ao_p (e_assign (v := .s .nilFunc) rfl) ak trivial ?_
 refine ao_end (w_ghost (ghost_fr [(0, [encInss l], 70)] ⟨rfl, trivial⟩ (l := [(1, .pt [encInss l])]) ⟨rfl, trivial⟩) (w_seq_region ?_))
 refine J63 ?_;refine J136 ?_
 exact ao_end (q_ret1 rfl rfl)
theorem s176 {l : List Ins} (hlen : l.length <= 100000) : SeqA Tryz.prog 176 [] [.pt [encInss l]] (backL l) := by
 refine seq_of mixed ok176 (by rw [nt176]; rfl) fun L I' Stop m nx hI hStop h0 => ?_
 rw [rs176, sk176]
 refine w_seq_region_g ?_
 refine J4 ?_;refine J14 ?_;refine J66 ?_;refine J3 ?_
 refine ao_end (w_for (α := Nat × Mem × Nat) (fun k => ⟨envL [(0, .fn (.yield L) [] []), (1, .pt [encInss l]), (3, I ((l.length : Int) - 1 - k.1))], k.2.1, k.2.2⟩)
  (fun k => k.1 <= l.length /\ I' k.1 k.2.1 k.2.2) (fun k => l.length - k.1) (0, m, nx) (ghost_of ⟨rfl, rfl, congrArg (fun z : Int => I z) (show (l.length : Int) - 1 = (l.length : Int) - 1 - ((0 : Nat) : Int) by omega), trivial⟩) ⟨by omega, h0⟩ ?_)
 rintro ⟨k, m, nx⟩ ⟨hk, hI3⟩
 dsimp only at hk hI3 ⊢
 refine J0 ?_;refine J60 ?_
 refine ao_end ⟨_, rfl, fun h => ?_, fun h => ?_⟩
 ·have hlt : k < l.length := by have h : (0 : Int) <= (l.length : Int) - 1 - k := by simpa using h
                                omega
  have hx : l[l.length - 1 - k]? = some l[l.length - 1 - k] := List.getElem?_eq_getElem (by omega)
  generalize l[l.length - 1 - k] = x at hx
  have hy := get_backL hlt hx
  have hii : (l.length : Int) - 1 - k = ((l.length - 1 - k : Nat) : Int) := by omega
  rw [hii]
  refine ws ?_;refine J38 ?_;refine J0 ?_;refine J4 ?_;refine J0 ?_;refine J75 ?_;refine J56 ?_
  refine ao_y rfl rfl (by repeat' (first | exact trivial | exact rfl | refine And.intro ?_ ?_)) ⟨rfl, k, hy, hI3, fun d m' nx' hp => ?_⟩
  rcases hp with ⟨rfl, hp⟩ | ⟨rfl, hp⟩
  ·refine J29 ?_
   refine ao_end (w_if rfl (fun h => (by cases h)) fun h => w_end ?_)
   refine J0 ?_;refine J66 ?_;refine J3 ?_
   exact ao_end (next_of (k + 1, m', nx') (ghost_of ⟨rfl, rfl, congrArg (fun z : Int => I z) (show ((l.length - 1 - k : Nat) : Int) - 1 = (l.length : Int) - 1 - ((k + 1 : Nat) : Int) by omega), trivial⟩) ⟨by simp only; omega, hp⟩ (by simp only; omega))
  ·refine J29 ?_
   exact ao_end (w_if rfl (fun h => w_ret (j_body (q_ret0 (.inr hp)))) fun h => (by cases h))
 ·have hge : ¬ k < l.length := by
   intro hlt
   simp at h
   omega
  have : k = l.length := by omega
  subst this
  exact q_end0 (.inl (by rw [len_backL]; exact hI3))
end Go.Proofs.Tryz.K
end
section
open Go Go.Abs Go.Proofs Go.Argus
namespace Go.Argus
def behF (beh : List (List Int)) (b : Nat) : List Int := beh.getD b []
theorem behF_get {beh : List (List Int)} {b : Nat} (h : b < beh.length) : beh[b]? = some (behF beh b) := by
 unfold behF
 rw [List.getD_eq_getElem?_getD, List.getElem?_eq_getElem h]; rfl
theorem dfsF_cons (beh : Nat -> List Int) (w : Int) (k : Nat) (s : List Bool × List Int) (c : Int) (l : List Int) :
  dfsF beh w k s (c :: l) = dfsF beh w k (if seenB s.1 c = false /\ c ≠ w then dfsV beh w k s c.toNat else s) l := rfl
theorem dfs_cnt {beh : Nat -> List Int} {w : Int} : ∀ (k : Nat), (∀ s b, (dfsV beh w k s b).1.length = s.1.length /\ (dfsV beh w k s b).1.count false <= s.1.count false) /\
  (∀ l s, (dfsF beh w k s l).1.length = s.1.length /\ (dfsF beh w k s l).1.count false <= s.1.count false) := by
 have key : ∀ k, (∀ s b, (dfsV beh w k s b).1.length = s.1.length /\ (dfsV beh w k s b).1.count false <= s.1.count false) ->
   (∀ l s, (dfsF beh w k s l).1.length = s.1.length /\ (dfsF beh w k s l).1.count false <= s.1.count false) := fun k h l => by
  induction l with
  | nil => exact fun s => ⟨rfl, Nat.le_refl _⟩
  | cons c l ih =>
   intro s
   rw [dfsF_cons]
   split
   ·obtain ⟨a1, a2⟩ := ih (dfsV beh w k s c.toNat)
    obtain ⟨b1, b2⟩ := h s c.toNat
    exact ⟨a1.trans b1, Nat.le_trans a2 b2⟩
   ·exact ih s
 intro k
 induction k with
 | zero => exact ⟨fun s b => ⟨rfl, Nat.le_refl _⟩, key 0 fun s b => ⟨rfl, Nat.le_refl _⟩⟩
 | succ k ih =>
  have h : ∀ s b, (dfsV beh w (k + 1) s b).1.length = s.1.length /\ (dfsV beh w (k + 1) s b).1.count false <= s.1.count false := fun s b => by
   rw [dfsV_succ]
   obtain ⟨a1, a2⟩ := ih.2 (beh b) (s.1.set b true, s.2)
   refine ⟨a1.trans (by simp), Nat.le_trans a2 count_set_le⟩
  exact ⟨h, key (k + 1) h⟩
theorem dfs_ne {beh : Nat -> List Int} {w : Int} {k : Nat} {s : List Bool × List Int} {b : Nat} : (dfsV beh w (k + 1) s b).2 ≠ [] := by
 rw [dfsV_succ]; simp
end Go.Argus
namespace Go.Proofs.Tryz.K
set_option maxRecDepth 10000
section
variable {f : Flow} {beh ahd : List (List Int)} {c : D} (hc : Tr c) (hc1 : c.one = true)
include hc hc1
theorem k168 {n : Nat} {w : Int} (hn : beh.length = n) (hbeh : ∀ b, ∀ t ∈ behF beh b, 0 <= t /\ t.toNat < n) (hbl : ∀ b, (behF beh b).length <= 100000) {i5 i6 r : Nat} (h56 : i5 ≠ i6) (h5r : i5 ≠ r) (h6r : i6 ≠ r) : ∀ (k : Nat) (m : Mem) (nx : Nat) (seen : List Bool) (o : List Int) (b : Nat),
  i5 < nx -> i6 < nx -> r < nx -> m i5 = some (.cells [.rs r 0 n] 52) -> m i6 = some (.cells [.fn (.func 168) [] [.rp i5 0, .pt [.pt (encGraph f beh ahd c)], .pt [I w], .rp i6 0]] 128) -> m r = some (.cells (seen.map B) 4) ->
  seen.length = n -> b < n -> seen.count false <= k -> seen.getD b false = false ->
  ACalls Tryz.prog 168 [I b, .rp i5 0, .pt [.pt (encGraph f beh ahd c)], .pt [I w], .rp i6 0] m nx (fun d m' nx' => d = .tup [] /\ nx' = nx /\ m' = up m r (some (.cells ((dfsV (behF beh) w k (seen, o) b).1.map B) 4)))
 | 0, m, nx, seen, o, b, h5, h6, hr, hm5, hm6, hmr, hsl, hb, hcnt, hsb => by
  have _ := hc; have _ := hc1; have := count_set_lt (getD_false hsb (by omega))
  omega
 | k + 1, m, nx, seen, o, b, h5, h6, hr, hm5, hm6, hmr, hsl, hb, hcnt, hsb => by
  have hbx := behF_get (beh := beh) (b := b) (by omega)
  have hto := hbeh b
  have hll := hbl b
  have hcs := count_set_lt (getD_false hsb (by omega))
  have IH := k168 (w := w) hn hbeh hbl h56 h5r h6r k
  refine acall_of mixed ok168 (by rw [nt168]; rfl) ?_
  rw [rs168, sk168]
  have hrow := hm5
  have hrow2 := hmr
  rw [dfsV_succ]
  generalize behF beh b = l at hbx hto hll
  refine ws ?_;refine J47 ?_;refine J0 ?_;refine J102 ?_
  refine ao_w (e_store1 (d := .s (.bool _)) (cs' := _) rfl rfl hrow2 rfl rfl) ak (p_store V.h V.h (by first | (simp; done) | exact ⟨rfl, Nat.le_of_ble_eq_true rfl⟩ | (simp; omega)) rfl) ?_
  refine ao_end (w_seq_region_g ?_)
  refine J4 ?_;refine J48 ?_;refine J5 ?_;refine J4 ?_;refine J0 ?_;refine J25 ?_;refine J4 ?_;refine J14 ?_;refine J0 ?_
  refine ao_end (w_range (α := Nat) (fun j => ⟨envL [(1, .rp i5 0), (3, .pt [I w]), (4, .rp i6 0), (17, encInts l), (18, I l.length), (19, I j)], up m r (some (.cells ((dfsF (behF beh) w k (seen.set b true, o) (l.take j)).1.map B) 4)), nx⟩)
   (fun j => j <= l.length) (fun j => l.length - j) 0 (ghost_mem ⟨rfl, rfl, rfl, rfl, rfl, rfl, trivial⟩ ?_) (Nat.zero_le _) ?_)
  ·rw [List.take_zero]
   show up m r _ = up m r (some (.cells ((seen.set b true).map B) 4))
   rw [List.map_set]
  intro j hj
  obtain ⟨cl, cc⟩ := (dfs_cnt (beh := behF beh) (w := w) k).2 (l.take j) (seen.set b true, o)
  have hstep : ∀ t, l[j]? = some t -> dfsF (behF beh) w k (seen.set b true, o) (l.take (j + 1)) = if seenB (dfsF (behF beh) w k (seen.set b true, o) (l.take j)).1 t = false /\ t ≠ w then dfsV (behF beh) w k (dfsF (behF beh) w k (seen.set b true, o) (l.take j)) t.toNat else dfsF (behF beh) w k (seen.set b true, o) (l.take j) := fun t ht => by
   rw [List.take_add_one, ht]
   exact dfsF_snoc (behF beh) w k (seen.set b true, o) (l.take j) t
  have hlast : j = l.length -> dfsF (behF beh) w k (seen.set b true, o) (l.take j) = dfsF (behF beh) w k (seen.set b true, o) l := fun e => by rw [e, List.take_length]
  generalize dfsF (behF beh) w k (seen.set b true, o) (l.take j) = s at cl cc hstep hlast
  simp only [List.length_set] at cl cc
  have hrow : up m r (some (.cells (s.1.map B) 4)) i5 = some (.cells [.rs r 0 n] 52) := mskip h5r hm5
  have hrow2 : up m r (some (.cells (s.1.map B) 4)) r = some (.cells (s.1.map B) 4) := up_same _ _ _
  have hrow3 : up m r (some (.cells (s.1.map B) 4)) i6 = some (.cells [.fn (.func 168) [] [.rp i5 0, .pt [.pt (encGraph f beh ahd c)], .pt [I w], .rp i6 0]] 128) := mskip h6r hm6
  have hup : ∀ v, up (up m r (some (.cells (s.1.map B) 4))) r v = up m r v := fun v => up_up _ _ _ _
  generalize hM : up m r (some (.cells (s.1.map B) 4)) = M at hrow hrow2 hrow3 hup
  refine J16 ?_
  refine ao_end ⟨_, rfl, fun h => ?_, fun h => ?_⟩
  ·have hlt : j < l.length := by simpa using h
   have hx : l[j]? = some l[j] := List.getElem?_eq_getElem hlt
   have htt := hto _ (List.getElem_mem hlt)
   generalize l[j] = t at hx htt
   have hst := hstep t hx
   obtain ⟨tn, rfl⟩ := Int.eq_ofNat_of_zero_le htt.1
   have htn : tn < n := htt.2
   have hv : s.1[tn]? = some s.1[tn] := List.getElem?_eq_getElem (by omega)
   have hgd : s.1.getD tn false = s.1[tn] := by simp [List.getD_eq_getElem?_getD, hv]
   have hsB : seenB s.1 (tn : Int) = s.1[tn] := hgd
   generalize s.1[tn] = v at hv hgd hsB
   have kd := drop_map (f := B) hv
   refine ws ?_;refine J25 ?_;refine J4 ?_;refine J3 ?_;refine er ?_;refine J47 ?_;refine J0 ?_;refine J102 ?_;refine J122 ?_;refine J29 ?_;refine J2 ?_;refine J11 ?_;refine J6 ?_;refine J58 ?_;refine J9 ?_
   refine ao_end (w_if rfl (fun hp => ?_) fun hp => ?_)
   ·have hvw : v = false /\ (tn : Int) ≠ w := by
     revert hp
     cases v <;> simp
    have hst := hst.trans (if_pos ⟨hsB.trans hvw.1, hvw.2⟩)
    refine w_regB2 ?_
    refine ao_p (e_loadR rfl hrow3 rfl V.h) ak (p_loadR V.h V.h rfl) ?_
    refine J0 ?_
    refine ao_ac (IH M nx s.1 s.2 tn h5 h6 hr hrow hrow3 hrow2 (cl.trans hsl) htn (by omega) (hgd.trans hvw.1)) rfl (by repeat' (first | exact trivial | exact rfl | refine And.intro ?_ ?_)) fun d m' nx' hp => ?_
    obtain ⟨rfl, rfl, rfl⟩ := hp
    refine ao_end ?_
    refine J10 ?_;refine J0 ?_
    refine ao_end (next_of (j + 1) (ghost_mem ⟨rfl, rfl, rfl, rfl, rfl, rfl, trivial⟩ ?_) (by omega) (by omega))
    rw [hup, hst]
    rfl
   ·have hvw : ¬ (v = false /\ (tn : Int) ≠ w) := by
     revert hp
     cases v <;> simp
    have hst := hst.trans (if_neg fun hh => hvw ⟨hsB.symm.trans hh.1, hh.2⟩)
    refine w_end ?_
    refine J10 ?_;refine J0 ?_
    refine ao_end (next_of (j + 1) (ghost_mem ⟨rfl, rfl, rfl, rfl, rfl, rfl, trivial⟩ ?_) (by omega) (by omega))
    rw [hst]
    exact hM.symm
  ·have hge : ¬ j < l.length := by simpa using h
   refine q_end0 ⟨rfl, rfl, ?_⟩
   rw [<- hlast (by omega)]
   exact hM.symm
end
end Go.Proofs.Tryz.K
end
section
open Go Go.Abs Go.Proofs Go.Argus
namespace Go.Argus
theorem revK {l c : List Int} {n k : Nat} (hl : l.length = n) (hc : c.length = n) (h : ∀ p, p < n -> c.getD p 0 = if p < k \/ n <= p + k then l.getD (n - 1 - p) 0 else l.getD p 0) (hk : n <= 2 * k + 1) : c = l.reverse := by
 apply List.ext_getElem (by simp [hl, hc])
 intro p h1 h2
 rw [List.getElem_reverse]
 have hp := h p (by omega)
 rw [show c.getD p 0 = c[p] by simp [List.getD_eq_getElem?_getD, List.getElem?_eq_getElem h1]] at hp
 rw [hp]
 have e : ∀ (i j : Nat) (h : i = j) (hj : j < l.length), l.getD i 0 = l[j] := fun i j h hj => by subst h; simp [List.getD_eq_getElem?_getD, List.getElem?_eq_getElem hj]
 split
 ·exact e _ _ (by omega) _
 ·exact e _ _ (by omega) _
end Go.Argus
namespace Go.Proofs.Tryz.K
set_option maxRecDepth 10000
theorem k84 {m : Mem} {nx i n : Nat} {l : List Int} (hi : i < nx) (hm : m i = some (.cells (l.map I) 3)) (hl : l.length = n) (hn : n <= 100000) :
  ACalls Tryz.prog 84 [.rs i 0 n] m nx (fun r m' nx' => r = .tup [] /\ nx' = nx /\ m' = up m i (some (.cells (l.reverse.map I) 3))) := by
 refine acall_of mixed ok84 (by rw [nt84]; rfl) ?_
 rw [rs84, sk84]
 have hid : up m i (some (.cells (l.map I) 3)) = m := by
  funext j; simp only [up]; split
  ·rename_i e; rw [e, hm]
  ·rfl
 have hrow := hm
 refine w_seq_region_g ?_
 refine J12 ?_;refine J116 ?_;refine J66 ?_;refine J3 ?_;refine J3 ?_
 refine ao_end (w_for (α := List Int × Nat) (fun s => ⟨envL [(0, .rs i 0 n), (2, I s.2), (3, I ((n : Int) - 1 - s.2))], up m i (some (.cells (s.1.map I) 3)), nx⟩)
  (fun s => s.1.length = n /\ s.2 <= n /\ ∀ p, p < n -> s.1.getD p 0 = if p < s.2 \/ n <= p + s.2 then l.getD (n - 1 - p) 0 else l.getD p 0) (fun s => n - s.2) (l, 0) (ghost_mem ⟨rfl, rfl, congrArg (fun z : Int => I z) (show (n : Int) - 1 = (n : Int) - 1 - ((0 : Nat) : Int) by omega), trivial⟩ hid.symm) ⟨hl, Nat.zero_le _, fun p hp => by rw [if_neg (by simp only; omega)]⟩ ?_)
 rintro ⟨d, k⟩ ⟨hd, hk, hinv⟩
 dsimp only at hd hk hinv ⊢
 have hrow : up m i (some (.cells (d.map I) 3)) i = some (.cells (d.map I) 3) := up_same _ _ _
 refine J0 ?_;refine J0 ?_;refine J16 ?_
 refine ao_end ⟨_, rfl, fun h => ?_, fun h => ?_⟩
 ·have hlt : (k : Int) < (n : Int) - 1 - k := by simpa using h
  obtain ⟨j, hj⟩ : ∃ j : Nat, (n : Int) - 1 - k = j /\ j = n - 1 - k := ⟨n - 1 - k, by omega, rfl⟩
  have ha : d[k]? = some d[k] := List.getElem?_eq_getElem (by omega)
  have hb : d[j]? = some d[j] := List.getElem?_eq_getElem (by omega)
  have ga : d.getD k 0 = d[k] := by simp [List.getD_eq_getElem?_getD, ha]
  have gb : d.getD j 0 = d[j] := by simp [List.getD_eq_getElem?_getD, hb]
  have kd := drop_map (f := I) hb
  have kd' := drop_map (f := I) ha
  generalize hA : d[k] = a at ha ga kd'
  generalize hB : d[j] = b at hb gb kd
  clear hA hB
  rw [hj.1]
  refine w_drawB di_r84_3 ?_
  refine J12 ?_;refine J0 ?_;refine J12 ?_;refine J0 ?_;refine J12 ?_;refine J0 ?_;refine J71 ?_;refine J88 ?_;refine J12 ?_;refine J0 ?_;refine J71 ?_
  refine ao_p (e_loadR rfl hrow kd' V.h) ak (p_loadR V.h V.h kd') ?_
  refine J71 ?_
  refine ao_w (e_store1 (d := .s (.int _ _)) (cs' := _) rfl rfl hrow rfl rfl) ak (p_store V.h V.h (by first | (simp; done) | exact ⟨rfl, Nat.le_of_ble_eq_true rfl⟩ | (simp; omega)) rfl) ?_
  refine J87 ?_;refine J115 ?_
  refine ao_endc (by simp [apartT]) ?_
  refine J0 ?_;refine J10 ?_;refine J0 ?_;refine J66 ?_;refine J3 ?_;refine J3 ?_
  refine ao_end (next_of ((d.set k b).set j a, k + 1) (ghost_mem ⟨rfl, rfl, congrArg (fun z : Int => I z) (show (j : Int) - 1 = (n : Int) - 1 - ((k + 1 : Nat) : Int) by omega), trivial⟩ ?_) ⟨by simp [hd], by simp only; omega, fun p hp => ?_⟩ (by simp only; omega))
  ·rw [up_up, up_up]
   simp only [List.map_set]
  ·simp only
   have e : ((d.set k b).set j a).getD p 0 = if p = j then a else if p = k then b else d.getD p 0 := by
    simp only [List.getD_eq_getElem?_getD, List.getElem?_set]
    by_cases e1 : j = p
    ·subst e1; simp [hd, hp]
    ·rw [if_neg e1, if_neg (show ¬ p = j from fun e => e1 e.symm)]
     by_cases e2 : k = p
     ·subst e2; simp [hd, hp]
     ·rw [if_neg e2, if_neg (show ¬ p = k from fun e => e2 e.symm)]
   rw [e]
   have h1 := hinv p hp
   by_cases e1 : p = j
   ·subst e1
    rw [if_pos rfl, if_pos (by omega)]
    have := hinv k (by omega)
    rw [if_neg (by omega), ga] at this
    rw [this, show n - 1 - p = k by omega]
   ·rw [if_neg e1]
    by_cases e2 : p = k
    ·subst e2
     rw [if_pos rfl, if_pos (by omega)]
     have := hinv j (by omega)
     rw [if_neg (by omega), gb] at this
     rw [this, show n - 1 - p = j by omega]
    ·rw [if_neg e2, h1]
     by_cases e3 : p < k \/ n <= p + k
     ·rw [if_pos e3, if_pos (by omega)]
     ·rw [if_neg e3, if_neg (by omega)]
 ·have hge : ¬ (k : Int) < (n : Int) - 1 - k := by simpa using h
  refine q_end0 ⟨rfl, rfl, ?_⟩
  rw [revK hl hd hinv (by omega)]
section
variable {f : Flow} {beh ahd : List (List Int)} {c : D} (hc : Tr c) (hc1 : c.one = true)
include hc hc1
theorem k116 {n : Nat} {w : Int} (hn : beh.length = n) (hfn : f.blocks.length = n) (hn0 : 0 < n) (hn1 : n <= 100000) (hbeh : ∀ b, ∀ t ∈ behF beh b, 0 <= t /\ t.toNat < n) (hbl : ∀ b, (behF beh b).length <= 100000) :
  OCall Tryz.prog 116 [.pt (encGraph f beh ahd c), I w] ((reachR (behF beh) n w).map B) n 4 := by
 refine ocall_of mixed ok116 (by rw [nt116]; rfl) (.cons (tr_graph hc) (.cons (.s _) .nil)) (.map fun _ => .s _) ?_
 rw [rs116, sk116]
 refine w_seq_region_g ?_
 refine ao_a (e_box1 (d := .pt _) rfl rfl) ak rfl ?_
 refine J85 ?_;refine J23 ?_
 refine ao_end (w_ghost (ghost_fr [(0, [.pt (encGraph f beh ahd c)], 79), (1, [I w], 3)] ⟨rfl, rfl, trivial⟩ (l := [(2, .pt [.pt (encGraph f beh ahd c)]), (3, .pt [I w])]) ⟨rfl, rfl, trivial⟩) (w_seq_region_g ?_))
 have hn' : ((f.blocks.length : Nat) : Int).toNat = n := hfn
 refine J4 ?_;refine J48 ?_;refine J5 ?_;refine J5 ?_;refine J4 ?_;refine J14 ?_;refine J146 ?_;refine J22 ?_
 refine ao_w (e_store1 (d := .rs _ _ _) (cs' := [_]) rfl rfl rfl rfl rfl) ak (p_store V.h V.h (by first | (simp; done) | exact ⟨rfl, Nat.le_of_ble_eq_true rfl⟩ | (simp; omega)) rfl) ?_
 refine ao_end (w_ghost (ghost_st (l := [(2, .pt [.pt (encGraph f beh ahd c)]), (3, .pt [I w]), (5, .rp 3 0)]) (ml := [(2, .cells ((List.replicate n false).map B) 4), (3, .cells [.rs 2 0 n] 52)]) ⟨rfl, rfl, rfl, trivial⟩ ⟨?_, ?_, trivial⟩) (w_assoc (w_seq_region ?_)))
 ·exact congrArg (fun c => some (Row.cells c 4)) ((congrArg (fun k => replD k [B false]) hn').trans (replD_B n false))
 ·exact congrArg (fun k => some (Row.cells [D.rs 2 0 k] 52)) hn'
 refine J4 ?_;refine J8 ?_
 refine ao_end (w_seq_if rfl (fun h => ?_) fun h => w_seq_skip (w_seq_region ?_))
 ·have hw : w = 0 := by simpa using h
  refine w_assoc (w_seq_region_g ?_)
  refine J24 ?_;refine J18 ?_
  refine ao_end (w_ghost (.refl _) (w_seq_ret (q_ret1 rfl ⟨2, rfl, ?_⟩)))
  rw [reachR, if_pos hw]
  rfl
 ·have hw : ¬ w = 0 := by simpa using h
  refine J22 ?_;refine er ?_;refine J63 ?_
  refine ao_w (e_store1 (d := .fn _ _ _) (cs' := [_]) rfl rfl rfl rfl rfl) ak (p_store V.h V.h (by first | (simp; done) | exact ⟨rfl, Nat.le_of_ble_eq_true rfl⟩ | (simp; omega)) rfl) ?_
  refine ao_end (w_seq_region_g ?_)
  have k168 := k168 (f := f) (beh := beh) (ahd := ahd) (w := w) hc hc1 hn hbeh hbl (i5 := 3) (i6 := 4) (r := 2) (by decide) (by decide) (by decide) n
  have hR : reachR (behF beh) n w = (dfsV (behF beh) w n (List.replicate n false, []) 0).1 := by rw [reachR, if_neg hw]
  have hlR := (dfs_cnt (beh := behF beh) (w := w) n).1 (List.replicate n false, []) 0
  rw [<- hR] at hlR
  refine J24 ?_
  refine ao_ac (k168 _ _ (List.replicate n false) [] 0 (by omega) (by omega) (by omega) rfl rfl rfl (by simp) hn0 (by simp) (by rw [List.getD_eq_getElem?_getD, List.getElem?_replicate]; split <;> rfl)) rfl (by repeat' (first | exact trivial | exact rfl | refine And.intro ?_ ?_)) fun d m' nx' hp => ?_
  obtain ⟨rfl, rfl, rfl⟩ := hp
  rw [<- hR]
  generalize reachR (behF beh) n w = R at hlR hR ⊢
  refine ao_end (w_ghost (ghost_st (l := [(5, .rp 3 0)]) (ml := [(2, .cells (R.map B) 4), (3, .cells [.rs 2 0 n] 52)]) ⟨rfl, trivial⟩ ⟨rfl, rfl, trivial⟩) (w_seq_region_g ?_))
  refine J24 ?_;refine J18 ?_
  exact ao_end (w_ghost (.refl _) (q_ret1 rfl ⟨2, rfl, rfl⟩))
end
end Go.Proofs.Tryz.K
end
section
open Go Go.Abs Go.Proofs Go.Argus
namespace Go.Argus
theorem dfs_len {beh : Nat -> List Int} {w : Int} {n : Nat} (hb : ∀ b, ∀ c ∈ beh b, 0 <= c /\ c.toNat < n) : ∀ (k : Nat), (∀ (s : List Bool × List Int) b, s.1.length = n -> b < n -> s.1.getD b false = false -> (dfsV beh w k s b).2.length + (dfsV beh w k s b).1.count false <= s.2.length + s.1.count false) /\
  (∀ l, (∀ c ∈ l, 0 <= c /\ c.toNat < n) -> ∀ s : List Bool × List Int, s.1.length = n -> (dfsF beh w k s l).2.length + (dfsF beh w k s l).1.count false <= s.2.length + s.1.count false) := by
 have key : ∀ k, (∀ (s : List Bool × List Int) b, s.1.length = n -> b < n -> s.1.getD b false = false -> (dfsV beh w k s b).2.length + (dfsV beh w k s b).1.count false <= s.2.length + s.1.count false) ->
   (∀ l, (∀ c ∈ l, 0 <= c /\ c.toNat < n) -> ∀ s : List Bool × List Int, s.1.length = n -> (dfsF beh w k s l).2.length + (dfsF beh w k s l).1.count false <= s.2.length + s.1.count false) := fun k h l => by
  induction l with
  | nil => exact fun _ s _ => Nat.le_refl _
  | cons c l ih =>
   intro hl s hs
   have hc := hl c (by simp)
   rw [dfsF_cons]
   split
   ·rename_i hcc
    have a := ih (fun c h => hl c (by simp [h])) (dfsV beh w k s c.toNat) (((dfs_cnt k).1 s c.toNat).1.trans hs)
    have b := h s c.toNat hs hc.2 hcc.1
    omega
   ·exact ih (fun c h => hl c (by simp [h])) s hs
 intro k
 induction k with
 | zero => exact ⟨fun s b _ _ _ => Nat.le_refl _, key 0 fun s b _ _ _ => Nat.le_refl _⟩
 | succ k ih =>
  have h : ∀ (s : List Bool × List Int) b, s.1.length = n -> b < n -> s.1.getD b false = false -> (dfsV beh w (k + 1) s b).2.length + (dfsV beh w (k + 1) s b).1.count false <= s.2.length + s.1.count false := fun s b hs hbn hsb => by
   rw [dfsV_succ]
   have a := ih.2 (beh b) (hb b) (s.1.set b true, s.2) (by simpa using hs)
   have b := count_set_lt (getD_false hsb (by omega))
   simp only [List.length_append, List.length_singleton] at a ⊢
   omega
  exact ⟨h, key (k + 1) h⟩
end Go.Argus
namespace Go.Proofs.Tryz.K
set_option maxRecDepth 10000
structure OrdM (i3 i4 i5 r n : Nat) (fv : D) (m : Mem) (nx q : Nat) (s : List Bool × List Int) : Prop where
 h3 : i3 < nx
 h4 : i4 < nx
 h5 : i5 < nx
 hr : r < nx
 m3 : m i3 = some (.cells [.rs r 0 n] 52)
 m5 : m i5 = some (.cells [fv] 128)
 mr : m r = some (.cells (s.1.map B) 4)
 m4 : m i4 = some (.cells [jc q (s.2.map I)] 27)
 mq : s.2 ≠ [] -> q < nx /\ q ≠ i3 /\ q ≠ i4 /\ q ≠ i5 /\ q ≠ r /\ m q = some (.cells (s.2.map I) 3)
section
variable {f : Flow} {beh ahd : List (List Int)} {c : D} (hc : Tr c) (hc1 : c.one = true)
include hc hc1
theorem k149 {n : Nat} (hn : beh.length = n) (hbeh : ∀ b, ∀ t ∈ behF beh b, 0 <= t /\ t.toNat < n) (hbl : ∀ b, (behF beh b).length <= 100000) {i3 i4 i5 r : Nat} (h34 : i3 ≠ i4) (h35 : i3 ≠ i5) (h3r : i3 ≠ r) (h45 : i4 ≠ i5) (h4r : i4 ≠ r) (h5r : i5 ≠ r) :
  ∀ (k : Nat) (m : Mem) (nx q : Nat) (s0 : List Bool × List Int) (b : Nat),
  OrdM i3 i4 i5 r n (.fn (.func 149) [] [.rp i3 0, .pt [.pt (encGraph f beh ahd c)], .rp i5 0, .rp i4 0]) m nx q s0 -> s0.1.length = n -> b < n -> s0.1.count false <= k -> s0.1.getD b false = false -> s0.2.length + s0.1.count false <= 100000 ->
  ACalls Tryz.prog 149 [I b, .rp i3 0, .pt [.pt (encGraph f beh ahd c)], .rp i5 0, .rp i4 0] m nx (fun d m' nx' => d = .tup [] /\ ∃ q', OrdM i3 i4 i5 r n (.fn (.func 149) [] [.rp i3 0, .pt [.pt (encGraph f beh ahd c)], .rp i5 0, .rp i4 0]) m' nx' q' (dfsV (behF beh) (-1) k s0 b))
 | 0, m, nx, q, s0, b, hO, hsl, hb, hcnt, hsb, hlen => by
  have _ := hc; have _ := hc1; have := count_set_lt (getD_false hsb (by omega))
  omega
 | k + 1, m, nx, q, s0, b, hO, hsl, hb, hcnt, hsb, hlen => by
  have hbx := behF_get (beh := beh) (b := b) (by omega)
  have hto := hbeh b
  have hll := hbl b
  have hcs := count_set_lt (getD_false hsb (by omega))
  have IH := k149 hn hbeh hbl h34 h35 h3r h45 h4r h5r k
  have hpl := (dfs_len (w := -1) hbeh k).2
  refine acall_of mixed ok149 (by rw [nt149]; rfl) ?_
  rw [rs149, sk149]
  have hrow := hO.m3
  have hrow2 := hO.mr
  have ⟨p3, p4, p5, pr, _, _, _, _, pq⟩ := hO
  rw [dfsV_succ]
  generalize behF beh b = l at hbx hto hll
  refine ws ?_;refine J47 ?_;refine J0 ?_;refine J102 ?_
  refine ao_w (e_store1 (d := .s (.bool _)) (cs' := _) rfl rfl hrow2 rfl rfl) ak (p_store V.h V.h (by first | (simp; done) | exact ⟨rfl, Nat.le_of_ble_eq_true rfl⟩ | (simp; omega)) rfl) ?_
  refine ao_end (w_assoc (w_seq_region_g ?_))
  refine J4 ?_;refine J48 ?_;refine J5 ?_;refine J4 ?_;refine J0 ?_;refine J25 ?_;refine J4 ?_;refine J14 ?_;refine J0 ?_
  refine ao_end (w_then (fun s => ∃ m nx q, Ghost Tryz.prog s ⟨envL [(0, I b), (4, .rp i4 0)], m, nx⟩ /\ OrdM i3 i4 i5 r n (.fn (.func 149) [] [.rp i3 0, .pt [.pt (encGraph f beh ahd c)], .rp i5 0, .rp i4 0]) m nx q (dfsF (behF beh) (-1) k (s0.1.set b true, s0.2) l)) (w_range (α := Nat × Nat × Mem × Nat)
   (fun j => ⟨envL [(0, I b), (1, .rp i3 0), (3, .rp i5 0), (4, .rp i4 0), (17, encInts l), (18, I l.length), (19, I j.1)], j.2.2.1, j.2.2.2⟩)
   (fun j => j.1 <= l.length /\ OrdM i3 i4 i5 r n (.fn (.func 149) [] [.rp i3 0, .pt [.pt (encGraph f beh ahd c)], .rp i5 0, .rp i4 0]) j.2.2.1 j.2.2.2 j.2.1 (dfsF (behF beh) (-1) k (s0.1.set b true, s0.2) (l.take j.1))) (fun j => l.length - j.1) (0, q, _, nx)
   (ghost_of ⟨rfl, rfl, rfl, rfl, rfl, rfl, rfl, trivial⟩) ⟨Nat.zero_le _, ?_⟩ ?_) ?_)
  ·dsimp only
   refine ⟨p3, p4, p5, pr, mskip h3r hO.m3, mskip h5r hO.m5, ?_, mskip h4r hO.m4, fun h => ?_⟩
   ·rw [List.take_zero]
    show up m r _ r = some (.cells ((s0.1.set b true).map B) 4)
    rw [List.map_set]
    exact up_same _ _ _
   ·obtain ⟨a1, a2, a3, a4, a5, a6⟩ := pq h
    exact ⟨a1, a2, a3, a4, a5, mskip a5 a6⟩
  ·clear hO hrow hrow2 p3 p4 p5 pr pq
   rintro ⟨j, q, m, nx⟩ ⟨hj, hO⟩
   dsimp only at hj hO ⊢
   obtain ⟨cl, cc⟩ := (dfs_cnt (beh := behF beh) (w := -1) k).2 (l.take j) (s0.1.set b true, s0.2)
   have cp := hpl (l.take j) (fun c h => hto c (List.mem_of_mem_take h)) (s0.1.set b true, s0.2) (by simpa using hsl)
   have hstep : ∀ t, l[j]? = some t -> dfsF (behF beh) (-1) k (s0.1.set b true, s0.2) (l.take (j + 1)) = if seenB (dfsF (behF beh) (-1) k (s0.1.set b true, s0.2) (l.take j)).1 t = false /\ t ≠ -1 then dfsV (behF beh) (-1) k (dfsF (behF beh) (-1) k (s0.1.set b true, s0.2) (l.take j)) t.toNat else dfsF (behF beh) (-1) k (s0.1.set b true, s0.2) (l.take j) := fun t ht => by
    rw [List.take_add_one, ht]
    exact dfsF_snoc (behF beh) (-1) k (s0.1.set b true, s0.2) (l.take j) t
   have hlast : j = l.length -> dfsF (behF beh) (-1) k (s0.1.set b true, s0.2) (l.take j) = dfsF (behF beh) (-1) k (s0.1.set b true, s0.2) l := fun e => by rw [e, List.take_length]
   generalize dfsF (behF beh) (-1) k (s0.1.set b true, s0.2) (l.take j) = s at cl cc hstep hlast hO cp
   simp only [List.length_set] at cl cc cp
   have hrow := hO.m3
   have hrow2 := hO.mr
   have hrow3 := hO.m5
   refine J16 ?_
   refine ao_end ⟨_, rfl, fun h => ?_, fun h => ?_⟩
   ·have hlt : j < l.length := by simpa using h
    have hx : l[j]? = some l[j] := List.getElem?_eq_getElem hlt
    have htt := hto _ (List.getElem_mem hlt)
    generalize l[j] = t at hx htt
    have hst := hstep t hx
    obtain ⟨tn, rfl⟩ := Int.eq_ofNat_of_zero_le htt.1
    have htn : tn < n := htt.2
    have hv : s.1[tn]? = some s.1[tn] := List.getElem?_eq_getElem (by omega)
    have hgd : s.1.getD tn false = s.1[tn] := by simp [List.getD_eq_getElem?_getD, hv]
    have hsB : seenB s.1 (tn : Int) = s.1[tn] := hgd
    generalize s.1[tn] = v at hv hgd hsB
    have kd := drop_map (f := B) hv
    refine ws ?_;refine J25 ?_;refine J4 ?_;refine J3 ?_;refine er ?_;refine J47 ?_;refine J0 ?_;refine J102 ?_;refine J122 ?_;refine J29 ?_
    refine ao_end (w_if rfl (fun hp => ?_) fun hp => ?_)
    ·have hvw : v = false := by simpa using hp
     have hst := hst.trans (if_pos ⟨hsB.trans hvw, by omega⟩)
     refine w_regB2 ?_
     refine ao_p (e_loadR rfl hrow3 rfl V.h) ak (p_loadR V.h V.h rfl) ?_
     refine J0 ?_
     refine ao_ac (IH m nx q s tn hO (cl.trans hsl) htn (by omega) (hgd.trans hvw) (by omega)) rfl (by repeat' (first | exact trivial | exact rfl | refine And.intro ?_ ?_)) fun d m' nx' hp => ?_
     obtain ⟨rfl, q', hp⟩ := hp
     refine ao_end ?_
     refine J10 ?_;refine J0 ?_
     refine ao_end (next_of (j + 1, q', m', nx') (ghost_of ⟨rfl, rfl, rfl, rfl, rfl, rfl, rfl, trivial⟩) ⟨by dsimp only; omega, ?_⟩ (by dsimp only; omega))
     dsimp only
     rw [hst]
     exact hp
    ·have hvw : v = true := by simpa using hp
     have hst := hst.trans (if_neg fun hh => by rw [hsB, hvw] at hh; exact absurd hh.1 (by simp))
     refine w_end ?_
     refine J10 ?_;refine J0 ?_
     refine ao_end (next_of (j + 1, q, m, nx) (ghost_of ⟨rfl, rfl, rfl, rfl, rfl, rfl, rfl, trivial⟩) ⟨by dsimp only; omega, ?_⟩ (by dsimp only; omega))
     dsimp only
     rw [hst]
     exact hO
   ·have hge : ¬ j < l.length := by simpa using h
    rw [<- hlast (by omega)]
    exact ⟨m, nx, q, ghost_of ⟨rfl, rfl, trivial⟩, hO⟩
  ·clear hO hrow hrow2 p3 p4 p5 pr pq
   rintro s ⟨m, nx, q, hg, hO⟩
   have cp := hpl l hto (s0.1.set b true, s0.2) (by simpa using hsl)
   generalize dfsF (behF beh) (-1) k (s0.1.set b true, s0.2) l = u at hO cp ⊢
   obtain ⟨u1, u2⟩ := u
   have ⟨p3, p4, p5, pr, m3, m5, mr, m4, pq⟩ := hO
   dsimp only at mr m4 pq cp ⊢
   refine ⟨_, hg, w_regE ?_⟩
   by_cases hz : u2 = []
   ·subst hz
    have hrow : m i4 = some (.cells [.z] 27) := m4
    refine J47 ?_;refine J0 ?_;refine J35 ?_;refine J112 ?_
    refine ao_w (e_store1 (d := .rs _ _ _) (cs' := [_]) rfl rfl (mskip (by omega) (mskip (by omega) hrow)) rfl rfl) ak (p_store V.h V.h (by first | (simp; done) | exact ⟨rfl, Nat.le_of_ble_eq_true rfl⟩ | (simp; omega)) rfl) ?_
    refine ao_end (q_end0 ⟨rfl, nx + 1, ?_⟩)
    dsimp only
    refine ⟨by omega, by omega, by omega, by omega, ?_, ?_, ?_, ?_, fun _ => ⟨by omega, by omega, by omega, by omega, by omega, ?_⟩⟩
    ·exact mskip h34 (mskip (by omega) (mskip (by omega) m3))
    ·exact mskip (Ne.symm h45) (mskip (by omega) (mskip (by omega) m5))
    ·exact mskip (Ne.symm h4r) (mskip (by omega) (mskip (by omega) mr))
    ·exact (up_same _ _ _).trans rfl
    ·exact mskip (by omega) ((up_same _ _ _).trans rfl)
   ·have hne : u2.map I ≠ [] := by simpa using hz
    obtain ⟨q1, q2, q3, q4, q5, q6⟩ := pq hz
    have hrow : m i4 = some (.cells [.rs q 0 u2.length] 27) := by rw [m4, jc_ne hne, List.length_map]
    have hrow2 := q6
    have hlk : (u2.map I).length = u2.length := by simp
    refine J47 ?_;refine J0 ?_;refine J35 ?_;refine J138 ?_
    refine ao_w (e_store1 (d := .rs _ _ _) (cs' := [_]) rfl rfl (mskip (by omega) (mskip (by omega) (mskip (by omega) hrow))) rfl rfl) ak (p_store V.h V.h (by first | (simp; done) | exact ⟨rfl, Nat.le_of_ble_eq_true rfl⟩ | (simp; omega)) rfl) ?_
    refine ao_end (q_end0 ⟨rfl, nx + 1, ?_⟩)
    dsimp only
    refine ⟨by omega, by omega, by omega, by omega, ?_, ?_, ?_, ?_, fun _ => ⟨by omega, by omega, by omega, by omega, by omega, ?_⟩⟩
    ·exact mskip h34 (mskip (by omega) (mskip (Ne.symm q2) (mskip (by omega) m3)))
    ·exact mskip (Ne.symm h45) (mskip (by omega) (mskip (Ne.symm q4) (mskip (by omega) m5)))
    ·exact mskip (Ne.symm h4r) (mskip (by omega) (mskip (Ne.symm q5) (mskip (by omega) mr)))
    ·refine (up_same _ _ _).trans ?_
     rw [List.map_append, jc_ne (by simp)]
     simp
    ·refine mskip (by omega) ((up_same _ _ _).trans ?_)
     rw [List.map_append]; rfl
theorem k85 {n : Nat} (hn : beh.length = n) (hfn : f.blocks.length = n) (hn0 : 0 < n) (hn1 : n <= 100000) (hbeh : ∀ b, ∀ t ∈ behF beh b, 0 <= t /\ t.toNat < n) (hbl : ∀ b, (behF beh b).length <= 100000) :
  OCall Tryz.prog 85 [.pt (encGraph f beh ahd c)] ((orderR (behF beh) n).map I) (orderR (behF beh) n).length 3 := by
 refine ocall_of mixed ok85 (by rw [nt85]; rfl) (.cons (tr_graph hc) .nil) (.map fun _ => .s _) ?_
 rw [rs85, sk85]
 refine w_seq_region_g ?_
 refine ao_a (e_box1 (d := .pt _) rfl rfl) ak rfl ?_
 refine J23 ?_
 refine ao_end (w_ghost (ghost_fr [(0, [.pt (encGraph f beh ahd c)], 79)] ⟨rfl, trivial⟩ (l := [(1, .pt [.pt (encGraph f beh ahd c)])]) ⟨rfl, trivial⟩) (w_seq_region_g ?_))
 have hn' : ((f.blocks.length : Nat) : Int).toNat = n := hfn
 refine J4 ?_;refine J48 ?_;refine J5 ?_;refine J5 ?_;refine J4 ?_;refine J14 ?_;refine J146 ?_;refine J22 ?_
 refine ao_w (e_store1 (d := .rs _ _ _) (cs' := [_]) rfl rfl rfl rfl rfl) ak (p_store V.h V.h (by first | (simp; done) | exact ⟨rfl, Nat.le_of_ble_eq_true rfl⟩ | (simp; omega)) rfl) ?_
 refine ao_end (w_ghost (ghost_st (l := [(1, .pt [.pt (encGraph f beh ahd c)]), (3, .rp 2 0)]) (ml := [(1, .cells ((List.replicate n false).map B) 4), (2, .cells [.rs 1 0 n] 52)]) ⟨rfl, rfl, trivial⟩ ⟨?_, ?_, trivial⟩) (w_seq_region ?_))
 ·exact congrArg (fun c => some (Row.cells c 4)) ((congrArg (fun k => replD k [B false]) hn').trans (replD_B n false))
 ·exact congrArg (fun k => some (Row.cells [D.rs 1 0 k] 52)) hn'
 refine J22 ?_;refine er ?_;refine J22 ?_;refine er ?_;refine J63 ?_
 refine ao_w (e_store1 (d := .fn _ _ _) (cs' := [_]) rfl rfl rfl rfl rfl) ak (p_store V.h V.h (by first | (simp; done) | exact ⟨rfl, Nat.le_of_ble_eq_true rfl⟩ | (simp; omega)) rfl) ?_
 refine ao_end (w_seq_region_g ?_)
 have k149 := k149 (f := f) (beh := beh) (ahd := ahd) hc hc1 hn hbeh hbl (i3 := 2) (i4 := 3) (i5 := 4) (r := 1) (by decide) (by decide) (by decide) (by decide) (by decide) (by decide) n
 have hz : (List.replicate n false).getD 0 false = false := by rw [List.getD_eq_getElem?_getD, List.getElem?_replicate]; split <;> rfl
 have hlR := (dfs_len (w := -1) hbeh n).1 (List.replicate n false, []) 0 (by simp) hn0 hz
 have hne : (dfsV (behF beh) (-1) n (List.replicate n false, []) 0).2 ≠ [] := by
  obtain ⟨j, rfl⟩ : ∃ j, n = j + 1 := ⟨n - 1, by omega⟩
  exact dfs_ne
 have hR : orderR (behF beh) n = (dfsV (behF beh) (-1) n (List.replicate n false, []) 0).2.reverse := rfl
 refine J24 ?_
 refine ao_ac (k149 _ _ 0 (List.replicate n false, []) 0 ⟨by decide, by decide, by decide, by decide, rfl, rfl, rfl, rfl, fun h => absurd rfl h⟩ (by simp) hn0 (by simp) hz (by simp; omega)) rfl (by repeat' (first | exact trivial | exact rfl | refine And.intro ?_ ?_)) fun d m' nx' hp => ?_
 obtain ⟨rfl, q', hO⟩ := hp
 have m4 := hO.m4
 obtain ⟨q1, q2, q3, q4, q5, q6⟩ := hO.mq hne
 rw [hR]
 clear hO hR k149
 generalize (dfsV (behF beh) (-1) n (List.replicate n false, []) 0) = u at hlR hne m4 q6 ⊢
 obtain ⟨u1, u2⟩ := u
 dsimp only at hlR hne m4 q6 ⊢
 have hne' : u2.map I ≠ [] := by simpa using hne
 have hrow : m' 3 = some (.cells [.rs q' 0 u2.length] 27) := by rw [m4, jc_ne hne', List.length_map]
 have hrow2 := q6
 have hll : u2.length <= 100000 := by simp at hlR; omega
 refine ao_end (w_ghost (ghost_of (l := [(4, .rp 3 0)]) ⟨rfl, trivial⟩) (w_seq_region ?_))
 refine J47 ?_
 refine ao_ac (k84 q1 q6 rfl hll) rfl (by repeat' (first | exact trivial | exact rfl | refine And.intro ?_ ?_)) fun d m2 nx2 hp => ?_
 obtain ⟨rfl, rfl, rfl⟩ := hp
 refine er ?_
 have hrow : up m' q' (some (.cells (u2.reverse.map I) 3)) 3 = some (.cells [.rs q' 0 u2.length] 27) := mskip (Ne.symm q3) hrow
 refine J47 ?_;refine J18 ?_
 refine ao_end (q_ret1 rfl ⟨q', ?_, up_same _ _ _⟩)
 rw [List.length_reverse]; rfl
end
end Go.Proofs.Tryz.K
end
section
open Go Go.Abs Go.Proofs Go.Argus
namespace Go.Abs
section
variable {P : Program} {m : Mem} {nx : Nat}
theorem acall_snap_own {f : FuncId} {rds : List Nat} {args args' es : List D} {n : Nat} {t : TypeId} (hsn : Sns P rds m args args') (hc : OCall P f args' es n t) (hes : ∀ d ∈ es, d.scal = true) :
  ACalls P f args m nx (fun d m' nx' => d = .rs nx 0 n /\ m' = up m nx (some (.cells es t)) /\ nx' = nx + 1) := by
 refine ⟨hc.1, fun F β w vs hm hβ hR => ?_⟩
 have hn := hβ nx (Nat.le_refl _)
 obtain ⟨h1, h2⟩ := sns_R (P := P) (F := F) (β := β) (w := w) (fun i hi r hr => by
  obtain ⟨p, hp, hrow⟩ := hm.row i r hr
  exact ⟨p, hp, hrow, fun b hb => hm.nf i p b hp hb⟩) hsn
 refine (hc.2.2 F w vs (fun b hb => hm.fb b hb) ⟨by rw [hR.1, h1], fun k d v hd hv => ?_⟩).mono ?_
 ·have hlt : k < args.length := by rw [h1]; exact (List.getElem?_eq_some_iff.1 hd).1
  exact h2 k args[k] d (by simp [hlt]) hd v (hR.2 k args[k] v (by simp [hlt]) hv)
 rintro e w' ⟨v, p, he, hdead, hfresh, hrow, hv, hk⟩
 have hm' := hm.kept hk
 have hs : Step β w (up β nx (some p)) w' := by
  refine ⟨hk.1, fun b hb hf => ⟨hk.2.1 b hb, fun i q hq => ?_⟩, fun i q hq => .inl ?_, hk.2.2⟩
  ·by_cases hi : i = nx
   ·subst hi
    rw [up_same] at hq
    cases hq
    intro e
    have := (hfresh b e).1
    omega
   ·rw [up_ne _ _ hi] at hq; exact hf i q hq
  ·rw [up_ne _ _ (fun e => by rw [e, hn] at hq; cases hq)]; exact hq
 have hlook : ∀ i q b, up β nx (some p) i = some q -> q.blk = some b -> (i = nx /\ q = p) \/ (i ≠ nx /\ β i = some q) := fun i q b hq _ => by
  by_cases hi : i = nx
  ·subst hi; rw [up_same] at hq; cases hq; exact .inl ⟨rfl, rfl⟩
  ·rw [up_ne _ _ hi] at hq; exact .inr ⟨hi, hq⟩
 have hrow' : RowR P F (up β nx (some p)) w' (.cells es t) p := by
  cases hrow with
  | nil _ => exact .nil _
  | cells _ _ b o room sz c h1 h2 h3 h4 h5 =>
   refine .cells es t b o room sz c h1 h2 h3 h4 fun k d hd => ?_
   obtain ⟨u, hu1, hu2, hu3⟩ := h5 k d hd
   exact ⟨u, hu1, scal_R (hes d (List.mem_of_getElem? hd)) hu2, hu3⟩
 refine ⟨v, .rs nx 0 n, up m nx (some (.cells es t)), nx + 1, up β nx (some p), he, ⟨rfl, rfl, rfl⟩, ?_, fun i hi => by rw [up_ne _ _ (by omega)]; exact hβ i (by omega), ?_, hs, Nat.le_succ _, fun i hi hb => by rw [up_ne _ _ (by omega)]; exact hb⟩
 ·refine ⟨fun i r hi => ?_, fun i j q q' b hq hq' e e' => ?_, fun i q b hq e => ?_, fun i q b hq e => ?_, hm'.fb⟩
  ·by_cases hin : i = nx
   ·subst hin
    rw [up_same] at hi
    cases hi
    exact ⟨p, up_same _ _ _, hrow'⟩
   ·rw [up_ne _ _ hin] at hi
    obtain ⟨q, hq, hrq⟩ := hm.row i r hi
    exact ⟨q, by rw [up_ne _ _ hin]; exact hq, hrq.step hs fun b hb => hk.2.1 b (hm.lt i q b hq hb)⟩
  ·rcases hlook i q b hq e with ⟨rfl, rfl⟩ | ⟨hi, h1⟩ <;> rcases hlook j q' b hq' e' with ⟨rfl, rfl⟩ | ⟨hj, h2⟩
   ·rfl
   ·have := (hfresh b e).1
    have := hm.lt j q' b h2 e'
    omega
   ·have := (hfresh b e').1
    have := hm.lt i q b h1 e
    omega
   ·exact hm.inj i j q q' b h1 h2 e e'
  ·rcases hlook i q b hq e with ⟨_, rfl⟩ | ⟨_, h1⟩
   ·exact (hfresh b e).2
   ·exact hm'.lt i q b h1 e
  ·rcases hlook i q b hq e with ⟨_, rfl⟩ | ⟨_, h1⟩
   ·intro hF
    have := hm.fb b hF
    have := (hfresh b e).1
    omega
   ·exact hm.nf i q b h1 e
 ·cases hv with
  | rsd _ _ _ _ h _ => rw [up_same] at h; cases h; exact absurd rfl hdead
  | rsn _ a h => rw [up_same] at h; cases h; exact .rsn nx a (up_same _ _ _)
  | rsz _ _ a b o len room sz h => rw [up_same] at h; cases h; exact .rsz nx 0 a b o len room sz (up_same _ _ _)
  | rs _ _ _ cap b o len room sz h h1 h2 h3 h4 => rw [up_same] at h; cases h; exact .rs nx 0 n cap b o len room sz (up_same _ _ _) h1 h2 h3 h4
end
section
variable {P : Program} {env : Env} {m : Mem} {nx : Nat}
theorem acall_lt {f : FuncId} {args : List D} {Post : D -> Mem -> Nat -> Prop} {i : Nat} {r : Row} (hm : m i = some r) (he : enterOk P f = true) (h : i < nx -> ACalls P f args m nx Post) : ACalls P f args m nx Post := ⟨he, fun F β w vs hM hβ hR => by
 refine (h ?_).2 F β w vs hM hβ hR
 rcases Nat.lt_or_ge i nx with g | g
 ·exact g
 ·obtain ⟨p, hp, _⟩ := hM.row i r hm
  rw [hβ i g] at hp; cases hp⟩
theorem ao_uc {Y : YSpec} {ops : Array Oper} {dr : Bool} {cf : List (Nat × Nat)} {Q : Exit -> St -> Prop} {rest : List Oper} {tr : Tra} {op : Op} {ty : TypeId} {pos : String} {after : Array Edge} {f : FuncId} {args : List D} {r : D} {ups : List (Nat × Option Row)} {rds : List Nat} {d : Option Nat}
  (h : ∀ m2 nx2, (∀ i ∈ rds, m i ≠ none -> m2 i = m i) -> ACalls P f args m2 nx2 fun r' m' nx' => r' = r /\ m' = upds m2 ups /\ nx' = nx2) (hu : ∀ i ∈ ups.map (·.1), i ∈ rds /\ m i ≠ none) (hc : callD (rho env op) op = some (f, args)) (ha : AskL env op.operands.toList)
  (K : AOps P Y ops dr cf Q rest (St.put ⟨env, upds m ups, nx⟩ d r) (tr ++ [(rds, ups.map (·.1))])) : AOps P Y ops dr cf Q (⟨d, op, ty, pos, after, none⟩ :: rest) ⟨env, m, nx⟩ tr := ao_call hc ha (.inr (.inr (.inr (.inr ⟨r, ups, rds, h, hu, K⟩))))
theorem ghost_fzm {i : Nat} {cs : List D} {e : TypeId} {l : List (Nat × D)} (hm : m i = some (.cells cs e)) (hl : EnvHas l fun t => sub (fz0 i cs (P.cellsOf e)) (env t)) :
  Ghost P ⟨env, m, nx⟩ ⟨envL l, fun j => if j = i then none else (m j).map (Row.sub (fz0 i cs (P.cellsOf e))), nx⟩ :=
 (Ghost.freeze env m nx i cs e hm).trans (Ghost.forget _ _ _ _ (envL_of hl))
theorem Jag.fz {j n q sz : Nat} {e et : TypeId} {ρ : Nat -> Nat} {L : Nat -> List D} {cs : List D} (h : Jag m nx j n e et ρ L) (hs : ∀ i, AllS (L i)) (hq : j ≠ q) (hρ : ∀ i, i < n -> L i ≠ [] -> ρ i ≠ q) :
  Jag (fun p => if p = q then none else (m p).map (Row.sub (fz0 q cs sz))) nx j n e et ρ L := by
 refine ⟨?_, h.jlt, fun i hi hl => ?_, h.lt, h.ne, h.inj⟩
 ·rw [if_neg hq, h.row]
  refine congrArg some (InertR.cells (X := fun p => p = q) (fun d hd => ?_) q cs sz rfl)
  obtain ⟨i, hi, rfl⟩ := List.mem_map.1 hd
  by_cases hl : L i = []
  ·rw [hl]; exact .z
  ·rw [jc_ne hl]; exact .rs (hρ i (by simpa using hi) hl)
 ·rw [if_neg (hρ i hi hl), h.row' i hi hl]
  exact congrArg some (InertR.allS (X := fun p => p = q) (hs i) q cs sz rfl)
end
end Go.Abs
namespace Go.Argus
open Go.Proofs.Tryz.K (nextR)
theorem edges_toR {f : Flow} {x : End} (h : endedB f x = true) : edgesR x = toR x := by
 unfold endedB at h
 rw [Bool.and_eq_true] at h
 obtain ⟨h, hb⟩ := h
 have hb := bare_in hb
 obtain ⟨kind, a, b, to, els, name, ins, args, whens, others⟩ := x
 simp only [endOk] at h hb
 by_cases h1 : kind = 1
 ·subst h1
  simp only [Int.reduceEq, if_false, if_true] at hb
  have hw : whens = [] := List.length_eq_zero_iff.1 hb.2.2.2.2.2.2.2
  have ho : others = -1 := hb.2.2.2.2.2.1
  subst hw ho
  simp [edgesR, ed1, ed2, ed3, toR, toC, isIn]
 by_cases h2 : kind = 2
 ·subst h2
  simp only [Int.reduceEq, if_false, if_true] at hb
  have hw : whens = [] := List.length_eq_zero_iff.1 hb.2.2.2.2.2.2.2
  have ho : others = -1 := hb.2.2.2.2.2.1
  subst hw ho
  simp [edgesR, ed1, ed2, ed3, toR, toC, isIn]
 by_cases h3 : kind = 3
 ·subst h3
  simp only [Int.reduceEq, if_false, if_true] at hb
  have hw : whens = [] := List.length_eq_zero_iff.1 hb.2.2.2.2.2.2.2
  have ho : others = -1 := hb.2.2.2.2.2.1
  subst hw ho
  simp [edgesR, ed1, ed2, ed3, toR, toC, isIn]
 by_cases h4 : kind = 4
 ·subst h4
  simp only [Int.reduceEq, if_false, if_true] at hb
  have hw : whens = [] := List.length_eq_zero_iff.1 hb.2.2.2.2.2.2.2
  have ho : others = -1 := hb.2.2.2.2.2.1
  subst hw ho
  simp [edgesR, ed1, ed2, ed3, toR, toC, isIn]
 by_cases h5 : kind = 5
 ·subst h5
  by_cases ho : 0 <= others <;> simp [edgesR, ed1, ed2, ed3, toR, toC, isIn, ho]
 by_cases h6 : kind = 6
 ·subst h6
  by_cases ho : 0 <= others <;> simp [edgesR, ed1, ed2, ed3, toR, toC, isIn, ho]
 by_cases h7 : kind = 7
 ·subst h7
  simp only [Int.reduceEq, if_false, if_true] at hb
  have hw : whens = [] := List.length_eq_zero_iff.1 hb.2.2.2.2.2.2.2
  have ho : others = -1 := hb.2.2.2.2.2.1
  subst hw ho
  simp [edgesR, ed1, ed2, ed3, toR, toC, isIn]
 by_cases h8 : kind = 8
 ·subst h8
  by_cases ho : 0 <= others <;> simp [edgesR, ed1, ed2, ed3, toR, toC, isIn, ho]
 by_cases h9 : kind = 9
 ·subst h9
  simp only [Int.reduceEq, if_false, if_true] at hb
  have hw : whens = [] := List.length_eq_zero_iff.1 hb.2.2.2.2.2.2.2
  have ho : others = -1 := hb.2.2.2.2.2.1
  subst hw ho
  simp [edgesR, ed1, ed2, ed3, toR, toC, isIn]
 ·simp only [h1, h2, h3, h4, h5, h6, h7, h8, h9, if_false] at h
  cases h
theorem formed_edges {f : Flow} (h : formedB f = true) : ∀ x ∈ f.blocks, edgesR x.fin = toR x.fin := by
 unfold formedB at h
 simp only [Bool.and_eq_true] at h
 obtain ⟨hH, hK, _, hE, hR⟩ := h
 intro x hx
 obtain ⟨k, hk⟩ := List.getElem?_of_mem hx
 have hlt : k < f.blocks.length := (List.getElem?_eq_some_iff.1 hk).1
 have := List.all_eq_true.1 hE k (by simpa using hlt)
 rw [blkEnds, getD_some hk] at this
 simp only [Bool.and_eq_true, Bool.not_eq_true', decide_eq_false_iff_not] at this
 exact edges_toR this.1
def behR (f : Flow) : List (List Int) := f.blocks.map fun x => nextR x.fin
theorem behR_get {f : Flow} {k : Nat} {x : Block} (h : f.blocks[k]? = some x) : behF (behR f) k = nextR x.fin := by
 unfold behF behR
 simp [List.getD_eq_getElem?_getD, h]
theorem behR_none {f : Flow} {k : Nat} (h : f.blocks.length <= k) : behF (behR f) k = [] := by
 unfold behF behR
 rw [List.getD_eq_getElem?_getD, List.getElem?_eq_none (by simpa using h)]; rfl
def graphC (f : Flow) (a b c : D) : List D := [S f.name, B f.iter, I f.args, U8 f.result, encBytes f.regs, encBytes f.slots, encStrs f.signals, encBlocks f.blocks, a, b, c]
def behC (f : Flow) (n k : Nat) : List D := (List.range n).map fun i => if i < k then encInts (behF (behR f) i) else .z
@[simp] theorem len_behC (f : Flow) (n k : Nat) : (behC f n k).length = n := by simp [behC]
theorem behC_set {f : Flow} {n k : Nat} {x : D} (hk : k < n) : (behC f n k).set k x = (List.range n).map fun i => if i = k then x else if i < k then encInts (behF (behR f) i) else .z := by
 unfold behC
 rw [range_set]
 exact List.map_congr_left fun i _ => rfl
def graphR (f : Flow) : List D := encGraph f (behR f) (aheadR f.blocks) (encBools (reachR (behF (behR f)) f.blocks.length (-1)))
end Go.Argus
namespace Go.Proofs.Tryz.K
set_option maxRecDepth 10000
theorem beh_in {f : Flow} (h : FlowOk f) : ∀ b, ∀ t ∈ behF (behR f) b, 0 <= t /\ t.toNat < f.blocks.length := fun b t ht => by
 cases hx : f.blocks[b]? with
 | none => rw [behR_none (List.getElem?_eq_none_iff.1 hx)] at ht; simp at ht
 | some x =>
  rw [behR_get hx] at ht
  have := (h.ends x (List.mem_of_getElem? hx)).to t (mem_sortedR.1 ht)
  omega
theorem beh_len {f : Flow} (h : FlowOk f) : ∀ b, (behF (behR f) b).length <= 100000 := fun b => by
 cases hx : f.blocks[b]? with
 | none => rw [behR_none (List.getElem?_eq_none_iff.1 hx)]; simp
 | some x =>
  rw [behR_get hx]
  have := len_nextR x.fin
  have := (h.ends x (List.mem_of_getElem? hx)).wh
  omega
end Go.Proofs.Tryz.K
end
section
open Go Go.Abs Go.Proofs Go.Argus
namespace Go.Proofs.Tryz.K
set_option maxRecDepth 10000
set_option maxHeartbeats 2000000 in
theorem k51_ok {f : Flow} (hck : checkR f = 0) : PCall Tryz.prog 51 [.agg (encFlow f)] (.tup [.pt (graphR f), I 0]) := by
 have k95 := k95 (f := f)
 rw [hck] at k95
 have hf : formedB f = true := by
  unfold checkR at hck
  split at hck
  ·assumption
  ·cases hck
 have hok := flowOk hf
 have hed := formed_edges hf
 obtain ⟨n, hn⟩ : ∃ n, f.blocks.length = n := ⟨_, rfl⟩
 have hn1 : n <= 1200 := hn ▸ hok.lim
 have hbi : ∀ b, ∀ t ∈ behF (behR f) b, 0 <= t /\ t.toNat < n := hn ▸ beh_in hok
 have hbl := beh_len hok
 refine pcall_of mixed ok51 (by rw [nt51]; rfl) (.cons (.agg (trs_flow f)) .nil) (.tup (.cons (.pt (trs_graph (.sl (.map fun _ => .s _)))) (.cons (.s _) .nil))) ?_
 rw [rs51, sk51]
 refine w_seq_region_g ?_
 refine J51 ?_;refine J90 ?_;refine J3 ?_
 refine ao_end (w_ghost (ghost_fr [(0, encFlow f, 26)] ⟨rfl, trivial⟩ (l := [(1, .pt (encFlow f))]) ⟨rfl, trivial⟩) (w_assoc (w_seq_region ?_)))
 refine J36 ?_;refine cl k95 ?_;refine J3 ?_
 refine ao_end (w_assoc (w_seq_region ?_))
 refine J0 ?_;refine J39 ?_
 refine ao_end (w_seq_if rfl (fun h => (by cases h)) fun h => w_seq_skip (w_seq_region ?_))
 refine J5 ?_;refine J4 ?_;refine J14 ?_;refine J3 ?_
 refine ao_end (w_seq_draw_g di_r51_5 ?_)
 refine J36 ?_;refine J0 ?_;refine J150 ?_;refine J0 ?_;refine J150 ?_;refine J32 ?_;refine J54 ?_
 refine ao_p (e_assign (v := .rp _ _) rfl) ak trivial ?_
 have hn' : ((f.blocks.length : Nat) : Int).toNat = n := hn
 refine ao_endc (by simp [apartT]) (w_ghost (ghost_st (l := [(1, .pt (encFlow f)), (6, .rp 3 0)]) (ml := [(1, .cells (List.replicate n .z) 27), (2, .cells (List.replicate n .z) 27), (3, .cells (graphC f (.rs 1 0 n) (.rs 2 0 n) .z) 89)]) ⟨rfl, rfl, trivial⟩ ⟨?_, ?_, ?_, trivial⟩) (w_assoc (w_seq_region_g ?_)))
 ·exact congrArg (fun c => some (Row.cells c 27)) ((congrArg (fun k => replD k [D.z]) hn').trans (replD_z n))
 ·exact congrArg (fun c => some (Row.cells c 27)) ((congrArg (fun k => replD k [D.z]) hn').trans (replD_z n))
 ·exact congrArg (fun k => some (Row.cells (graphC f (.rs 1 0 k) (.rs 2 0 k) .z) 89)) hn'
 refine J5 ?_;refine J4 ?_;refine J14 ?_;refine J0 ?_
 have hz0 : behC f n 0 = List.replicate n D.z := by
  unfold behC
  simp only [Nat.not_lt_zero, if_false]
  rw [List.map_const', List.length_range]
 refine ao_end (w_then (fun s => ∃ m nx ρ, Ghost Tryz.prog s ⟨envL [(6, .rp 3 0)], m, nx⟩ /\ 4 <= nx /\ m 1 = some (.cells (behC f n n) 27) /\ m 3 = some (.cells (graphC f (.rs 1 0 n) (.rs 2 0 n) .z) 89) /\ Jag m nx 2 n 27 3 ρ (fun i => (aheadL f.blocks n i).map I) /\ (∀ i, i < n -> (aheadL f.blocks n i).map I ≠ [] -> ρ i ≠ 1 /\ ρ i ≠ 3)) (w_range (α := Nat × Mem × Nat)
  (fun k => ⟨envL [(1, .pt (encFlow f)), (6, .rp 3 0), (28, encBlocks f.blocks), (29, I n), (30, I k.1)], k.2.1, k.2.2⟩)
  (fun k => k.1 <= n /\ 4 <= k.2.2 /\ k.2.1 1 = some (.cells (behC f n k.1) 27) /\ k.2.1 3 = some (.cells (graphC f (.rs 1 0 n) (.rs 2 0 n) .z) 89) /\ (∃ ρ, Jag k.2.1 k.2.2 2 n 27 3 ρ (fun i => (aheadL f.blocks k.1 i).map I) /\ (∀ i, i < n -> (aheadL f.blocks k.1 i).map I ≠ [] -> ρ i ≠ 1 /\ ρ i ≠ 3)) /\ ∀ i, (aheadL f.blocks k.1 i).length <= 12 * k.1) (fun k => n - k.1)
  (0, memL [(1, .cells (List.replicate n .z) 27), (2, .cells (List.replicate n .z) 27), (3, .cells (graphC f (.rs 1 0 n) (.rs 2 0 n) .z) 89)], 4)
  (ghost_of ⟨rfl, rfl, rfl, congrArg (fun k : Nat => I k) hn, rfl, trivial⟩) ⟨Nat.zero_le _, Nat.le_refl _, by rw [hz0]; rfl, rfl, ⟨fun _ => 0, jag_init (show 2 < 4 by decide) rfl, fun _ _ h => absurd rfl h⟩, fun _ => Nat.le_refl _⟩ ?_) ?_)
 ·rintro ⟨k, m, nx⟩ ⟨hk, hnx, m1, m3, ⟨ρ, hJ, hρ⟩, hlen⟩
  dsimp only at hk hnx m1 m3 hJ hρ hlen ⊢
  refine J16 ?_
  refine ao_end ⟨_, rfl, fun h => ?_, fun h => ?_⟩
  ·have hlt : k < n := by simpa using h
   have hx : f.blocks[k]? = some f.blocks[k] := List.getElem?_eq_getElem (by omega)
   have hxm : f.blocks[k] ∈ f.blocks := List.getElem_mem _
   generalize f.blocks[k] = x at hx hxm
   have hstep : aheadL f.blocks (k + 1) = (nextR x.fin).foldl (aheadT k) (aheadL f.blocks k) := by
    rw [aheadL, List.range_succ, List.foldl_append]
    show aheadB f.blocks _ k = _
    rw [aheadB, hx]; rfl
   have hbk := behR_get hx
   have hto := hbi k
   have hwh := (hok.ends x hxm).wh
   have hle := len_edges x.fin
   have hxe := hed x hxm
   have hnl := len_nextR x.fin
   have hnr : nextR x.fin = compactR (sortI (edgesR x.fin)) := by rw [hxe]; rfl
   have k115 := k115 (x := x.fin) (by omega)
   rw [hbk] at hto
   generalize aheadL f.blocks k = L0 at hJ hlen hρ hstep
   refine ws ?_;refine J0 ?_;refine J50 ?_;refine J61 ?_;refine J22 ?_;refine J3 ?_;refine J77 ?_;refine er ?_;refine J97 ?_
   refine ao_p (e_loadRA (vs := encEnd _) rfl (up_same _ _ _) V.h V.h rfl) ak (p_loadRA V.h V.h (by first | (simp; done) | omega | exact Nat.le_of_ble_eq_true rfl)) ?_
   refine ao_oc k115 rfl (by repeat' (first | exact trivial | exact rfl | refine And.intro ?_ ?_)) ?_
   refine J18 ?_
   generalize edgesR x.fin = d at hle hnr k115
   refine ao_end (w_seq_region_g ?_)
   refine J12 ?_
   refine ao_ac (k89 (i := nx + 1) (l := d) (by omega) (up_same _ _ _) rfl (by omega)) rfl (by repeat' (first | exact trivial | exact rfl | refine And.intro ?_ ?_)) fun r m' nx' hp => ?_
   obtain ⟨rfl, rfl, rfl⟩ := hp
   have hsl : (sortI d).length = d.length := len_sortI d
   have hcl : (compactR (sortI d)).length = (nextR x.fin).length := by rw [hnr]
   refine ao_end (w_ghost (ghost_mem (l := [(1, .pt (encFlow f)), (6, .rp 3 0), (7, I k), (9, .rs (nx + 1) 0 d.length), (28, encBlocks f.blocks), (29, I n), (30, I k)]) (m' := up (up m nx (some (.cells (encBlock x) 72))) (nx + 1) (some (.cells ((sortI d).map I) 3))) ⟨rfl, rfl, rfl, rfl, rfl, rfl, rfl, trivial⟩ (by rw [up_up, up_up])) (w_seq_draw_g di_r51_11 ?_))
   have hrow : up (up m nx (some (.cells (encBlock x) 72))) (nx + 1) (some (.cells ((sortI d).map I) 3)) 3 = some (.cells (graphC f (.rs 1 0 n) (.rs 2 0 n) .z) 89) := mskip (by omega) (mskip (by omega) m3)
   have hrow2 : up (up m nx (some (.cells (encBlock x) 72))) (nx + 1) (some (.cells ((sortI d).map I) 3)) 1 = some (.cells (behC f n k) 27) := mskip (by omega) (mskip (by omega) m1)
   have hrow3 : up (up m nx (some (.cells (encBlock x) 72))) (nx + 1) (some (.cells ((sortI d).map I) 3)) (nx + 1) = some (.cells ((sortI d).map I) 3) := up_same _ _ _
   have hρn := hJ.lt
   have hJ := hJ.ext (m' := up (up m nx (some (.cells (encBlock x) 72))) (nx + 1) (some (.cells ((sortI d).map I) 3))) (nx' := nx + 2) (fun q hq => mskip (by omega) (mskip (by omega) rfl)) (by omega)
   generalize up (up m nx (some (.cells (encBlock x) 72))) (nx + 1) (some (.cells ((sortI d).map I) 3)) = M at hrow hrow2 hrow3 hJ
   clear m1 m3
   refine J78 ?_;refine J151 ?_;refine J152 ?_;refine J47 ?_;refine J0 ?_;refine J12 ?_
   refine ao_uc (r := .rs (nx + 1) 0 (compactR (sortI d)).length) (ups := [(nx + 1, some (.cells (compC (sortI d) d.length) 3))]) (rds := [nx + 1]) (fun m2 nx2 hm2 => ?_) ?_ rfl (by repeat' (first | exact trivial | exact rfl | refine And.intro ?_ ?_)) ?_
   ·have e := hm2 (nx + 1) (by simp) (by rw [hrow3]; simp)
    rw [hrow3] at e
    refine acall_lt e ok90.he fun hlt2 => (k90e hlt2 e hsl (by omega)).mono ?_
    rintro r m' nx' ⟨h1, h2, h3⟩
    exact ⟨h2, h3, h1⟩
   ·intro i hi
    simp at hi
    subst hi
    exact ⟨by simp, by rw [hrow3]; simp⟩
   have hcc : compC (sortI d) d.length = (nextR x.fin).map I ++ List.replicate (d.length - (nextR x.fin).length) (I 0) := by rw [compC, hnr]
   show AOps _ _ _ _ _ _ _ ⟨up _ 46 _, up M (nx + 1) (some (.cells (compC (sortI d) d.length) 3)), _⟩ _
   rw [<- hnr, hcc]
   have hnd : (nextR x.fin).length <= d.length := by
    rw [hnr]
    have : (compactR (sortI d)).length <= (sortI d).length := len_ddK _
    omega
   clear hcc hcl hnr hrow3
   generalize nextR x.fin = l at hto hnl hstep hbk hnd
   refine ao_p (e_idxRi rfl rfl (mskip (by omega) hrow2) V.h V.h) ak ⟨V.h, by omega⟩ ?_
   refine ao_w (e_store1 (d := .rs _ _ _) (cs' := _) rfl rfl (mskip (by omega) hrow2) rfl rfl) ak (p_store V.h V.h (by first | (simp; done) | exact ⟨rfl, Nat.le_of_ble_eq_true rfl⟩ | (simp; omega)) rfl) ?_
   refine ao_endc (by simp [apartT]; omega) ?_
   have e1 : (behC f n k).set k (.rs (nx + 1) 0 l.length) = (List.range n).map fun i => if i = k then .rs (nx + 1) 0 l.length else if i < k then encInts (behF (behR f) i) else .z := behC_set hlt
   rw [e1]
   refine w_ghost (ghost_fzm (i := nx + 1) (e := 3) (cs := l.map I ++ List.replicate (d.length - l.length) (I 0)) (l := [(1, .pt (encFlow f)), (6, .rp 3 0), (7, I k), (28, encBlocks f.blocks), (29, I n), (30, I k)]) (mskip (by omega) (up_same _ _ _)) ⟨rfl, fz_rp_ne (by omega), rfl, rfl, rfl, rfl, trivial⟩) (w_seq_region_g ?_)
   have N1 : (fun j => if j = nx + 1 then none else (up (up M (nx + 1) (some (.cells (l.map I ++ List.replicate (d.length - l.length) (I 0)) 3))) 1 (some (.cells ((List.range n).map fun i => if i = k then .rs (nx + 1) 0 l.length else if i < k then encInts (behF (behR f) i) else .z) 27)) j).map (Row.sub (fz0 (nx + 1) (l.map I ++ List.replicate (d.length - l.length) (I 0)) (Tryz.prog.cellsOf 3)))) 1 = some (.cells (behC f n (k + 1)) 27) := by
    dsimp only
    rw [if_neg (by omega), up_same]
    show some (Row.cells (List.map _ (List.map _ _)) 27) = _
    rw [List.map_map, behC]
    refine congrArg (fun c => some (Row.cells c 27)) (List.map_congr_left fun i _ => ?_)
    simp only [Function.comp_apply]
    by_cases hik : i = k
    ·subst hik
     rw [if_pos rfl, if_pos (by omega), hbk, c3, fz_rs]
     simp [encInts]
    ·rw [if_neg hik]
     by_cases h2 : i < k
     ·rw [if_pos h2, if_pos (by omega)]; rfl
     ·rw [if_neg h2, if_neg (by omega)]; rfl
   have N3 : (fun j => if j = nx + 1 then none else (up (up M (nx + 1) (some (.cells (l.map I ++ List.replicate (d.length - l.length) (I 0)) 3))) 1 (some (.cells ((List.range n).map fun i => if i = k then .rs (nx + 1) 0 l.length else if i < k then encInts (behF (behR f) i) else .z) 27)) j).map (Row.sub (fz0 (nx + 1) (l.map I ++ List.replicate (d.length - l.length) (I 0)) (Tryz.prog.cellsOf 3)))) 3 = some (.cells (graphC f (.rs 1 0 n) (.rs 2 0 n) .z) 89) := by
    dsimp only
    rw [if_neg (by omega), up_ne _ _ (by omega), up_ne _ _ (by omega), hrow]
    refine congrArg some (InertR.cells (X := fun p => p = nx + 1) (fun d hd => ?_) _ _ _ rfl)
    simp only [graphC, List.mem_cons, List.not_mem_nil, or_false] at hd
    rcases hd with rfl | rfl | rfl | rfl | rfl | rfl | rfl | rfl | rfl | rfl | rfl
    ·exact .s _
    ·exact .s _
    ·exact .s _
    ·exact .s _
    ·exact .sl _ _
    ·exact .sl _ _
    ·exact .sl _ _
    ·exact .sl _ _
    ·exact .rs (by omega)
    ·exact .rs (by omega)
    ·exact .z
   have NJ : Jag (fun j => if j = nx + 1 then none else (up (up M (nx + 1) (some (.cells (l.map I ++ List.replicate (d.length - l.length) (I 0)) 3))) 1 (some (.cells ((List.range n).map fun i => if i = k then .rs (nx + 1) 0 l.length else if i < k then encInts (behF (behR f) i) else .z) 27)) j).map (Row.sub (fz0 (nx + 1) (l.map I ++ List.replicate (d.length - l.length) (I 0)) (Tryz.prog.cellsOf 3)))) (nx + 2) 2 n 27 3 ρ (fun i => (L0 i).map I) := by
    refine Jag.fz ⟨?_, hJ.jlt, fun i hi hl => ?_, hJ.lt, hJ.ne, hJ.inj⟩ (fun _ => .map) (by omega) fun i hi hl => by have := hρn i hi hl; omega
    ·exact mskip (by omega) (mskip (by omega) hJ.row)
    ·have := hρn i hi hl
     exact mskip (hρ i hi hl).1 (mskip (by omega) (hJ.row' i hi hl))
   clear hrow hrow2 hJ e1
   generalize (fun j => if j = nx + 1 then none else (up (up M (nx + 1) (some (.cells (l.map I ++ List.replicate (d.length - l.length) (I 0)) 3))) 1 (some (.cells ((List.range n).map fun i => if i = k then .rs (nx + 1) 0 l.length else if i < k then encInts (behF (behR f) i) else .z) 27)) j).map (Row.sub (fz0 (nx + 1) (l.map I ++ List.replicate (d.length - l.length) (I 0)) (Tryz.prog.cellsOf 3)))) = m at N1 N3 NJ ⊢
   have hrow := N3
   have hrow2 := N1
   have kd : (behC f n (k + 1)).drop k = encInts l :: (behC f n (k + 1)).drop (k + 1) := by
    rw [List.drop_eq_getElem_cons (by simp; omega)]
    congr 1
    simp [behC, hbk]
   refine J78 ?_;refine J151 ?_;refine J152 ?_;refine J47 ?_;refine J0 ?_;refine J102 ?_;refine J122 ?_;refine J14 ?_;refine J0 ?_
   have hl1 : l.length <= 10 := by omega
   clear kd hrow hrow2 hx hwh hxe hle hnl hsl hnd k115
   refine ao_end (w_range (α := Nat × Mem × Nat)
    (fun j => ⟨envL [(1, .pt (encFlow f)), (6, .rp 3 0), (7, I k), (28, encBlocks f.blocks), (29, I n), (30, I k), (54, encInts l), (55, I l.length), (56, I j.1)], j.2.1, j.2.2⟩)
    (fun j => j.1 <= l.length /\ 4 <= j.2.2 /\ j.2.1 1 = some (.cells (behC f n (k + 1)) 27) /\ j.2.1 3 = some (.cells (graphC f (.rs 1 0 n) (.rs 2 0 n) .z) 89) /\ (∃ ρ, Jag j.2.1 j.2.2 2 n 27 3 ρ (fun i => ((l.take j.1).foldl (aheadT k) L0 i).map I) /\ (∀ i, i < n -> ((l.take j.1).foldl (aheadT k) L0 i).map I ≠ [] -> ρ i ≠ 1 /\ ρ i ≠ 3)) /\ ∀ i, ((l.take j.1).foldl (aheadT k) L0 i).length <= 12 * k + j.1) (fun j => l.length - j.1) (0, m, nx + 2)
    (ghost_of ⟨rfl, rfl, rfl, rfl, rfl, rfl, rfl, rfl, rfl, trivial⟩) ⟨Nat.zero_le _, by dsimp only; omega, N1, N3, ⟨ρ, NJ, hρ⟩, hlen⟩ ?_)
   clear N1 N3 NJ hlen hρ hρn hnx
   rintro ⟨j, m, nx⟩ ⟨hj, hnx, m1, m3, ⟨ρ, hJ, hρ⟩, hlen⟩
   dsimp only at hj hnx m1 m3 hJ hρ hlen ⊢
   have hrow := hJ.row
   have hrow2 := m3
   have hjl := hJ.jlt
   have vstep : ∀ t, l[j]? = some t -> (l.take (j + 1)).foldl (aheadT k) L0 = aheadT k ((l.take j).foldl (aheadT k) L0) t := fun t ht => foldl_take ht
   have vlast : j = l.length -> (l.take j).foldl (aheadT k) L0 = aheadL f.blocks (k + 1) := fun e => by rw [hstep, List.take_of_length_le (by omega)]
   generalize (l.take j).foldl (aheadT k) L0 = L at hJ hρ hlen hrow vstep vlast
   refine J16 ?_
   refine ao_end ⟨_, rfl, fun h => ?_, fun h => ?_⟩
   ·have hjl' : j < l.length := by simpa using h
    have hti : l[j]? = some l[j] := List.getElem?_eq_getElem hjl'
    have htm := hto _ (List.getElem_mem hjl')
    generalize l[j] = t at hti htm
    obtain ⟨i, rfl⟩ := Int.eq_ofNat_of_zero_le htm.1
    have hin : i < n := htm.2
    have hL := hlen i
    have vstep : (l.take (j + 1)).foldl (aheadT k) L0 = up L i (L i ++ [(k : Int)]) := vstep _ hti
    have hlen' : ∀ i, ((l.take (j + 1)).foldl (aheadT k) L0 i).length <= 12 * k + (j + 1) := fun a => by
     rw [vstep]; exact aheadT_len (t := (i : Int)) hlen a
    have hLm : (fun a => ((l.take (j + 1)).foldl (aheadT k) L0 a).map I) = up (fun a => (L a).map I) i ((L i ++ [(k : Int)]).map I) := by rw [vstep]; exact map_up
    obtain ⟨cs, kd⟩ := drop_jag (ρ := ρ) (L := fun i => (L i).map I) hin
    have hρ' : ∀ a, a < n -> ((l.take (j + 1)).foldl (aheadT k) L0 a).map I ≠ [] -> up ρ i (nx + 1) a ≠ 1 /\ up ρ i (nx + 1) a ≠ 3 := fun a ha hne => by
     simp only [up]
     split
     ·omega
     ·rename_i hai
      refine hρ a ha ?_
      rw [vstep, up_ne _ _ hai] at hne
      exact hne
    refine ws ?_;refine J25 ?_;refine J4 ?_;refine J3 ?_
    refine ao_end (w_drawB di_r51_15 ?_)
    by_cases hz : L i = []
    ·have hjc : jc (ρ i) ((L i).map I) = .z := by rw [hz]; rfl
     rw [hjc] at kd
     refine J78 ?_;refine J123 ?_;refine J124 ?_;refine J125 ?_;refine J0 ?_;refine J78 ?_;refine J123 ?_;refine J124 ?_;refine J125 ?_;refine J0 ?_;refine J71 ?_;refine J88 ?_;refine J0 ?_;refine J35 ?_;refine J112 ?_
     refine ao_p (e_idxRi rfl rfl (mskip (by omega) (mskip (by omega) hrow)) V.h V.h) ak ⟨V.h, by omega⟩ ?_
     refine ao_w (e_store1 (d := .rs _ _ _) (cs' := _) rfl rfl (mskip (by omega) (mskip (by omega) hrow)) rfl rfl) ak (p_store V.h V.h (by first | (simp; done) | exact ⟨rfl, Nat.le_of_ble_eq_true rfl⟩ | (simp; omega)) rfl) ?_
     refine ao_endc (by simp [apartT]; omega) ?_
     refine J10 ?_;refine J0 ?_
     refine ao_end (next_of (j + 1, up (up (up m nx (some (.cells [I k] 3))) (nx + 1) (some (.cells [I k] 3))) 2 (some (.cells ((jagC ρ (fun i => (L i).map I) n).set i (.rs (nx + 1) 0 1)) 27)), nx + 2) (ghost_of ⟨rfl, rfl, rfl, rfl, rfl, rfl, rfl, rfl, rfl, trivial⟩) ⟨by dsimp only; omega, by dsimp only; omega, ?_, ?_, ⟨up ρ i (nx + 1), ?_, hρ'⟩, hlen'⟩ (by dsimp only; omega))
     ·dsimp only
      exact mskip (by omega) (mskip (by omega) (mskip (by omega) m1))
     ·dsimp only
      exact mskip (by omega) (mskip (by omega) (mskip (by omega) m3))
     dsimp only
     rw [hLm]
     refine hJ.upd hin (by simp) (by omega) (by omega) ?_ ?_ (fun q hq hqj _ => ?_)
     ·rw [hz]; exact up_same _ _ _
     ·rw [hz]; exact mskip (by omega) (up_same _ _ _)
     ·exact mskip (by omega) (mskip (by omega) (mskip (by omega) rfl))
    ·have hne : (L i).map I ≠ [] := by simpa using hz
     have hjc : jc (ρ i) ((L i).map I) = .rs (ρ i) 0 (L i).length := by rw [jc_ne hne, List.length_map]
     rw [hjc] at kd
     have hrow3 := hJ.row' i hin hne
     have hρn := hJ.lt i hin hne
     have hρ2 := hJ.ne i hin hne
     obtain ⟨hρ1, hρ3⟩ := hρ i hin hne
     refine J78 ?_;refine J123 ?_;refine J124 ?_;refine J125 ?_;refine J0 ?_;refine J78 ?_;refine J123 ?_;refine J124 ?_;refine J125 ?_;refine J0 ?_;refine J71 ?_;refine J88 ?_;refine J0 ?_;refine J35 ?_
     refine ao_m (e_appR rfl (mskip (by omega) hrow3) rfl V.h V.h (cells_rs (up_same _ _ _) rfl) rfl) ak ⟨V.h, rfl, (by first | omega | exact Nat.le_of_ble_eq_true rfl | (simp; done) | (simp; omega)), (by decide), (by first | rfl | (simp; done) | (simp; omega)), (by unfold maxLen; first | omega | (simp; omega)), (by rw [b3]; first | omega | (simp; omega)), (by first | (simp; done) | (simp; omega))⟩ ?_
     refine ao_p (e_idxRi rfl rfl (mskip (by omega) (mskip (by omega) (mskip (by omega) hrow))) V.h V.h) ak ⟨V.h, by omega⟩ ?_
     refine ao_w (e_store1 (d := .rs _ _ _) (cs' := _) rfl rfl (mskip (by omega) (mskip (by omega) (mskip (by omega) hrow))) rfl rfl) ak (p_store V.h V.h (by first | (simp; done) | exact ⟨rfl, Nat.le_of_ble_eq_true rfl⟩ | (simp; omega)) rfl) ?_
     refine ao_endc (by simp [apartT]; omega) ?_
     refine J10 ?_;refine J0 ?_
     refine ao_end (next_of (j + 1, up (up (up (up m nx (some (.cells [I k] 3))) (ρ i) none) (nx + 1) (some (.cells ((L i).map I ++ [I k]) 3))) 2 (some (.cells ((jagC ρ (fun i => (L i).map I) n).set i (.rs (nx + 1) 0 ((L i).length + 1))) 27)), nx + 2) (ghost_of ⟨rfl, rfl, rfl, rfl, rfl, rfl, rfl, rfl, rfl, trivial⟩) ⟨by dsimp only; omega, by dsimp only; omega, ?_, ?_, ⟨up ρ i (nx + 1), ?_, hρ'⟩, hlen'⟩ (by dsimp only; omega))
     ·dsimp only
      exact mskip (by omega) (mskip (by omega) (mskip (by omega) (mskip (by omega) m1)))
     ·dsimp only
      exact mskip (by omega) (mskip (by omega) (mskip (by omega) (mskip (by omega) m3)))
     dsimp only
     rw [hLm]
     refine hJ.upd hin (by simp) (by omega) (by omega) ?_ ?_ (fun q hq hqj hqi => ?_)
     ·rw [List.length_map, List.length_append]; exact up_same _ _ _
     ·rw [List.map_append]; exact mskip (by omega) (up_same _ _ _)
     ·have := hqi hne
      exact mskip (by omega) (mskip (by omega) (mskip (by omega) (mskip (by omega) rfl)))
   ·have hge : ¬ j < l.length := by simpa using h
    have vl := vlast (by omega)
    subst vl
    show AOps _ _ _ _ _ _ _ _ _
    refine J10 ?_;refine J0 ?_
    refine ao_end (next_of (k + 1, m, nx) (ghost_of ⟨rfl, rfl, rfl, rfl, rfl, trivial⟩) ⟨by dsimp only; omega, hnx, m1, m3, ⟨ρ, hJ, hρ⟩, fun i => by have := hlen i; dsimp only at this ⊢; omega⟩ (by dsimp only; omega))
  ·have hge : ¬ k < n := by simpa using h
   have : k = n := by omega
   subst this
   exact ⟨m, nx, ρ, ghost_of ⟨rfl, trivial⟩, hnx, m1, m3, hJ, hρ⟩
 ·rintro s ⟨m, nx, ρ, hg, hnx, m1, m3, hJ, hρ⟩
  have hXj : ¬ ∃ i, i < n /\ (aheadL f.blocks n i).map I ≠ [] /\ ρ i = 2 := fun ⟨i, h1, h2, h3⟩ => hJ.ne i h1 h2 h3
  have hX1 : ¬ ∃ i, i < n /\ (aheadL f.blocks n i).map I ≠ [] /\ ρ i = 1 := fun ⟨i, h1, h2, h3⟩ => (hρ i h1 h2).1 h3
  have hX3 : ¬ ∃ i, i < n /\ (aheadL f.blocks n i).map I ≠ [] /\ ρ i = 3 := fun ⟨i, h1, h2, h3⟩ => (hρ i h1 h2).2 h3
  have hg1 := hg.trans (jag_ghost (l := [(6, .rp 3 0)]) (ml := [(1, .cells (behC f n n) 27), (3, .cells (graphC f (.rs 1 0 n) (.rs 2 0 n) .z) 89)]) (fun r => ∃ i, i < n /\ (aheadL f.blocks n i).map I ≠ [] /\ ρ i = r) hJ (fun _ => .map) c3 (fun i h1 h2 => ⟨i, h1, h2, rfl⟩) hXj ⟨rfl, trivial⟩ (fun x hx => by simp at hx; subst hx; exact .rp hX3) ⟨m1, m3, trivial⟩ (fun x hx => ?_))
  rotate_left
  ·simp only [List.mem_cons, List.not_mem_nil, or_false] at hx
   rcases hx with rfl | rfl
   ·refine ⟨InertR.cells fun d hd => ?_, hX1⟩
    obtain ⟨i, _, rfl⟩ := List.mem_map.1 hd
    split
    ·exact .sl _ _
    ·exact .z
   ·refine ⟨InertR.cells fun d hd => ?_, hX3⟩
    simp only [graphC, List.mem_cons, List.not_mem_nil, or_false] at hd
    rcases hd with rfl | rfl | rfl | rfl | rfl | rfl | rfl | rfl | rfl | rfl | rfl
    ·exact .s _
    ·exact .s _
    ·exact .s _
    ·exact .s _
    ·exact .sl _ _
    ·exact .sl _ _
    ·exact .sl _ _
    ·exact .sl _ _
    ·exact .rs hX1
    ·exact .rs hXj
    ·exact .z
  have hbc : behC f n n = (behR f).map encInts := by
   unfold behC behR
   refine List.ext_getElem (by simp [hn]) fun i h1 h2 => ?_
   have hi : i < n := by simpa using h1
   simp only [List.getElem_map, List.getElem_range, hi, if_true]
   exact congrArg encInts (behR_get (List.getElem?_eq_getElem (by omega)))
  have hg2 := hg1.trans (ghost_fzk (i := 1) (e := 27) (cs := behC f n n) (l := [(6, .rp 3 0)]) (ml := [(2, .cells ((List.range n).map fun i => .sl ((aheadL f.blocks n i).map I) ((aheadL f.blocks n i).map I).length) 27), (3, .cells (graphC f (encLists (behR f)) (.rs 2 0 n) .z) 89)]) rfl ⟨rfl, trivial⟩ ⟨?_, ?_, trivial⟩)
  rotate_left
  ·refine fr_keepM (by omega) rfl (InertR.cells (X := fun p => p = 1) (fun d hd => ?_) _ _ _ rfl)
   obtain ⟨i, _, rfl⟩ := List.mem_map.1 hd
   exact .sl _ _
  ·show some (Row.cells (List.map _ (graphC f (.rs 1 0 n) (.rs 2 0 n) .z)) 89) = _
   have e1 : sub (fz0 1 (behC f n n) (Tryz.prog.cellsOf 27)) (.rs 1 0 n) = encLists (behR f) := by
    rw [sub_rs_eq (by rw [c27]; simp), hbc, encLists, show (behR f).length = n by simp [behR, hn]]
   have e2 : sub (fz0 1 (behC f n n) (Tryz.prog.cellsOf 27)) (.rs 2 0 n) = .rs 2 0 n := sub_rs_ne (by omega)
   simp only [graphC, List.map_cons, List.map_nil, e1, e2]
   rfl
  have hg3 := hg2.trans (ghost_fzk (i := 2) (e := 27) (cs := (List.range n).map fun i => .sl ((aheadL f.blocks n i).map I) ((aheadL f.blocks n i).map I).length) (l := [(6, .rp 3 0)]) (ml := [(3, .cells (graphC f (encLists (behR f)) (encLists (aheadR f.blocks)) .z) 89)]) rfl ⟨rfl, trivial⟩ ⟨?_, trivial⟩)
  rotate_left
  ·show some (Row.cells (List.map _ (graphC f (encLists (behR f)) (.rs 2 0 n) .z)) 89) = _
   have e1 : sub (fz0 2 ((List.range n).map fun i => .sl ((aheadL f.blocks n i).map I) ((aheadL f.blocks n i).map I).length) (Tryz.prog.cellsOf 27)) (.rs 2 0 n) = encLists (aheadR f.blocks) := by
    rw [sub_rs_eq (by rw [c27]; simp), lists_of, aheadR, hn]
   simp only [graphC, List.map_cons, List.map_nil, e1]
   rfl
  refine ⟨_, hg3, w_seq_region_g ?_⟩
  have k116 := k116 (f := f) (beh := behR f) (ahd := aheadR f.blocks) (c := .z) (w := -1) .z rfl (by simp [behR, hn]) hn (by have := hok.pos; omega) (by omega) hbi hbl
  have hlR := reach_len (w := -1) hbi (by have := hok.pos; omega)
  have hgr : graphR f = encGraph f (behR f) (aheadR f.blocks) (encBools (reachR (behF (behR f)) n (-1))) := by rw [graphR, hn]
  rw [hgr]
  generalize reachR (behF (behR f)) n (-1) = R at k116 hlR ⊢
  refine J78 ?_;refine J78 ?_
  refine ao_ac (acall_snap_own (rds := [3]) (args := [.rp 3 0, I (-1)]) (args' := [.pt (encGraph f (behR f) (aheadR f.blocks) .z), I (-1)]) ⟨sn_rp (cs := encGraph f (behR f) (aheadR f.blocks) .z) rfl (by simp) rfl (trs_graph .z), sn_tr (.s _), trivial⟩ k116 (fun d hd => by obtain ⟨x, _, rfl⟩ := List.mem_map.1 hd; rfl)) rfl (by repeat' (first | exact trivial | exact rfl | refine And.intro ?_ ?_)) fun d m' nx' hp => ?_
  obtain ⟨rfl, rfl, rfl⟩ := hp
  have hrow : up (memL [(3, .cells (graphC f (encLists (behR f)) (encLists (aheadR f.blocks)) .z) 89)]) nx (some (.cells (R.map B) 4)) 3 = some (.cells (graphC f (encLists (behR f)) (encLists (aheadR f.blocks)) .z) 89) := mskip (by omega) rfl
  refine J151 ?_;refine J152 ?_
  refine ao_w (e_store1 (d := .rs _ _ _) (cs' := _) rfl rfl hrow rfl rfl) ak (p_store V.h V.h (by first | (simp; done) | exact ⟨rfl, Nat.le_of_ble_eq_true rfl⟩ | (simp; omega)) rfl) ?_
  refine ao_end ?_
  have e0 : (fun j => if j = nx then none else (up (up (memL [(3, .cells (graphC f (encLists (behR f)) (encLists (aheadR f.blocks)) .z) 89)]) nx (some (.cells (R.map B) 4))) 3 (some (.cells (graphC f (encLists (behR f)) (encLists (aheadR f.blocks)) (.rs nx 0 n)) 89)) j).map (Row.sub (fz0 nx (R.map B) (Tryz.prog.cellsOf 4)))) 3 = some (.cells (graphC f (encLists (behR f)) (encLists (aheadR f.blocks)) (encBools R)) 89) := by
   dsimp only
   rw [if_neg (by omega), up_same]
   show some (Row.cells (List.map _ (graphC f (encLists (behR f)) (encLists (aheadR f.blocks)) (.rs nx 0 n))) 89) = _
   have e1 : sub (fz0 nx (R.map B) (Tryz.prog.cellsOf 4)) (.rs nx 0 n) = encBools R := by
    rw [sub_rs_eq (by rw [c4]; simp [hlR]), encBools, hlR]
   simp only [graphC, List.map_cons, List.map_nil, e1]
   rfl
  refine ⟨_, (ghost_fzm (i := nx) (e := 4) (cs := R.map B) (l := [(6, .rp 3 0)]) (mskip (by omega) (up_same _ _ _)) ⟨fz_rp_ne (by omega), trivial⟩).trans (ghost_fz (i := 3) (l := [(6, .pt (encGraph f (behR f) (aheadR f.blocks) (encBools R)))]) e0 ⟨fz_rp, trivial⟩), w_seq_region ?_⟩
  refine J30 ?_;refine J126 ?_;refine J3 ?_
  exact ao_end (q_ret2 rfl rfl rfl)
end Go.Proofs.Tryz.K
end
section
namespace Go.Argus
open Go Go.Abs
def zeroS : List Int := List.replicate 19 0
def withs (w : List Int) (l : List Int) : List Int := l.foldl (fun w r => withW w r.toNat) w
def insS (s : List Int) (y : Ins) : List Int := withs (lessI s (writesR y)) (readsR y)
structure LS where
 inn : List (List Int)
 out : List (List Int)
 ch : Bool
structure LG where
 beh : Nat -> List Int
 blk : Nat -> Block
 giv : Nat -> Int -> List Int
 wri : Nat -> Int -> Int
def edgeS (g : LG) (inn : List (List Int)) (b : Nat) (s : List Int) (c : Int) : List Int := bothW s (lessI (withs (inn.getD c.toNat []) (g.giv b c)) (g.wri b c))
def outS (g : LG) (inn : List (List Int)) (b : Nat) : List Int := withs ((g.beh b).foldl (edgeS g inn b) zeroS) (readsEnd (g.blk b).fin)
def innS (g : LG) (b : Nat) (s : List Int) : List Int := (g.blk b).ins.reverse.foldl insS s
def liveB (g : LG) (s : LS) (b : Nat) : LS :=
 if outS g s.inn b ≠ s.out.getD b [] \/ innS g b (outS g s.inn b) ≠ s.inn.getD b [] then ⟨s.inn.set b (innS g b (outS g s.inn b)), s.out.set b (outS g s.inn b), true⟩ else s
def livePass (g : LG) (l : List Int) (s : LS) : LS := l.foldl (fun s b => liveB g s b.toNat) ⟨s.inn, s.out, false⟩
def liveIter (g : LG) (l : List Int) : Nat -> LS -> LS
 | 0, s => s
 | k + 1, s => if (livePass g l s).ch = true then liveIter g l k (livePass g l s) else livePass g l s
def SetOk (w : List Int) : Prop := w.length = 19 /\ AllU w
theorem SetOk.with {w : List Int} (h : SetOk w) (m : Nat) : SetOk (withW w m) := ⟨by simp [h.1], h.2.with m⟩
theorem SetOk.zero : SetOk zeroS := ⟨by simp [zeroS], AllU_zero 19⟩
theorem SetOk.lessI {w : List Int} (h : SetOk w) (n : Int) : SetOk (lessI w n) := ⟨by simp [h.1], h.2.lessI n⟩
theorem SetOk.both {w v : List Int} (h : SetOk w) : SetOk (bothW w v) := ⟨by simp [h.1], AllU.bothK h.2 19⟩
theorem SetOk.withs {w : List Int} (h : SetOk w) : ∀ l : List Int, SetOk (withs w l)
 | [] => h
 | r :: l => SetOk.withs (h.with r.toNat) l
def RegsIn (l : List Int) : Prop := ∀ r ∈ l, 0 <= r /\ r < 1216
theorem bit_withs {w : List Int} (h : SetOk w) {l : List Int} (hl : RegsIn l) (r : Nat) : bitW (withs w l) r = true ↔ bitW w r = true \/ (r : Int) ∈ l := by
 induction l generalizing w with
 | nil => simp [withs]
 | cons a l ih =>
  have ha := hl a (by simp)
  have : withs w (a :: l) = withs (withW w a.toNat) l := rfl
  rw [this, ih (h.with _) (fun r hr => hl r (by simp [hr])), bit_with h.2 (by have := h.1; omega)]
  simp only [Bool.or_eq_true, decide_eq_true_eq, List.mem_cons]
  have : r = a.toNat ↔ (r : Int) = a := by omega
  rw [this]
  constructor
  ·rintro ((h | h) | h)
   ·exact .inl h
   ·exact .inr (.inl h)
   ·exact .inr (.inr h)
  ·rintro (h | h | h)
   ·exact .inl (.inl h)
   ·exact .inl (.inr h)
   ·exact .inr h
def insB (r : Nat) (p : Prop) : List Ins -> Prop
 | [] => p
 | y :: t => (r : Int) ∈ readsR y \/ (writesR y ≠ (r : Int) /\ insB r p t)
structure InsIn (y : Ins) : Prop where
 rd : RegsIn (readsR y)
 wr : writesR y < 1216
theorem SetOk.insS {s : List Int} (h : SetOk s) (y : Ins) : SetOk (insS s y) := (h.lessI _).withs _
theorem bit_insS {s : List Int} (h : SetOk s) {y : Ins} (hy : InsIn y) (r : Nat) : bitW (insS s y) r = true ↔ (r : Int) ∈ readsR y \/ (writesR y ≠ (r : Int) /\ bitW s r = true) := by
 unfold insS
 rw [bit_withs (h.lessI _) hy.rd, bit_lessI h.2 (by have := h.1; have := hy.wr; omega)]
 simp only [Bool.and_eq_true, Bool.not_eq_true', decide_eq_false_iff_not]
 constructor
 ·rintro (⟨h1, h2⟩ | h1)
  ·exact .inr ⟨fun e => h2 e.symm, h1⟩
  ·exact .inl h1
 ·rintro (h1 | ⟨h1, h2⟩)
  ·exact .inr h1
  ·exact .inl ⟨h2, fun e => h1 e.symm⟩
theorem SetOk.foldIns {s : List Int} (h : SetOk s) : ∀ l : List Ins, SetOk (l.foldl Argus.insS s)
 | [] => h
 | y :: l => SetOk.foldIns (h.insS y) l
theorem bit_foldIns {s : List Int} (h : SetOk s) (r : Nat) : ∀ (l : List Ins), (∀ y ∈ l, InsIn y) -> (bitW (l.reverse.foldl insS s) r = true ↔ insB r (bitW s r = true) l)
 | [], _ => Iff.rfl
 | y :: l, hl => by
  rw [List.reverse_cons, List.foldl_append]
  show bitW (insS (l.reverse.foldl insS s) y) r = true ↔ _
  rw [bit_insS (h.foldIns _) (hl y (by simp)), bit_foldIns h r l fun y hy => hl y (by simp [hy])]
  rfl
theorem insB_mono {r : Nat} {p q : Prop} (h : p -> q) : ∀ {l : List Ins}, insB r p l -> insB r q l
 | [], hp => h hp
 | y :: l, hp => by
  rcases hp with hp | ⟨h1, h2⟩
  ·exact .inl hp
  ·exact .inr ⟨h1, insB_mono h h2⟩
structure LGOk (g : LG) (n : Nat) : Prop where
 beh : ∀ b, ∀ c ∈ g.beh b, 0 <= c /\ c.toNat < n
 ins : ∀ b, ∀ y ∈ (g.blk b).ins, InsIn y
 giv : ∀ b, ∀ c ∈ g.beh b, RegsIn (g.giv b c)
 wri : ∀ b, ∀ c ∈ g.beh b, g.wri b c < 1216
 red : ∀ b, RegsIn (readsEnd (g.blk b).fin)
def onWay (g : LG) (p : Nat -> Prop) (b : Nat) (r : Nat) (c : Int) : Prop := g.wri b c ≠ (r : Int) /\ ((r : Int) ∈ g.giv b c \/ p c.toNat)
def outB (g : LG) (p : Nat -> Prop) (b : Nat) (r : Nat) : Prop := (r : Int) ∈ readsEnd (g.blk b).fin \/ ∃ c ∈ g.beh b, onWay g p b r c
def innB (g : LG) (p : Nat -> Prop) (b : Nat) (r : Nat) : Prop := insB r (outB g p b r) (g.blk b).ins
structure LSOk (n : Nat) (s : LS) : Prop where
 ln : s.inn.length = n
 lo : s.out.length = n
 inn : ∀ w ∈ s.inn, SetOk w
 out : ∀ w ∈ s.out, SetOk w
section
variable {g : LG} {n : Nat}
theorem getSet {l : List (List Int)} (hl : ∀ w ∈ l, SetOk w) {k : Nat} (hk : k < l.length) : SetOk (l.getD k []) := by
 rw [List.getD_eq_getElem?_getD, List.getElem?_eq_getElem hk]
 exact hl _ (List.getElem_mem hk)
theorem edge_one (hg : LGOk g n) {inn : List (List Int)} (hi : inn.length = n) (hin : ∀ w ∈ inn, SetOk w) {b : Nat} (r : Nat) {c : Int} (hc : c ∈ g.beh b) {s : List Int} (hs : SetOk s) :
  bitW (edgeS g inn b s c) r = true ↔ bitW s r = true \/ onWay g (fun c => bitW (inn.getD c []) r = true) b r c := by
 have hcn := hg.beh b c hc
 have hw := getSet hin (show c.toNat < inn.length by omega)
 have h1 := hw.withs (g.giv b c)
 have h2 := h1.lessI (g.wri b c)
 have hlt := hg.wri b c hc
 have hgv := hg.giv b c hc
 have h19 := h1.1
 unfold edgeS onWay
 rw [bit_both hs.2 h2.2 hs.1 h2.1, Bool.or_eq_true, bit_lessI h1.2 (by omega)]
 simp only [Bool.and_eq_true, Bool.not_eq_true', decide_eq_false_iff_not]
 rw [bit_withs hw hgv]
 constructor
 ·rintro (h | ⟨h1, h2⟩)
  ·exact .inl h
  ·exact .inr ⟨fun e => h2 e.symm, h1.symm⟩
 ·rintro (h | ⟨h1, h2⟩)
  ·exact .inl h
  ·exact .inr ⟨h2.symm, fun e => h1 e.symm⟩
theorem edge_ok (hg : LGOk g n) {inn : List (List Int)} (hi : inn.length = n) (hin : ∀ w ∈ inn, SetOk w) {b : Nat} (r : Nat) (l : List Int) (hl : ∀ c ∈ l, c ∈ g.beh b) : ∀ s, SetOk s ->
  SetOk (l.foldl (edgeS g inn b) s) /\ (bitW (l.foldl (edgeS g inn b) s) r = true ↔ bitW s r = true \/ ∃ c ∈ l, onWay g (fun c => bitW (inn.getD c []) r = true) b r c) := by
 induction l with
 | nil => exact fun s hs => ⟨hs, by simp⟩
 | cons c l ih =>
  intro s hs
  have hc := hl c (by simp)
  have hs' : SetOk (edgeS g inn b s c) := hs.both
  have he := edge_one hg hi hin r hc hs
  rw [List.foldl_cons]
  generalize edgeS g inn b s c = s1 at hs' he
  obtain ⟨a1, a2⟩ := ih (fun c h => hl c (by simp [h])) s1 hs'
  refine ⟨a1, ?_⟩
  rw [a2, he]
  constructor
  ·rintro ((h | h) | ⟨d, h1, h2⟩)
   ·exact .inl h
   ·exact .inr ⟨c, by simp, h⟩
   ·exact .inr ⟨d, by simp [h1], h2⟩
  ·rintro (h | ⟨d, h1, h2⟩)
   ·exact .inl (.inl h)
   ·rcases List.mem_cons.1 h1 with e | e
    ·exact .inl (.inr (e ▸ h2))
    ·exact .inr ⟨d, e, h2⟩
theorem outS_ok (hg : LGOk g n) {inn : List (List Int)} (hi : inn.length = n) (hin : ∀ w ∈ inn, SetOk w) (b r : Nat) :
  SetOk (outS g inn b) /\ (bitW (outS g inn b) r = true ↔ outB g (fun c => bitW (inn.getD c []) r = true) b r) := by
 obtain ⟨h1, h2⟩ := edge_ok hg hi hin (b := b) r (g.beh b) (fun _ h => h) zeroS SetOk.zero
 refine ⟨h1.withs _, ?_⟩
 unfold outS outB
 rw [bit_withs h1 (hg.red b), h2]
 have : bitW zeroS r = false := bit_zero 19 r
 rw [this]
 simp [or_comm]
theorem innS_ok (hg : LGOk g n) {s : List Int} (hs : SetOk s) (b r : Nat) : SetOk (innS g b s) /\ (bitW (innS g b s) r = true ↔ insB r (bitW s r = true) (g.blk b).ins) :=
 ⟨hs.foldIns _, bit_foldIns hs r _ (hg.ins b)⟩
theorem innS_out (hg : LGOk g n) {inn : List (List Int)} (hi : inn.length = n) (hin : ∀ w ∈ inn, SetOk w) (b r : Nat) :
  SetOk (innS g b (outS g inn b)) /\ (bitW (innS g b (outS g inn b)) r = true ↔ innB g (fun c => bitW (inn.getD c []) r = true) b r) := by
 obtain ⟨h1, h2⟩ := outS_ok hg hi hin b r
 obtain ⟨h3, h4⟩ := innS_ok hg h1 b r
 refine ⟨h3, ?_⟩
 rw [h4]
 unfold innB
 exact ⟨insB_mono h2.1, insB_mono h2.2⟩
theorem outB_mono {p q : Nat -> Prop} (h : ∀ c, p c -> q c) {b r : Nat} : outB g p b r -> outB g q b r := by
 rintro (h1 | ⟨c, h1, h2, h3⟩)
 ·exact .inl h1
 ·exact .inr ⟨c, h1, h2, h3.imp_right (h _)⟩
theorem innB_mono {p q : Nat -> Prop} (h : ∀ c, p c -> q c) {b r : Nat} : innB g p b r -> innB g q b r := insB_mono (outB_mono h)
end
end Go.Argus
namespace Go.Argus
def missW (w : List Int) : Nat := (List.range 1216).countP fun r => !bitW w r
theorem countP_lt {p q : Nat -> Bool} {l : List Nat} (h : ∀ x, q x = true -> p x = true) {x : Nat} (hx : x ∈ l) (hp : p x = true) (hq : q x = false) : l.countP q < l.countP p := by
 induction l with
 | nil => simp at hx
 | cons a l ih =>
  simp only [List.countP_cons]
  have hle : l.countP q <= l.countP p := List.countP_mono_left fun y _ hy => h y hy
  rcases List.mem_cons.1 hx with e | e
  ·subst e; simp [hp, hq]; omega
  ·have := ih e
   cases hqa : q a with
   | false => simp; omega
   | true => simp [h a hqa]; omega
theorem missW_le {w v : List Int} (h : ∀ r, bitW w r = true -> bitW v r = true) : missW v <= missW w := List.countP_mono_left fun r _ hr => by
 cases hw : bitW w r with
 | false => rfl
 | true => rw [h r hw] at hr; cases hr
theorem missW_lt {w v : List Int} (hw : SetOk w) (hv : SetOk v) (h : ∀ r, bitW w r = true -> bitW v r = true) (hne : w ≠ v) : missW v < missW w := by
 have : ∃ r, bitW w r ≠ bitW v r := by
  apply Classical.byContradiction
  intro hc
  refine hne (words_ext hw.2 hv.2 (by rw [hw.1, hv.1]) fun r => ?_)
  apply Classical.byContradiction
  exact fun hr => hc ⟨r, hr⟩
 obtain ⟨r, hr⟩ := this
 have hwr : bitW w r = false := by
  cases e : bitW w r with
  | false => rfl
  | true => rw [h r e] at hr; exact absurd e hr
 have hvr : bitW v r = true := by
  cases e : bitW v r with
  | true => rfl
  | false => rw [hwr, e] at hr; exact absurd rfl hr
 have hlt : r < 1216 := by
  apply Classical.byContradiction
  intro hc
  have : bitW v r = false := by
   unfold bitW
   rw [List.getD_eq_getElem?_getD, List.getElem?_eq_none (by rw [hv.1]; omega)]
   simp
  rw [this] at hvr; cases hvr
 refine countP_lt (p := fun r => !bitW w r) (q := fun r => !bitW v r) (fun x hx => ?_) (x := r) (by simpa using hlt) (by simp [hwr]) (by simp [hvr])
 cases e : bitW w x with
 | false => rfl
 | true => rw [h x e] at hx; cases hx
def missL (l : List (List Int)) : Nat := (l.map missW).sum
theorem missL_set {l : List (List Int)} {k : Nat} {w v : List Int} (h : l[k]? = some w) : missL (l.set k v) + missW w = missL l + missW v := by
 unfold missL
 rw [List.map_set]
 exact sum_set (by simp [h])
def muL (s : LS) : Nat := missL s.inn + missL s.out
def phL (s : LS) : Nat := muL s + if s.ch = true then 1 else 0
def biL (s : LS) (r : Nat) (c : Nat) : Prop := bitW (s.inn.getD c []) r = true
structure LInv (g : LG) (n : Nat) (ord : List Int) (s : LS) : Prop where
 ok : LSOk n s
 mi : ∀ b r, bitW (s.inn.getD b []) r = true -> innB g (biL s r) b r
 mo : ∀ b r, bitW (s.out.getD b []) r = true -> outB g (biL s r) b r
 si : ∀ b r, bitW (s.inn.getD b []) r = true -> (b : Int) ∈ ord
 so : ∀ b r, bitW (s.out.getD b []) r = true -> (b : Int) ∈ ord
 snd : ∀ (r : Nat) (Q : Nat -> Prop), (∀ b, innB g Q b r -> Q b) -> ∀ b, bitW (s.inn.getD b []) r = true -> Q b
theorem getD_set {l : List (List Int)} {b : Nat} (hb : b < l.length) (v : List Int) (c : Nat) : (l.set b v).getD c [] = if c = b then v else l.getD c [] := by
 simp only [List.getD_eq_getElem?_getD, List.getElem?_set]
 by_cases h : b = c
 ·subst h; simp [hb]
 ·rw [if_neg h, if_neg fun e => h e.symm]
section
variable {g : LG} {n : Nat} {ord : List Int}
theorem liveB_ok (hg : LGOk g n) {s : LS} (h : LInv g n ord s) {b : Nat} (hb : b < n) (hbo : (b : Int) ∈ ord) : LInv g n ord (liveB g s b) /\ phL (liveB g s b) <= phL s := by
 have hO := fun r => outS_ok hg h.ok.ln h.ok.inn b r
 have hT := fun r => innS_out hg h.ok.ln h.ok.inn b r
 have hbi : b < s.inn.length := by rw [h.ok.ln]; exact hb
 have hbu : b < s.out.length := by rw [h.ok.lo]; exact hb
 have hwi := getSet h.ok.inn hbi
 have hwo := getSet h.ok.out hbu
 have gi : s.inn[b]? = some (s.inn.getD b []) := by rw [List.getD_eq_getElem?_getD, List.getElem?_eq_getElem hbi]; rfl
 have go : s.out[b]? = some (s.out.getD b []) := by rw [List.getD_eq_getElem?_getD, List.getElem?_eq_getElem hbu]; rfl
 unfold liveB
 generalize hOe : outS g s.inn b = O at hO hT
 generalize hTe : innS g b O = T at hT
 split
 ·rename_i hc
  have hmo : ∀ r, bitW (s.out.getD b []) r = true -> bitW O r = true := fun r hr => (hO r).2.2 (h.mo b r hr)
  have hmi : ∀ r, bitW (s.inn.getD b []) r = true -> bitW T r = true := fun r hr => (hT r).2.2 (h.mi b r hr)
  have hbig : ∀ r c, biL s r c -> biL ⟨s.inn.set b T, s.out.set b O, true⟩ r c := fun r c hr => by
   unfold biL at hr ⊢
   simp only
   rw [getD_set hbi]
   split
   ·rename_i e; subst e; exact hmi r hr
   ·exact hr
  refine ⟨⟨⟨by simp [h.ok.ln], by simp [h.ok.lo], fun w hw => ?_, fun w hw => ?_⟩, fun c r hr => ?_, fun c r hr => ?_, fun c r hr => ?_, fun c r hr => ?_, fun r Q hQ c hr => ?_⟩, ?_⟩
  ·rcases List.mem_or_eq_of_mem_set hw with e | e
   ·exact h.ok.inn w e
   ·subst e; exact (hT 0).1
  ·rcases List.mem_or_eq_of_mem_set hw with e | e
   ·exact h.ok.out w e
   ·subst e; exact (hO 0).1
  ·simp only at hr
   rw [getD_set hbi] at hr
   split at hr
   ·rename_i e; subst e; exact innB_mono (hbig r) ((hT r).2.1 hr)
   ·exact innB_mono (hbig r) (h.mi c r hr)
  ·simp only at hr
   rw [getD_set hbu] at hr
   split at hr
   ·rename_i e; subst e; exact outB_mono (hbig r) ((hO r).2.1 hr)
   ·exact outB_mono (hbig r) (h.mo c r hr)
  ·simp only at hr
   rw [getD_set hbi] at hr
   split at hr
   ·rename_i e; subst e; exact hbo
   ·exact h.si c r hr
  ·simp only at hr
   rw [getD_set hbu] at hr
   split at hr
   ·rename_i e; subst e; exact hbo
   ·exact h.so c r hr
  ·simp only at hr
   rw [getD_set hbi] at hr
   split at hr
   ·rename_i e; subst e
    exact hQ _ (innB_mono (fun d hd => h.snd r Q hQ d hd) ((hT r).2.1 hr))
   ·exact h.snd r Q hQ c hr
  ·unfold phL muL
   simp only
   have e1 := missL_set (v := T) gi
   have e2 := missL_set (v := O) go
   have l1 := missW_le hmo
   have l2 := missW_le hmi
   have : missW O < missW (s.out.getD b []) \/ missW T < missW (s.inn.getD b []) := by
    rcases hc with hc | hc
    ·exact .inl (missW_lt hwo (hO 0).1 hmo fun e => hc e.symm)
    ·exact .inr (missW_lt hwi (hT 0).1 hmi fun e => hc e.symm)
   split <;> omega
 ·exact ⟨h, Nat.le_refl _⟩
theorem liveB_ch {s : LS} {b : Nat} (h : s.ch = true) : (liveB g s b).ch = true := by
 unfold liveB
 split
 ·rfl
 ·exact h
theorem fold_ch : ∀ {l : List Int} {s : LS}, s.ch = true -> (l.foldl (fun s b => liveB g s b.toNat) s).ch = true
 | [], _, h => h
 | b :: l, s, h => by rw [List.foldl_cons]; exact fold_ch (liveB_ch h)
theorem fold_fix : ∀ {l : List Int} {s : LS}, (l.foldl (fun s b => liveB g s b.toNat) s).ch = false -> l.foldl (fun s b => liveB g s b.toNat) s = s /\ ∀ b ∈ l, outS g s.inn b.toNat = s.out.getD b.toNat [] /\ innS g b.toNat (outS g s.inn b.toNat) = s.inn.getD b.toNat []
 | [], _, _ => ⟨rfl, by simp⟩
 | b :: l, s, h => by
  rw [List.foldl_cons] at h ⊢
  by_cases hc : outS g s.inn b.toNat ≠ s.out.getD b.toNat [] \/ innS g b.toNat (outS g s.inn b.toNat) ≠ s.inn.getD b.toNat []
  ·have : (liveB g s b.toNat).ch = true := by unfold liveB; rw [if_pos hc]
   rw [fold_ch this] at h
   cases h
  ·have e : liveB g s b.toNat = s := by unfold liveB; rw [if_neg hc]
   rw [e] at h ⊢
   obtain ⟨h1, h2⟩ := fold_fix h
   refine ⟨h1, fun c hcm => ?_⟩
   rcases List.mem_cons.1 hcm with e | e
   ·subst e
    exact ⟨Classical.byContradiction fun e => hc (.inl e), Classical.byContradiction fun e => hc (.inr e)⟩
   ·exact h2 c e
theorem pass_ok (hg : LGOk g n) (ho : ∀ b ∈ ord, 0 <= b /\ b.toNat < n) {s : LS} (h : LInv g n ord s) : LInv g n ord (livePass g ord s) /\ phL (livePass g ord s) <= muL s := by
 have h0 : LInv g n ord ⟨s.inn, s.out, false⟩ := ⟨⟨h.ok.ln, h.ok.lo, h.ok.inn, h.ok.out⟩, h.mi, h.mo, h.si, h.so, h.snd⟩
 have := foldl_inv (J := LInv g n ord) (φ := phL) (f := fun s b => liveB g s b.toNat) (l := ord) (fun b hb s hs => liveB_ok hg hs (ho b hb).2 (by have := (ho b hb).1; rwa [Int.toNat_of_nonneg this])) (s := ⟨s.inn, s.out, false⟩) h0
 exact ⟨this.1, this.2⟩
theorem iter_ok (hg : LGOk g n) (ho : ∀ b ∈ ord, 0 <= b /\ b.toNat < n) : ∀ (k : Nat) {s : LS}, LInv g n ord s -> muL s < k -> LInv g n ord (liveIter g ord k s) /\
  ∀ b ∈ ord, outS g (liveIter g ord k s).inn b.toNat = (liveIter g ord k s).out.getD b.toNat [] /\ innS g b.toNat (outS g (liveIter g ord k s).inn b.toNat) = (liveIter g ord k s).inn.getD b.toNat []
 | 0, s, _, hk => by omega
 | k + 1, s, h, hk => by
  obtain ⟨h1, h2⟩ := pass_ok hg ho h
  rw [liveIter]
  split
  ·rename_i hc
   refine iter_ok hg ho k h1 ?_
   unfold phL at h2
   rw [if_pos hc] at h2
   omega
  ·rename_i hc
   have hc : (livePass g ord s).ch = false := by simpa using hc
   refine ⟨h1, ?_⟩
   obtain ⟨e1, e2⟩ := fold_fix (g := g) hc
   have e1 : livePass g ord s = ⟨s.inn, s.out, false⟩ := e1
   rw [e1]
   exact e2
def liveInit (n : Nat) : LS := ⟨List.replicate n zeroS, List.replicate n zeroS, true⟩
theorem init_bits (n b r : Nat) : bitW ((List.replicate n zeroS).getD b []) r = false := by
 rw [List.getD_eq_getElem?_getD, List.getElem?_replicate]
 split
 ·exact bit_zero 19 r
 ·simp [bitW]
theorem init_ok (n : Nat) : LInv g n ord (liveInit n) := by
 have hz : ∀ b r, ¬ bitW ((List.replicate n zeroS).getD b []) r = true := fun b r h => by rw [init_bits] at h; cases h
 exact ⟨⟨by simp [liveInit], by simp [liveInit], fun w hw => by rw [List.eq_of_mem_replicate hw]; exact .zero, fun w hw => by rw [List.eq_of_mem_replicate hw]; exact .zero⟩,
  fun b r h => absurd h (hz b r), fun b r h => absurd h (hz b r), fun b r h => absurd h (hz b r), fun b r h => absurd h (hz b r), fun r Q _ b h => absurd h (hz b r)⟩
def liveR (g : LG) (n : Nat) (ord : List Int) : LS := liveIter g ord (muL (liveInit n) + 1) (liveInit n)
theorem live_spec (hg : LGOk g n) (ho : ∀ b ∈ ord, 0 <= b /\ b.toNat < n) : LInv g n ord (liveR g n ord) /\
  (∀ (b : Nat) r, (b : Int) ∈ ord -> (bitW ((liveR g n ord).inn.getD b []) r = true ↔ innB g (biL (liveR g n ord) r) b r)) /\ (∀ (b : Nat) r, (b : Int) ∈ ord -> (bitW ((liveR g n ord).out.getD b []) r = true ↔ outB g (biL (liveR g n ord) r) b r)) := by
 obtain ⟨h1, h2⟩ := iter_ok hg ho (muL (liveInit n) + 1) (init_ok n) (Nat.lt_succ_self _)
 unfold liveR
 generalize liveIter g ord (muL (liveInit n) + 1) (liveInit n) = R at h1 h2
 refine ⟨h1, fun b r hb => ?_, fun b r hb => ?_⟩
 ·obtain ⟨e1, e2⟩ := h2 b hb
  simp only [Int.toNat_natCast] at e1 e2
  rw [<- e2]
  exact (innS_out hg h1.ok.ln h1.ok.inn b r).2
 ·obtain ⟨e1, e2⟩ := h2 b hb
  simp only [Int.toNat_natCast] at e1 e2
  rw [<- e1]
  exact (outS_ok hg h1.ok.ln h1.ok.inn b r).2
end
end Go.Argus
end
section
open Go Go.Abs Go.Proofs Go.Argus
namespace Go.Argus
def ahdF (f : Flow) (c : Nat) : List Int := aheadL f.blocks f.blocks.length c
def blkF (f : Flow) (b : Nat) : Block := f.blocks.getD b noBlk
def lgR (f : Flow) : LG := ⟨behF (behR f), blkF f, fun b c => givenR (ahdF f c.toNat) b (blkF f c.toNat), fun b c => writtenR (blkF f b).fin c⟩
theorem blkF_get {f : Flow} {b : Nat} {x : Block} (h : f.blocks[b]? = some x) : blkF f b = x := getD_some h
theorem blkF_none {f : Flow} {b : Nat} (h : f.blocks.length <= b) : blkF f b = noBlk := by
 unfold blkF
 rw [List.getD_eq_getElem?_getD, List.getElem?_eq_none h]; rfl
theorem mem_tw {α : Type} {p : α -> Bool} {y : α} : ∀ {l : List α}, y ∈ l.takeWhile p -> p y = true
 | [], h => by simp at h
 | a :: l, h => by
  rw [List.takeWhile_cons] at h
  split at h
  ·rename_i ha
   rcases List.mem_cons.1 h with e | e
   ·subst e; exact ha
   ·exact mem_tw e
  ·simp at h
theorem phisR_op {x : Block} {y : Ins} (h : y ∈ phisR x) : y.op = 19 := by simpa [isPhi] using mem_tw h
theorem phisR_mem {x : Block} {y : Ins} (h : y ∈ phisR x) : y ∈ x.ins := (List.takeWhile_prefix isPhi).subset h
theorem FlowOk.phi2 {f : Flow} (h : FlowOk f) {b : Nat} {x : Block} (hx : f.blocks[b]? = some x) {y : Ins} (hy : y ∈ phisR x) : y.args.length = (ahdF f b).length /\ ∀ r ∈ y.args, 0 <= r /\ r < 1200 := by
 obtain ⟨j, hj⟩ := List.getElem?_of_mem (phisR_mem hy)
 obtain ⟨h1, _, _, _, h2⟩ := (insOk_right h.regs h.slots.1 h.slots.2 (h.right b x hx j y hj)).2 (phisR_op hy)
 refine ⟨by unfold ahdF; omega, fun r hr => ?_⟩
 have := (h2 r hr).2
 unfold RegIn at this
 have := h.regs
 omega
def ordL (f : Flow) : List Int := (orderR (behF (behR f)) f.blocks.length).reverse
end Go.Argus
namespace Go.Proofs.Tryz.K
set_option maxRecDepth 10000
theorem lg_ok {f : Flow} (h : FlowOk f) : LGOk (lgR f) f.blocks.length := by
 have hins : ∀ b, ∀ y ∈ (blkF f b).ins, InsOk y := fun b y hy => by
  cases hx : f.blocks[b]? with
  | none => rw [blkF_none (List.getElem?_eq_none_iff.1 hx)] at hy; simp [noBlk] at hy
  | some x => rw [blkF_get hx] at hy; exact (h.blk x (List.mem_of_getElem? hx)).ins y hy
 have hfin : ∀ b, b < f.blocks.length -> FinOk (blkF f b).fin := fun b hb => by
  rw [blkF_get (List.getElem?_eq_getElem hb)]; exact (h.ends _ (List.getElem_mem hb)).fin
 refine ⟨beh_in h, fun b y hy => ?_, fun b c hc => ?_, fun b c hc => ?_, fun b => ?_⟩
 ·have := hins b y hy
  exact ⟨fun r hr => by have := this.rd r hr; omega, by have := this.wr; omega⟩
 ·have hcn := beh_in h b c hc
  have hx := List.getElem?_eq_getElem hcn.2
  intro r hr
  obtain ⟨y, hy, rfl⟩ := List.mem_map.1 hr
  rw [blkF_get hx] at hy
  obtain ⟨e1, e2⟩ := h.phi2 hx hy
  rw [List.getD_eq_getElem?_getD]
  cases e : y.args[(idxF (fun z => (b : Int) == z) (ahdF f c.toNat)).toNat]? with
  | none => simp
  | some v =>
   have := e2 v (List.mem_of_getElem? e)
   simp only [Option.getD_some]
   omega
 ·show writtenR _ _ < 1216
  have hb : b < f.blocks.length := by
   rcases Nat.lt_or_ge b f.blocks.length with g | g
   ·exact g
   ·have hc : c ∈ behF (behR f) b := hc
    rw [behR_none g] at hc; simp at hc
  have := (hfin b hb).wr
  show writtenR (blkF f b).fin c < 1216
  unfold writtenR
  split <;> omega
 ·intro r hr
  have hr : r ∈ readsEnd (blkF f b).fin := hr
  rcases Nat.lt_or_ge b f.blocks.length with g | g
  ·have := (hfin b g).rd r hr; omega
  ·rw [blkF_none g] at hr; simp [noBlk, readsEnd, isIn] at hr
theorem ord_in {f : Flow} (h : FlowOk f) : ∀ b ∈ ordL f, 0 <= b /\ b.toNat < f.blocks.length := fun b hb => by
 have hpos := h.pos
 have hb := (mem_order (beh_in h) hpos).1 (List.mem_reverse.1 hb)
 refine ⟨hb.1, ?_⟩
 have hl := reach_len (w := -1) (beh_in h) hpos
 rcases Nat.lt_or_ge b.toNat f.blocks.length with g | g
 ·exact g
 ·rw [List.getD_eq_getElem?_getD, List.getElem?_eq_none (by omega)] at hb
  simp at hb
theorem ord_len {f : Flow} (h : FlowOk f) : (ordL f).length <= 1200 := by
 have hpos := h.pos
 have hz : (List.replicate f.blocks.length false).getD 0 false = false := by rw [List.getD_eq_getElem?_getD, List.getElem?_replicate]; split <;> rfl
 have := (dfs_len (w := -1) (beh_in h) f.blocks.length).1 (List.replicate f.blocks.length false, []) 0 (by simp) hpos hz
 have hl := h.lim
 unfold ordL orderR
 simp at this ⊢
 omega
end Go.Proofs.Tryz.K
end
section
open Go Go.Abs Go.Proofs Go.Argus
namespace Go.Abs
theorem keepM {i j sz : Nat} {cs0 cs : List D} {e : TypeId} {m : Mem} (hji : j ≠ i) (hm : m j = some (.cells cs e)) (h : AllS cs) : (if j = i then none else (m j).map (Row.sub (fz0 i cs0 sz))) = some (.cells cs e) :=
 fr_keepM hji hm (InertR.allS (X := fun p => p = i) h i cs0 sz rfl)
end Go.Abs
namespace Go.Argus
theorem withs_take {w : List Int} {l : List Int} {j : Nat} {r : Int} (h : l[j]? = some r) : withs w (l.take (j + 1)) = withW (withs w (l.take j)) r.toNat := by
 unfold withs
 exact foldl_take (f := fun w (r : Int) => withW w r.toNat) h
end Go.Argus
namespace Go.Proofs.Tryz.K
set_option maxRecDepth 10000
set_option maxHeartbeats 1000000 in
theorem k65 {f : Flow} {n : Nat} (h : FlowOk f) (hn : f.blocks.length = n) {c : D} (hc : Tr c) (hc1 : c.one = true) : PCall Tryz.prog 65 [.pt (encGraph f (behR f) (aheadR f.blocks) c)] (.tup [.sl (encWs (liveR (lgR f) n (ordL f)).inn) n, .sl (encWs (liveR (lgR f) n (ordL f)).out) n]) := by
 have hFl := h
 have hbi := beh_in h
 have hbl := beh_len h
 have hpos := h.pos
 have hn1 : n <= 1200 := hn ▸ h.lim
 have hlg := lg_ok h
 have hoi := ord_in h
 have hol := ord_len h
 rw [hn] at hbi hpos hlg hoi
 have k85 := k85 (f := f) (beh := behR f) (ahd := aheadR f.blocks) hc hc1 (n := n) (by simp [behR, hn]) hn hpos (by omega) hbi hbl
 have hordL : ordL f = (orderR (behF (behR f)) n).reverse := by rw [ordL, hn]
 refine pcall_of mixed ok65 (by rw [nt65]; rfl) (.cons (tr_graph hc) .nil) (.tup (.cons (.sl (trs_ws _)) (.cons (.sl (trs_ws _)) .nil))) ?_
 rw [rs65, sk65]
 refine ws ?_;refine J23 ?_;refine J23 ?_;refine er ?_;refine J30 ?_;refine J48 ?_;refine J5 ?_;refine J5 ?_;refine J4 ?_;refine J14 ?_;refine J3 ?_
 refine ao_end (w_seq_draw_g di_r65_2 ?_)
 refine J0 ?_
 refine ao_a (e_makeSl rfl rfl V.h V.h) ak ⟨by omega, rfl, by omega, by rw [b100]; omega, V.h⟩ ?_
 refine J0 ?_
 refine ao_a (e_makeSl rfl rfl V.h V.h) ak ⟨by omega, rfl, by omega, by rw [b100]; omega, V.h⟩ ?_
 refine J18 ?_;refine J18 ?_
 have hn' : ((f.blocks.length : Nat) : Int).toNat = n := hn
 refine ao_endc (by simp [apartT]) (w_ghost (ghost_st (l := [(0, .pt (encGraph f (behR f) (aheadR f.blocks) c)), (2, .rs 0 0 n), (3, .rs 1 0 n)]) (ml := [(0, .cells (encWs (List.replicate n zeroS)) 100), (1, .cells (encWs (List.replicate n zeroS)) 100)]) ⟨rfl, ?_, ?_, trivial⟩ ⟨?_, ?_, trivial⟩) (w_seq_region ?_))
 ·exact congrArg (fun k => D.rs 0 0 k) hn'
 ·exact congrArg (fun k => D.rs 1 0 k) hn'
 ·exact congrArg (fun c => some (Row.cells c 100)) ((congrArg (fun k => replD k (zeroS.map U64)) hn').trans (replD_ws n zeroS))
 ·exact congrArg (fun c => some (Row.cells c 100)) ((congrArg (fun k => replD k (zeroS.map U64)) hn').trans (replD_ws n zeroS))
 have hrl : (orderR (behF (behR f)) n).length <= 1200 := by rw [hordL, List.length_reverse] at hol; exact hol
 generalize orderR (behF (behR f)) n = O at k85 hordL hrl
 refine J30 ?_
 refine ao_oc k85 rfl (by repeat' (first | exact trivial | exact rfl | refine And.intro ?_ ?_)) ?_
 refine J18 ?_
 refine ao_end (w_seq_region_g ?_)
 refine J12 ?_
 refine ao_ac (k84 (i := 2) (l := O) (Nat.lt_succ_self _) rfl rfl (by omega)) rfl (by repeat' (first | exact trivial | exact rfl | refine And.intro ?_ ?_)) fun r m' nx' hp => ?_
 obtain ⟨rfl, rfl, rfl⟩ := hp
 generalize hR : liveR (lgR f) n (ordL f) = R
 have hR : R = liveIter (lgR f) (ordL f) (muL (liveInit n) + 1) (liveInit n) := hR.symm
 have hi0 : LInv (lgR f) n (ordL f) (liveInit n) := init_ok n
 have hordE : D.sl (O.reverse.map I) O.length = encInts (ordL f) := by rw [hordL, encInts, List.length_reverse]
 have hlr : O.reverse = ordL f := hordL.symm
 rw [hlr]
 have hOl : O.length = (ordL f).length := by rw [hordL, List.length_reverse]
 clear hlr hordE
 generalize ordL f = ord at *
 refine ao_end (w_ghost (ghost_fzk (i := 2) (e := 3) (cs := ord.map I) (l := [(0, .pt (encGraph f (behR f) (aheadR f.blocks) c)), (2, .rs 0 0 n), (3, .rs 1 0 n), (5, encInts ord)]) (ml := [(0, .cells (encWs (List.replicate n zeroS)) 100), (1, .cells (encWs (List.replicate n zeroS)) 100)]) rfl ⟨rfl, rfl, rfl, ?_, trivial⟩ ⟨keepM (by omega) rfl (allS_ws _), keepM (by omega) rfl (allS_ws _), trivial⟩) (w_assoc (w_seq_region_g ?_)))
 ·refine (sub_rs_eq (by rw [c3]; simp [hOl])).trans ?_
  rw [hOl]
 refine J1 ?_
 refine ao_end (w_then (fun s => ∃ n', Ghost Tryz.prog s ⟨envL [(2, .rs 0 0 n), (3, .rs 1 0 n)], memL [(0, .cells (encWs R.inn) 100), (1, .cells (encWs R.out) 100)], n'⟩ /\ LInv (lgR f) n ord R) (w_while (α := LS × Nat)
  (fun s => ⟨envL [(0, .pt (encGraph f (behR f) (aheadR f.blocks) c)), (2, .rs 0 0 n), (3, .rs 1 0 n), (5, encInts ord), (6, B s.1.ch)], memL [(0, .cells (encWs s.1.inn) 100), (1, .cells (encWs s.1.out) 100)], s.2⟩)
  (fun s => LInv (lgR f) n ord s.1 /\ 3 <= s.2 /\ (s.1.ch = true -> ∃ k, muL s.1 < k /\ liveIter (lgR f) ord k s.1 = R) /\ (s.1.ch = false -> s.1 = R)) (fun s => 2 * muL s.1 + if s.1.ch = true then 1 else 0) (liveInit n, 3)
  (ghost_st ⟨rfl, rfl, rfl, rfl, rfl, trivial⟩ ⟨rfl, rfl, trivial⟩) ⟨hi0, Nat.le_refl _, fun _ => ⟨_, Nat.lt_succ_self _, hR.symm⟩, fun h => by cases h⟩ ?_) ?_)
 ·clear hR hi0 k85 hOl hordL
  rintro ⟨s0, N0⟩ ⟨hok0, hN0, hch, hnch⟩
  dsimp only at hok0 hN0 hch hnch ⊢
  refine J2 ?_
  refine ao_end ⟨_, rfl, fun h0 => ?_, fun h => ?_⟩
  ·obtain ⟨fuel, hfuel, hiter⟩ := hch h0
   obtain ⟨fuel, rfl⟩ : ∃ j, fuel = j + 1 := ⟨fuel - 1, by omega⟩
   have hpass := pass_ok hlg hoi hok0
   refine ws ?_;refine J1 ?_
   refine ao_end (w_seq_region_g ?_)
   refine J17 ?_;refine J14 ?_;refine J0 ?_
   refine ao_end (w_range (α := Nat × Nat)
    (fun k => ⟨envL [(0, .pt (encGraph f (behR f) (aheadR f.blocks) c)), (2, .rs 0 0 n), (3, .rs 1 0 n), (5, encInts ord), (6, B ((ord.take k.1).foldl (fun s b => liveB (lgR f) s b.toNat) ⟨s0.inn, s0.out, false⟩).ch), (38, encInts ord), (39, I ord.length), (40, I k.1)], memL [(0, .cells (encWs ((ord.take k.1).foldl (fun s b => liveB (lgR f) s b.toNat) ⟨s0.inn, s0.out, false⟩).inn) 100), (1, .cells (encWs ((ord.take k.1).foldl (fun s b => liveB (lgR f) s b.toNat) ⟨s0.inn, s0.out, false⟩).out) 100)], k.2⟩)
    (fun k => k.1 <= ord.length /\ 3 <= k.2) (fun k => ord.length - k.1) (0, N0) (ghost_st ⟨rfl, rfl, rfl, rfl, rfl, rfl, rfl, rfl, trivial⟩ ⟨rfl, rfl, trivial⟩) ⟨Nat.zero_le _, hN0⟩ ?_)
   rintro ⟨k, N⟩ ⟨hk, hN⟩
   dsimp only at hk hN ⊢
   have hok := (foldl_inv (J := LInv (lgR f) n ord) (φ := phL) (f := fun s b => liveB (lgR f) s b.toNat) (l := ord.take k) (fun b hb s hs => liveB_ok hlg hs (hoi b (List.mem_of_mem_take hb)).2 (by have := (hoi b (List.mem_of_mem_take hb)).1; rw [Int.toNat_of_nonneg this]; exact List.mem_of_mem_take hb)) (s := ⟨s0.inn, s0.out, false⟩) ⟨⟨hok0.ok.ln, hok0.ok.lo, hok0.ok.inn, hok0.ok.out⟩, hok0.mi, hok0.mo, hok0.si, hok0.so, hok0.snd⟩).1
   have hstep : ∀ b, ord[k]? = some b -> (ord.take (k + 1)).foldl (fun s b => liveB (lgR f) s b.toNat) ⟨s0.inn, s0.out, false⟩ = liveB (lgR f) ((ord.take k).foldl (fun s b => liveB (lgR f) s b.toNat) ⟨s0.inn, s0.out, false⟩) b.toNat := fun b hb => foldl_take (f := fun s (b : Int) => liveB (lgR f) s b.toNat) hb
   have hlast : k = ord.length -> (ord.take k).foldl (fun s b => liveB (lgR f) s b.toNat) ⟨s0.inn, s0.out, false⟩ = livePass (lgR f) ord s0 := fun e => by rw [e, List.take_length]; rfl
   generalize (ord.take k).foldl (fun s b => liveB (lgR f) s b.toNat) ⟨s0.inn, s0.out, false⟩ = u at hok hstep hlast
   refine J16 ?_
   refine ao_end ⟨_, rfl, fun h => ?_, fun h => ?_⟩
   ·have hlt : k < ord.length := by simpa using h
    have hob : ord[k]? = some ord[k] := List.getElem?_eq_getElem hlt
    have hom := hoi _ (List.getElem_mem hlt)
    generalize ord[k] = b at hob hom
    obtain ⟨bn, rfl⟩ := Int.eq_ofNat_of_zero_le hom.1
    have hbn : bn < n := hom.2
    have hx : f.blocks[bn]? = some f.blocks[bn] := List.getElem?_eq_getElem (by omega)
    have hxm : f.blocks[bn] ∈ f.blocks := List.getElem_mem _
    generalize f.blocks[bn] = x at hx hxm
    have hst := hstep _ hob
    rw [Int.toNat_natCast] at hst
    refine ws ?_;refine J25 ?_;refine J4 ?_;refine J3 ?_
    refine ao_end (w_seq_region_g ?_)
    refine J30 ?_;refine J48 ?_;refine J5 ?_;refine J5 ?_;refine J4 ?_;refine J0 ?_;refine J50 ?_;refine J61 ?_;refine J22 ?_;refine J77 ?_
    refine ao_end (w_ghost (ghost_fzk (i := N) (e := 72) (cs := encBlock x) (l := [(0, .pt (encGraph f (behR f) (aheadR f.blocks) c)), (2, .rs 0 0 n), (3, .rs 1 0 n), (5, encInts ord), (6, B u.ch), (8, I bn), (9, .pt (encBlock x)), (38, encInts ord), (39, I ord.length), (40, I k)]) (ml := [(0, .cells (encWs u.inn) 100), (1, .cells (encWs u.out) 100)]) (up_same _ _ _) ⟨rfl, sub_rs_ne (by omega), sub_rs_ne (by omega), rfl, rfl, rfl, fz_rp, rfl, rfl, rfl, trivial⟩ ⟨keepM (by omega) (mskip (by omega) (mskip (by omega) rfl)) (allS_ws _), keepM (by omega) (mskip (by omega) (mskip (by omega) rfl)) (allS_ws _), trivial⟩) (w_seq_region_g ?_))
    refine J22 ?_
    have hbx := hbi bn
    have hgb := behR_get hx
    have hlb := hbl bn
    have hlg0 : (lgR f).beh bn = behF (behR f) bn := rfl
    have hblk : (lgR f).blk bn = x := blkF_get hx
    have hbg : (behR f)[bn]? = some (behF (behR f) bn) := behF_get (by simp [behR]; omega)
    have hOS : True -> outS (lgR f) u.inn bn = withs ((behF (behR f) bn).foldl (edgeS (lgR f) u.inn bn) zeroS) (readsEnd x.fin) := fun _ => by rw [outS, hblk]; rfl
    generalize hbl0 : behF (behR f) bn = l at hbx hlb hbg hOS
    have hbx' : ∀ c ∈ l, c ∈ (lgR f).beh bn := fun c h => by rw [<- hbl0] at h; exact h
    refine ao_end (w_ghost (ghost_mem (l := [(0, .pt (encGraph f (behR f) (aheadR f.blocks) c)), (2, .rs 0 0 n), (3, .rs 1 0 n), (5, encInts ord), (6, B u.ch), (8, I bn), (9, .pt (encBlock x)), (10, .rp (N + 1) 0), (38, encInts ord), (39, I ord.length), (40, I k)]) (m' := up (memL [(0, .cells (encWs u.inn) 100), (1, .cells (encWs u.out) 100)]) (N + 1) (some (.cells (zeroS.map U64) 100))) ⟨rfl, rfl, rfl, rfl, rfl, rfl, rfl, rfl, rfl, rfl, rfl, trivial⟩ rfl) (w_assoc (w_seq_region_g ?_)))
    refine J30 ?_;refine J48 ?_;refine J5 ?_;refine J4 ?_;refine J0 ?_;refine J25 ?_;refine J4 ?_;refine J14 ?_;refine J0 ?_
    refine ao_end (w_then (fun s => ∃ m nx, Ghost Tryz.prog s ⟨envL [(0, .pt (encGraph f (behR f) (aheadR f.blocks) c)), (2, .rs 0 0 n), (3, .rs 1 0 n), (5, encInts ord), (6, B u.ch), (8, I bn), (9, .pt (encBlock x)), (10, .rp (N + 1) 0), (38, encInts ord), (39, I ord.length), (40, I k)], m, nx⟩ /\ N + 1 < nx /\ m 0 = some (.cells (encWs u.inn) 100) /\ m 1 = some (.cells (encWs u.out) 100) /\ m (N + 1) = some (.cells ((l.foldl (edgeS (lgR f) u.inn bn) zeroS).map U64) 100)) (w_range (α := Nat × Mem × Nat)
     (fun j => ⟨envL [(0, .pt (encGraph f (behR f) (aheadR f.blocks) c)), (2, .rs 0 0 n), (3, .rs 1 0 n), (5, encInts ord), (6, B u.ch), (8, I bn), (9, .pt (encBlock x)), (10, .rp (N + 1) 0), (38, encInts ord), (39, I ord.length), (40, I k), (58, encInts l), (59, I l.length), (60, I j.1)], j.2.1, j.2.2⟩)
     (fun j => j.1 <= l.length /\ N + 1 < j.2.2 /\ j.2.1 0 = some (.cells (encWs u.inn) 100) /\ j.2.1 1 = some (.cells (encWs u.out) 100) /\ j.2.1 (N + 1) = some (.cells (((l.take j.1).foldl (edgeS (lgR f) u.inn bn) zeroS).map U64) 100)) (fun j => l.length - j.1) (0, up (memL [(0, .cells (encWs u.inn) 100), (1, .cells (encWs u.out) 100)]) (N + 1) (some (.cells (zeroS.map U64) 100)), N + 2)
     (ghost_of ⟨rfl, rfl, rfl, rfl, rfl, rfl, rfl, rfl, rfl, rfl, rfl, rfl, rfl, rfl, trivial⟩) ⟨Nat.zero_le _, Nat.lt_succ_self _, by dsimp only; exact mskip (by omega) rfl, by dsimp only; exact mskip (by omega) rfl, up_same _ _ _⟩ ?_) ?_)
    ·rintro ⟨j, m, nx⟩ ⟨hj, hnx, m0, m1, mq⟩
     dsimp only at hj hnx m0 m1 mq ⊢
     have hes := (edge_ok hlg hok.ok.ln hok.ok.inn (b := bn) 0 (l.take j) (fun c h => hbx' c (List.mem_of_mem_take h)) zeroS SetOk.zero).1
     have hstp : ∀ c, l[j]? = some c -> (l.take (j + 1)).foldl (edgeS (lgR f) u.inn bn) zeroS = edgeS (lgR f) u.inn bn ((l.take j).foldl (edgeS (lgR f) u.inn bn) zeroS) c := fun c hc => foldl_take hc
     have hlst : j = l.length -> (l.take j).foldl (edgeS (lgR f) u.inn bn) zeroS = l.foldl (edgeS (lgR f) u.inn bn) zeroS := fun e => by rw [e, List.take_length]
     generalize (l.take j).foldl (edgeS (lgR f) u.inn bn) zeroS = w at mq hes hstp hlst
     have hw : w.length = 19 := hes.1
     refine J16 ?_
     refine ao_end ⟨_, rfl, fun h => ?_, fun h => ?_⟩
     ·have hjl : j < l.length := by simpa using h
      have hcx : l[j]? = some l[j] := List.getElem?_eq_getElem hjl
      have hcm := List.getElem_mem hjl
      generalize l[j] = cc at hcx hcm
      have hcb := hbx cc hcm
      have hcl := hbx' cc hcm
      have hstp := hstp cc hcx
      obtain ⟨cn, rfl⟩ := Int.eq_ofNat_of_zero_le hcb.1
      have hcn : cn < n := hcb.2
      have hcu : cn < u.inn.length := by rw [hok.ok.ln]; exact hcn
      have hi : u.inn[cn]? = some u.inn[cn] := List.getElem?_eq_getElem hcu
      have hwi := hok.ok.inn _ (List.getElem_mem hcu)
      have hgd : u.inn.getD cn [] = u.inn[cn] := getD_some hi
      generalize u.inn[cn] = wc at hi hwi hgd
      have hwcl : wc.length = 19 := hwi.1
      have hws : ∀ w ∈ u.inn, w.length = 19 := fun w hw => (hok.ok.inn w hw).1
      have hrow := m0
      refine ws ?_;refine J25 ?_;refine J4 ?_;refine J3 ?_
      refine ao_end (w_seq_region_g ?_)
      refine J12 ?_;refine J0 ?_
      refine ao_p (e_idxRm rfl rfl hrow V.h V.h) ak ⟨V.h, by omega⟩ ?_
      refine ao_p (e_loadRA rfl hrow V.h V.h (ld_ws (by assumption) (by assumption))) ak (p_loadRA V.h V.h (ln_ws (by assumption) (by assumption))) ?_
      refine J22 ?_
      refine ao_w (e_storeA rfl rfl (up_same _ _ _) (spliceS (by first | rfl | exact Nat.le_of_ble_eq_true rfl | (simp; done) | (simp; omega) | omega) (by first | rfl | exact Nat.le_of_ble_eq_true rfl | (simp; done) | (simp; omega) | omega))) ak (p_storeS (by first | rfl | exact Nat.le_of_ble_eq_true rfl | (simp; done) | (simp; omega) | omega) (by first | rfl | exact Nat.le_of_ble_eq_true rfl | (simp; done) | (simp; omega) | omega) (by first | rfl | exact oneW _ | (simp [oneW]; done) | exact oneW_set)) ?_
      have hyx : f.blocks[cn]? = some f.blocks[cn] := List.getElem?_eq_getElem (by omega)
      have hym : f.blocks[cn] ∈ f.blocks := List.getElem_mem _
      generalize f.blocks[cn] = y at hyx hym
      have hgl : (lgR f).giv bn (cn : Int) = givenR (ahdF f cn) bn y := by
       show givenR (ahdF f cn) bn (blkF f cn) = _
       rw [blkF_get hyx]
      have hwr : (lgR f).wri bn (cn : Int) = writtenR x.fin (cn : Int) := by
       show writtenR (blkF f bn).fin _ = _
       rw [blkF_get hx]
      have hri := hlg.giv bn (cn : Int) hcl
      have hwl := hlg.wri bn (cn : Int) hcl
      have hma : (bn : Int) ∈ ahdF f cn := mem_aheadL.2 ⟨bn, rfl, by omega, x, hx, (cn : Int), by rw [<- hgb]; rw [hbl0]; exact hcm, by simp⟩
      have hAg : (aheadR f.blocks)[cn]? = some (ahdF f cn) := by
       unfold ahdF
       exact aheadR_get rfl (by omega)
      have hyb := hFl.blk y hym
      have k132 := k132 (f := f) (beh := behR f) (ahd := aheadR f.blocks) hc hc1 (a := (bn : Int)) (b := (cn : Int)) (k := cn) rfl hyx hAg hyb.len (fun z hz => (hFl.phi2 hyx hz).1) hma
      have hgll : (givenR (ahdF f cn) bn y).length <= 100000 := by
       have := (List.takeWhile_prefix (l := y.ins) isPhi).length_le
       have := hyb.len
       unfold givenR phisR
       rw [List.length_map]; omega
      have hee : edgeS (lgR f) u.inn bn w (cn : Int) = bothW w (lessI (withs wc (givenR (ahdF f cn) bn y)) (writtenR x.fin (cn : Int))) := by
       unfold edgeS
       rw [hgl, hwr, Int.toNat_natCast, hgd]
      rw [hgl] at hri
      rw [hwr] at hwl
      have hee : True -> (l.take (j + 1)).foldl (edgeS (lgR f) u.inn bn) zeroS = bothW w (lessI (withs wc (givenR (ahdF f cn) bn y)) (writtenR x.fin (cn : Int))) := fun _ => hstp.trans hee
      clear hgl hwr hstp hgd
      generalize givenR (ahdF f cn) bn y = gl at k132 hgll hee hri
      refine ao_end (w_ghost (ghost_mem (l := [(0, .pt (encGraph f (behR f) (aheadR f.blocks) c)), (2, .rs 0 0 n), (3, .rs 1 0 n), (5, encInts ord), (6, B u.ch), (8, I bn), (9, .pt (encBlock x)), (10, .rp (N + 1) 0), (12, I cn), (13, .rp nx 0), (38, encInts ord), (39, I ord.length), (40, I k), (58, encInts l), (59, I l.length), (60, I j)]) (m' := up m nx (some (.cells (wc.map U64) 100))) ⟨rfl, rfl, rfl, rfl, rfl, rfl, rfl, rfl, rfl, rfl, rfl, rfl, rfl, rfl, rfl, rfl, trivial⟩ (up_up _ _ _ _)) (w_assoc (w_seq_region_g ?_)))
      refine J30 ?_;refine J0 ?_;refine J0 ?_;refine cl k132 ?_;refine J14 ?_;refine J0 ?_
      refine ao_end (w_then (fun s => Ghost Tryz.prog s ⟨envL [(0, .pt (encGraph f (behR f) (aheadR f.blocks) c)), (2, .rs 0 0 n), (3, .rs 1 0 n), (5, encInts ord), (6, B u.ch), (8, I bn), (9, .pt (encBlock x)), (10, .rp (N + 1) 0), (12, I cn), (13, .rp nx 0), (38, encInts ord), (39, I ord.length), (40, I k), (58, encInts l), (59, I l.length), (60, I j)], up m nx (some (.cells ((withs wc gl).map U64) 100)), nx + 1⟩) (w_range (α := Nat)
       (fun i => ⟨envL [(0, .pt (encGraph f (behR f) (aheadR f.blocks) c)), (2, .rs 0 0 n), (3, .rs 1 0 n), (5, encInts ord), (6, B u.ch), (8, I bn), (9, .pt (encBlock x)), (10, .rp (N + 1) 0), (12, I cn), (13, .rp nx 0), (38, encInts ord), (39, I ord.length), (40, I k), (58, encInts l), (59, I l.length), (60, I j), (71, encInts gl), (72, I gl.length), (73, I i)], up m nx (some (.cells ((withs wc (gl.take i)).map U64) 100)), nx + 1⟩)
       (fun i => i <= gl.length) (fun i => gl.length - i) 0 (ghost_of ⟨rfl, rfl, rfl, rfl, rfl, rfl, rfl, rfl, rfl, rfl, rfl, rfl, rfl, rfl, rfl, rfl, rfl, rfl, rfl, trivial⟩) (Nat.zero_le _) ?_) ?_)
      ·intro i hi
       have hvk : (withs wc (gl.take i)).length = 19 := (hwi.withs _).1
       have hws2 : ∀ r, gl[i]? = some r -> withs wc (gl.take (i + 1)) = withW (withs wc (gl.take i)) r.toNat := fun r hr => withs_take hr
       have hwl2 : i = gl.length -> withs wc (gl.take i) = withs wc gl := fun e => by rw [e, List.take_length]
       generalize withs wc (gl.take i) = v at hvk hws2 hwl2
       have hrow : up m nx (some (.cells (v.map U64) 100)) nx = some (.cells (v.map U64) 100) := up_same _ _ _
       refine J16 ?_
       refine ao_end ⟨_, rfl, fun h => ?_, fun h => ?_⟩
       ·have hil : i < gl.length := by simpa using h
        have hr : gl[i]? = some gl[i] := List.getElem?_eq_getElem hil
        have hrr := hri _ (List.getElem_mem hil)
        generalize gl[i] = r at hr hrr
        have hws2 := hws2 r hr
        obtain ⟨rn, rfl⟩ := Int.eq_ofNat_of_zero_le hrr.1
        rw [Int.toNat_natCast] at hws2
        have k133 := k133 (w := v) (m := rn) hvk (by omega)
        have hvk2 : (withW v rn).length = 19 := by simp [hvk]
        refine ws ?_;refine J25 ?_;refine J4 ?_;refine J3 ?_
        refine ao_end (w_regB2 ?_)
        refine J84 ?_;refine J0 ?_;refine cl k133 ?_;refine J127 ?_
        refine ao_end ?_
        refine J10 ?_;refine J0 ?_
        refine ao_end (next_of (i + 1) (ghost_mem ⟨rfl, rfl, rfl, rfl, rfl, rfl, rfl, rfl, rfl, rfl, rfl, rfl, rfl, rfl, rfl, rfl, rfl, rfl, rfl, trivial⟩ ?_) (by omega) (by omega))
        rw [hws2, up_up]
       ·have hge : ¬ i < gl.length := by simpa using h
        rw [hwl2 (by omega)]
        exact ghost_of ⟨rfl, rfl, rfl, rfl, rfl, rfl, rfl, rfl, rfl, rfl, rfl, rfl, rfl, rfl, rfl, rfl, trivial⟩
      ·intro s hg
       have hvk : (withs wc gl).length = 19 := (hwi.withs _).1
       generalize withs wc gl = v at hvk hg hee
       have hrow : up m nx (some (.cells (v.map U64) 100)) (N + 1) = some (.cells (w.map U64) 100) := mskip (by omega) mq
       have hrow2 : up m nx (some (.cells (v.map U64) 100)) nx = some (.cells (v.map U64) 100) := up_same _ _ _
       have k136 := k136 (x := x.fin) (b := (cn : Int)) (by have := (hFl.ends x hxm).wh; omega)
       have k135 := k135 (w := v) (n := writtenR x.fin (cn : Int)) hvk ⟨by unfold writtenR; have := (hFl.ends x hxm).fin.wr; split <;> omega, hwl⟩
       have hl1 : (lessI v (writtenR x.fin (cn : Int))).length = 19 := by simp [hvk]
       generalize writtenR x.fin (cn : Int) = wn at k136 k135 hl1 hee hwl
       generalize lessI v wn = v1 at k135 hl1 hee
       have k134 := k134 (w := w) (v := v1) hw hl1
       have hl2 : (bothW w v1).length = 19 := by simp [hw]
       generalize bothW w v1 = v2 at k134 hl2 hee
       refine ⟨_, hg, w_drawB di_r65_22 ?_⟩
       refine J84 ?_
       refine ao_p (e_loadRA rfl hrow2 V.h V.h (takeW (by first | rfl | exact Nat.le_of_ble_eq_true rfl | (simp; done) | (simp; omega) | omega))) ak (p_loadRA V.h V.h (by first | rfl | exact Nat.le_of_ble_eq_true rfl | (simp; done) | (simp; omega) | omega)) ?_
       refine J5 ?_;refine J69 ?_;refine J0 ?_;refine cl k136 ?_;refine cl k135 ?_;refine cl k134 ?_;refine J127 ?_
       refine ao_endc (by simp [apartT]) ?_
       refine J10 ?_;refine J0 ?_
       refine ao_end (next_of (j + 1, up (up m nx (some (.cells (v.map U64) 100))) (N + 1) (some (.cells (v2.map U64) 100)), nx + 1) (ghost_of ⟨rfl, rfl, rfl, rfl, rfl, rfl, rfl, rfl, rfl, rfl, rfl, rfl, rfl, rfl, trivial⟩) ⟨by dsimp only; omega, by dsimp only; omega, ?_, ?_, ?_⟩ (by dsimp only; omega))
       ·dsimp only; exact mskip (by omega) (mskip (by omega) m0)
       ·dsimp only; exact mskip (by omega) (mskip (by omega) m1)
       ·dsimp only; rw [hee trivial]; exact up_same _ _ _
     ·have hge : ¬ j < l.length := by simpa using h
      rw [hlst (by omega)] at mq
      exact ⟨m, nx, ghost_of ⟨rfl, rfl, rfl, rfl, rfl, rfl, rfl, rfl, rfl, rfl, rfl, trivial⟩, hnx, m0, m1, mq⟩
    ·rintro s ⟨m, nx, hg, hnx, m0, m1, mq⟩
     have hes := (edge_ok hlg hok.ok.ln hok.ok.inn (b := bn) 0 l hbx' zeroS SetOk.zero).1
     generalize l.foldl (edgeS (lgR f) u.inn bn) zeroS = w0 at mq hes hOS
     have k137 := k137 (x := x.fin) (hFl.ends x hxm).fin.a1 (hFl.ends x hxm).fin.a2
     have hrl2 := (hFl.blk x hxm).rf
     have hrd := hlg.red bn
     rw [hblk] at hrd
     generalize readsEnd x.fin = rl at k137 hrl2 hrd hOS
     refine ⟨_, hg, w_assoc (w_seq_region_g ?_)⟩
     refine J5 ?_;refine J69 ?_;refine cl k137 ?_;refine J14 ?_;refine J0 ?_
     refine ao_end (w_then (fun s => Ghost Tryz.prog s ⟨envL [(0, .pt (encGraph f (behR f) (aheadR f.blocks) c)), (2, .rs 0 0 n), (3, .rs 1 0 n), (5, encInts ord), (6, B u.ch), (8, I bn), (9, .pt (encBlock x)), (10, .rp (N + 1) 0), (38, encInts ord), (39, I ord.length), (40, I k)], up m (N + 1) (some (.cells ((withs w0 rl).map U64) 100)), nx⟩) (w_range (α := Nat)
      (fun i => ⟨envL [(0, .pt (encGraph f (behR f) (aheadR f.blocks) c)), (2, .rs 0 0 n), (3, .rs 1 0 n), (5, encInts ord), (6, B u.ch), (8, I bn), (9, .pt (encBlock x)), (10, .rp (N + 1) 0), (38, encInts ord), (39, I ord.length), (40, I k), (92, encInts rl), (93, I rl.length), (94, I i)], up m (N + 1) (some (.cells ((withs w0 (rl.take i)).map U64) 100)), nx⟩)
      (fun i => i <= rl.length) (fun i => rl.length - i) 0 (ghost_mem ⟨rfl, rfl, rfl, rfl, rfl, rfl, rfl, rfl, rfl, rfl, rfl, rfl, rfl, rfl, trivial⟩ ?_) (Nat.zero_le _) ?_) ?_)
     ·funext p
      simp only [up]
      split
      ·rename_i e; subst e; exact mq
      ·rfl
     ·intro i hi
      have hvk : (withs w0 (rl.take i)).length = 19 := (hes.withs _).1
      have hws2 : ∀ r, rl[i]? = some r -> withs w0 (rl.take (i + 1)) = withW (withs w0 (rl.take i)) r.toNat := fun r hr => withs_take hr
      have hwl2 : i = rl.length -> withs w0 (rl.take i) = withs w0 rl := fun e => by rw [e, List.take_length]
      generalize withs w0 (rl.take i) = v at hvk hws2 hwl2
      have hrow : up m (N + 1) (some (.cells (v.map U64) 100)) (N + 1) = some (.cells (v.map U64) 100) := up_same _ _ _
      refine J16 ?_
      refine ao_end ⟨_, rfl, fun h => ?_, fun h => ?_⟩
      ·have hil : i < rl.length := by simpa using h
       have hr : rl[i]? = some rl[i] := List.getElem?_eq_getElem hil
       have hrr := hrd _ (List.getElem_mem hil)
       generalize rl[i] = r at hr hrr
       have hws2 : True -> _ := fun _ => hws2 r hr
       obtain ⟨rn, rfl⟩ := Int.eq_ofNat_of_zero_le hrr.1
       rw [Int.toNat_natCast] at hws2
       have k133 := k133 (w := v) (m := rn) hvk (by omega)
       have hvk2 : (withW v rn).length = 19 := by simp [hvk]
       generalize withW v rn = v2 at k133 hvk2 hws2
       refine ws ?_;refine J25 ?_;refine J4 ?_;refine J3 ?_
       refine ao_end (w_regB2 ?_)
       refine J84 ?_;refine J0 ?_;refine cl k133 ?_;refine J127 ?_
       refine ao_end ?_
       refine J10 ?_;refine J0 ?_
       refine ao_end (next_of (i + 1) (ghost_mem ⟨rfl, rfl, rfl, rfl, rfl, rfl, rfl, rfl, rfl, rfl, rfl, rfl, rfl, rfl, trivial⟩ ?_) (by omega) (by omega))
       rw [hws2 trivial, up_up]
      ·have hge : ¬ i < rl.length := by simpa using h
       rw [hwl2 (by omega)]
       exact ghost_of ⟨rfl, rfl, rfl, rfl, rfl, rfl, rfl, rfl, rfl, rfl, rfl, trivial⟩
     ·intro s hg
      have hvs := hes.withs rl
      have hIS : True -> innS (lgR f) bn (outS (lgR f) u.inn bn) = x.ins.reverse.foldl insS (withs w0 rl) := fun _ => by rw [innS, hblk, hOS trivial]
      generalize withs w0 rl = v at hg hvs hOS hIS
      have hvk : v.length = 19 := hvs.1
      have hrow : up m (N + 1) (some (.cells (v.map U64) 100)) (N + 1) = some (.cells (v.map U64) 100) := up_same _ _ _
      have m0 : up m (N + 1) (some (.cells (v.map U64) 100)) 0 = some (.cells (encWs u.inn) 100) := mskip (by omega) m0
      have m1 : up m (N + 1) (some (.cells (v.map U64) 100)) 1 = some (.cells (encWs u.out) 100) := mskip (by omega) m1
      refine ⟨_, hg, w_seq_region_g ?_⟩
      clear hg
      generalize up m (N + 1) (some (.cells (v.map U64) 100)) = m at hrow m0 m1
      refine J84 ?_;refine J22 ?_
      refine ao_w (e_storeA rfl rfl (up_same _ _ _) (spliceS (by first | rfl | exact Nat.le_of_ble_eq_true rfl | (simp; done) | (simp; omega) | omega) (by first | rfl | exact Nat.le_of_ble_eq_true rfl | (simp; done) | (simp; omega) | omega))) ak (p_storeS (by first | rfl | exact Nat.le_of_ble_eq_true rfl | (simp; done) | (simp; omega) | omega) (by first | rfl | exact Nat.le_of_ble_eq_true rfl | (simp; done) | (simp; omega) | omega) (by first | rfl | exact oneW _ | (simp [oneW]; done) | exact oneW_set)) ?_
      have hv2 : up m nx (some (.cells (v.map U64) 100)) nx = some (.cells (v.map U64) 100) := up_same _ _ _
      have hq2 : up m nx (some (.cells (v.map U64) 100)) (N + 1) = some (.cells (v.map U64) 100) := mskip (by omega) hrow
      have m0 : up m nx (some (.cells (v.map U64) 100)) 0 = some (.cells (encWs u.inn) 100) := mskip (by omega) m0
      have m1 : up m nx (some (.cells (v.map U64) 100)) 1 = some (.cells (encWs u.out) 100) := mskip (by omega) m1
      refine ao_end (w_ghost (ghost_mem (l := [(0, .pt (encGraph f (behR f) (aheadR f.blocks) c)), (2, .rs 0 0 n), (3, .rs 1 0 n), (5, encInts ord), (6, B u.ch), (8, I bn), (9, .pt (encBlock x)), (10, .rp (N + 1) 0), (18, .rp nx 0), (38, encInts ord), (39, I ord.length), (40, I k)]) (m' := up m nx (some (.cells (v.map U64) 100))) ⟨rfl, rfl, rfl, rfl, rfl, rfl, rfl, rfl, rfl, rfl, rfl, rfl, trivial⟩ (up_up _ _ _ _)) ?_)
      clear hrow
      generalize up m nx (some (.cells (v.map U64) 100)) = m at hv2 hq2 m0 m1
      obtain ⟨T, hT⟩ : ∃ T, T = nx := ⟨_, rfl⟩
      rw [<- hT] at hv2 hnx ⊢
      clear hT
      have k138 := k138 (l := x.ins)
      refine w_cut_g (fun s => ∃ m' nx', Ghost Tryz.prog s ⟨envL [(0, .pt (encGraph f (behR f) (aheadR f.blocks) c)), (2, .rs 0 0 n), (3, .rs 1 0 n), (5, encInts ord), (6, B u.ch), (8, I bn), (9, .pt (encBlock x)), (10, .rp (N + 1) 0), (18, .rp T 0), (38, encInts ord), (39, I ord.length), (40, I k)], m', nx'⟩ /\ m' 0 = some (.cells (encWs u.inn) 100) /\ m' 1 = some (.cells (encWs u.out) 100) /\ m' (N + 1) = some (.cells (v.map U64) 100) /\ m' T = some (.cells ((x.ins.reverse.foldl insS v).map U64) 100) /\ T < nx') (w_seq_region ?_) fun s hs => ?_
      ·refine J5 ?_;refine J4 ?_;refine cl k138 ?_
       refine ao_end (w_block ?_)
       refine ⟨rfl, trivial, 176, [], [.pt [encInss x.ins]], backL x.ins, fun i m' nx' => m' 0 = some (.cells (encWs u.inn) 100) /\ m' 1 = some (.cells (encWs u.out) 100) /\ m' (N + 1) = some (.cells (v.map U64) 100) /\ m' T = some (.cells (((x.ins.reverse.take i).foldl insS v).map U64) 100) /\ T < nx', rfl, s176 (hFl.blk x hxm).len, ?_, ⟨m0, m1, hq2, hv2, Nat.lt_succ_self _⟩, ?_, ?_⟩
       ·intro y hy
        obtain ⟨i, _, rfl⟩ := List.mem_map.1 hy
        exact ⟨rfl, .cons (.s _) (.cons (.agg (trs_ins _)) .nil)⟩
       ·rintro i m nx y hy ⟨m0, m1, mq, mT, hnx2⟩
        have hil : i < x.ins.length := by rw [<- len_backL]; exact (List.getElem?_eq_some_iff.1 hy).1
        have hz : x.ins[x.ins.length - 1 - i]? = some x.ins[x.ins.length - 1 - i] := List.getElem?_eq_getElem (by omega)
        have hzm : x.ins[x.ins.length - 1 - i] ∈ x.ins := List.getElem_mem _
        generalize x.ins[x.ins.length - 1 - i] = z at hz hzm
        rw [get_backL hil hz] at hy
        cases hy
        have hrz : x.ins.reverse[i]? = some z := by rw [List.getElem?_reverse hil]; exact hz
        have hfs : True -> (x.ins.reverse.take (i + 1)).foldl insS v = insS ((x.ins.reverse.take i).foldl insS v) z := fun _ => foldl_take hrz
        have hvo : SetOk ((x.ins.reverse.take i).foldl insS v) := hvs.foldIns _
        generalize (x.ins.reverse.take i).foldl insS v = w1 at mT hvo hfs
        have hw1 : w1.length = 19 := hvo.1
        have hzi := (hlg.ins bn) z (by rw [hblk]; exact hzm)
        have hzo := (hFl.blk x hxm).ins z hzm
        have hzl := (hFl.blk x hxm).rl z hzm
        have k139 := k139 (x := z)
        have k140 := k140 (x := z) hzo.ar
        have k135 := k135 (w := w1) (n := writesR z) hw1 ⟨by have := hzo.wr; omega, hzi.wr⟩
        have hl1 : (lessI w1 (writesR z)).length = 19 := by simp [hw1]
        have hso := hvo.lessI (writesR z)
        have hzr := hzi.rd
        have hfs : True -> (x.ins.reverse.take (i + 1)).foldl insS v = withs (lessI w1 (writesR z)) (readsR z) := hfs
        generalize lessI w1 (writesR z) = w2 at k135 hl1 hfs hso
        generalize readsR z = rl at k140 hzl hfs hzr
        refine w_regE ?_
        refine J22 ?_;refine J89 ?_
        have hrow := mT
        refine ao_end (show AW _ _ _ _ _ _ from w_block (w_seq_draw di_r65_32 ?_))
        refine ao_p (e_loadRA rfl (mskip (by omega) (mskip (by omega) hrow)) V.h V.h (takeW (by first | rfl | exact Nat.le_of_ble_eq_true rfl | (simp; done) | (simp; omega) | omega))) ak (p_loadRA V.h V.h (by first | rfl | exact Nat.le_of_ble_eq_true rfl | (simp; done) | (simp; omega) | omega)) ?_
        refine J98 ?_;refine cl k139 ?_;refine cl k135 ?_
        refine ao_w (e_storeA rfl rfl (mskip (by omega) (mskip (by omega) hrow)) (spliceS (by first | rfl | exact Nat.le_of_ble_eq_true rfl | (simp; done) | (simp; omega) | omega) (by first | rfl | exact Nat.le_of_ble_eq_true rfl | (simp; done) | (simp; omega) | omega))) ak (p_storeS (by first | rfl | exact Nat.le_of_ble_eq_true rfl | (simp; done) | (simp; omega) | omega) (by first | rfl | exact Nat.le_of_ble_eq_true rfl | (simp; done) | (simp; omega) | omega) (by first | rfl | exact oneW _ | (simp [oneW]; done) | exact oneW_set)) ?_
        refine ao_endc (by simp [apartT]) (w_seq_region_g ?_)
        clear hrow
        refine ao_p (e_loadRA (vs := encIns _) rfl (mskip (by omega) (up_same _ _ _)) V.h V.h rfl) ak (p_loadRA V.h V.h (by first | (simp; done) | omega | exact Nat.le_of_ble_eq_true rfl)) ?_
        refine cl k140 ?_;refine J14 ?_;refine J0 ?_
        refine ao_end (w_range (α := Nat × Mem) (fun j => ⟨envL [(18, .rp T 0), (113, encInts rl), (114, I rl.length), (115, I j.1)], j.2, nx + 1⟩)
         (fun j => j.1 <= rl.length /\ j.2 0 = some (.cells (encWs u.inn) 100) /\ j.2 1 = some (.cells (encWs u.out) 100) /\ j.2 (N + 1) = some (.cells (v.map U64) 100) /\ j.2 T = some (.cells ((withs w2 (rl.take j.1)).map U64) 100)) (fun j => rl.length - j.1) (0, up (up m nx (some (.cells (encIns z) 66))) T (some (.cells (w2.map U64) 100)))
         (ghost_mem ⟨rfl, rfl, rfl, rfl, trivial⟩ (by rw [up_up])) ⟨Nat.zero_le _, by dsimp only; exact mskip (by omega) (mskip (by omega) m0), by dsimp only; exact mskip (by omega) (mskip (by omega) m1), by dsimp only; exact mskip (by omega) (mskip (by omega) mq), by dsimp only; exact up_same _ _ _⟩ ?_)
        clear m0 m1 mq mT
        rintro ⟨j, m⟩ ⟨hj, m0, m1, mq, mT⟩
        dsimp only at hj m0 m1 mq mT ⊢
        have hvk : (withs w2 (rl.take j)).length = 19 := (hso.withs _).1
        have hws2 : ∀ r, rl[j]? = some r -> withs w2 (rl.take (j + 1)) = withW (withs w2 (rl.take j)) r.toNat := fun r hr => withs_take hr
        have hwl2 : j = rl.length -> withs w2 (rl.take j) = withs w2 rl := fun e => by rw [e, List.take_length]
        generalize withs w2 (rl.take j) = w3 at hvk hws2 hwl2 mT
        have hrow := mT
        refine J16 ?_
        refine ao_end ⟨_, rfl, fun h => ?_, fun h => ?_⟩
        ·have hjl : j < rl.length := by simpa using h
         have hr : rl[j]? = some rl[j] := List.getElem?_eq_getElem hjl
         have hrr := hzr _ (List.getElem_mem hjl)
         generalize rl[j] = r at hr hrr
         have hws2 : True -> _ := fun _ => hws2 r hr
         obtain ⟨rn, rfl⟩ := Int.eq_ofNat_of_zero_le hrr.1
         rw [Int.toNat_natCast] at hws2
         have k133 := k133 (w := w3) (m := rn) hvk (by omega)
         have hvk2 : (withW w3 rn).length = 19 := by simp [hvk]
         generalize withW w3 rn = w4 at k133 hvk2 hws2
         refine ws ?_;refine J25 ?_;refine J4 ?_;refine J3 ?_
         refine ao_end (w_regB2 ?_)
         refine J84 ?_;refine J0 ?_;refine cl k133 ?_;refine J127 ?_
         refine ao_end ?_
         refine J10 ?_;refine J0 ?_
         refine ao_end (next_of (j + 1, up m T (some (.cells (w4.map U64) 100))) (ghost_of ⟨rfl, rfl, rfl, rfl, trivial⟩) ⟨by dsimp only; omega, by dsimp only; exact mskip (by omega) m0, by dsimp only; exact mskip (by omega) m1, by dsimp only; exact mskip (by omega) mq, ?_⟩ (by dsimp only; omega))
         dsimp only
         rw [hws2 trivial]
         exact up_same _ _ _
        ·have hge : ¬ j < rl.length := by simpa using h
         refine ⟨m0, m1, mq, ?_, by dsimp only; omega⟩
         rw [hfs trivial, <- hwl2 (by omega)]
         exact mT
       ·rintro m nx ⟨m0, m1, mq, mT, hnx2⟩
        refine ⟨m, nx, ghost_of ⟨rfl, rfl, rfl, rfl, rfl, rfl, rfl, rfl, rfl, rfl, rfl, rfl, trivial⟩, m0, m1, mq, ?_, hnx2⟩
        rw [mT, len_backL, List.take_of_length_le (by simp)]
      ·obtain ⟨m2, nx2, hg, m0, m1, mq, mT, hnx2⟩ := hs
       have htt := hvs.foldIns x.ins.reverse
       generalize x.ins.reverse.foldl insS v = tt at mT htt hIS
       have httl : tt.length = 19 := htt.1
       have hbu : bn < u.inn.length := by rw [hok.ok.ln]; exact hbn
       have hbo : bn < u.out.length := by rw [hok.ok.lo]; exact hbn
       have hi1 : u.inn[bn]? = some u.inn[bn] := List.getElem?_eq_getElem hbu
       have hi2 : u.out[bn]? = some u.out[bn] := List.getElem?_eq_getElem hbo
       have hwil : u.inn[bn].length = 19 := (hok.ok.inn _ (List.getElem_mem hbu)).1
       have hwol : u.out[bn].length = 19 := (hok.ok.out _ (List.getElem_mem hbo)).1
       have hgd1 : True -> u.inn.getD bn [] = u.inn[bn] := fun _ => getD_some hi1
       have hgd2 : True -> u.out.getD bn [] = u.out[bn] := fun _ => getD_some hi2
       have hws1 : ∀ w ∈ u.inn, w.length = 19 := fun w hw => (hok.ok.inn w hw).1
       have hws2 : ∀ w ∈ u.out, w.length = 19 := fun w hw => (hok.ok.out w hw).1
       generalize u.inn[bn] = wi at hi1 hwil hgd1
       generalize u.out[bn] = wo at hi2 hwol hgd2
       have hlv : liveB (lgR f) u bn = if v ≠ wo \/ tt ≠ wi then ⟨u.inn.set bn tt, u.out.set bn v, true⟩ else u := by
        unfold liveB
        rw [hIS trivial, hOS trivial, hgd1 trivial, hgd2 trivial]
       have hst : True -> _ := fun _ => hst.trans hlv
       clear hlv hOS hIS hgd1 hgd2
       have hrow := mq
       have hrow2 := mT
       have hrow3 := m0
       have hrow4 := m1
       refine ⟨_, hg, w_seq_draw di_r65_38 ?_⟩
       clear hg
       refine J84 ?_;refine J12 ?_;refine J0 ?_
       refine ao_p (e_idxRm rfl rfl hrow4 V.h V.h) ak ⟨V.h, by omega⟩ ?_
       refine ao_p (e_loadRA rfl hrow4 V.h V.h (ld_ws (by assumption) (by assumption))) ak (p_loadRA V.h V.h (ln_ws (by assumption) (by assumption))) ?_
       refine ao_p (e_neS rfl rfl (by first | assumption | (simp; omega) | omega)) ak (p_neS (by first | assumption | (simp; omega) | omega)) ?_
       refine J2 ?_
       refine ao_g rfl rfl (e_loadRA rfl hrow2 V.h V.h (takeW (by first | rfl | exact Nat.le_of_ble_eq_true rfl | (simp; done) | (simp; omega) | omega))) (fun hc => ⟨ak, (p_loadRA V.h V.h (by first | rfl | exact Nat.le_of_ble_eq_true rfl | (simp; done) | (simp; omega) | omega))⟩) ?_
       refine J114 ?_;refine J11 ?_
       refine ao_g rfl rfl (e_idxRm rfl rfl hrow3 V.h V.h) (fun hc => ⟨ak, ⟨V.h, by omega⟩⟩) ?_
       refine ao_g rfl rfl (e_loadRA rfl hrow3 V.h V.h (ld_ws (by assumption) (by assumption))) (fun hc => ⟨ak, (p_loadRA V.h V.h (ln_ws (by assumption) (by assumption)))⟩) ?_
       refine ao_g rfl rfl (e_neS rfl rfl (by first | assumption | (simp; omega) | omega)) (fun hc => ⟨ak, (p_neS (by first | assumption | (simp; omega) | omega))⟩) ?_
       refine J9 ?_
       refine ao_endc (by simp [apartT]) (w_if rfl (fun hp => ?_) fun hp => ?_)
       ·have hne : v ≠ wo \/ tt ≠ wi := by
         revert hp
         by_cases e1 : v = wo <;> by_cases e2 : tt = wi <;> simp [e1, e2]
        have hst : True -> _ := fun _ => (hst trivial).trans (if_pos hne)
        have hvl : v.length = 19 := hvk
        refine w_drawB di_r65_39 ?_
        refine J12 ?_;refine J0 ?_;refine J12 ?_;refine J0 ?_
        refine ao_p (e_loadRA rfl hrow2 V.h V.h (takeW (by first | rfl | exact Nat.le_of_ble_eq_true rfl | (simp; done) | (simp; omega) | omega))) ak (p_loadRA V.h V.h (by first | rfl | exact Nat.le_of_ble_eq_true rfl | (simp; done) | (simp; omega) | omega)) ?_
        refine J84 ?_
        refine ao_p (e_idxRm rfl rfl hrow3 V.h V.h) ak ⟨V.h, by omega⟩ ?_
        refine ao_w (e_storeA rfl rfl hrow3 (st_ws (by decide) (by assumption) (by assumption) (by first | assumption | (simp; omega) | (simp; done)))) ak (p_storeS (by first | (simp; omega) | (simp; done)) (ln_ws (by assumption) (by assumption)) (oneW _)) ?_
        refine ao_p (e_idxRm rfl rfl hrow4 V.h V.h) ak ⟨V.h, by omega⟩ ?_
        refine ao_w (e_storeA rfl rfl hrow4 (st_ws (by decide) (by assumption) (by assumption) (by first | assumption | (simp; omega) | (simp; done)))) ak (p_storeS (by first | (simp; omega) | (simp; done)) (ln_ws (by assumption) (by assumption)) (oneW _)) ?_
        refine J1 ?_
        refine ao_endc (by simp [apartT]) ?_
        refine J10 ?_;refine J0 ?_
        refine ao_end (next_of (k + 1, nx2) (ghost_st ⟨rfl, rfl, rfl, rfl, ?_, rfl, rfl, rfl, trivial⟩ ⟨?_, ?_, trivial⟩) ⟨by dsimp only; omega, by dsimp only; omega⟩ (by dsimp only; omega))
        ·dsimp only; rw [hst trivial]; rfl
        ·dsimp only; rw [hst trivial]; exact mskip (by omega) (up_same _ _ _)
        ·dsimp only; rw [hst trivial]; exact up_same _ _ _
       ·have hne : ¬ (v ≠ wo \/ tt ≠ wi) := by
         revert hp
         by_cases e1 : v = wo <;> by_cases e2 : tt = wi <;> simp [e1, e2]
        have hst : True -> _ := fun _ => (hst trivial).trans (if_neg hne)
        refine w_end ?_
        refine J10 ?_;refine J0 ?_
        refine ao_end (next_of (k + 1, nx2) (ghost_st ⟨rfl, rfl, rfl, rfl, ?_, rfl, rfl, rfl, trivial⟩ ⟨?_, ?_, trivial⟩) ⟨by dsimp only; omega, by dsimp only; omega⟩ (by dsimp only; omega))
        ·dsimp only; rw [hst trivial]; rfl
        ·dsimp only; rw [hst trivial]; exact m0
        ·dsimp only; rw [hst trivial]; exact m1
   ·have hge : ¬ k < ord.length := by simpa using h
    have hl := hlast (by omega)
    subst hl
    refine next_of (livePass (lgR f) ord s0, N) (ghost_st ⟨rfl, rfl, rfl, rfl, rfl, trivial⟩ ⟨rfl, rfl, trivial⟩) ⟨hok, hN, fun hc => ?_, fun hc => ?_⟩ ?_
    ·refine ⟨fuel, ?_, ?_⟩
     ·have := hpass.2
      unfold phL at this
      show muL (livePass (lgR f) ord s0) < fuel
      rw [if_pos hc] at this
      omega
     ·dsimp only at hc ⊢
      rw [<- hiter, liveIter, if_pos hc]
    ·dsimp only at hc ⊢
     rw [<- hiter, liveIter, if_neg (by simp [hc])]
    ·have := hpass.2
     unfold phL at this
     dsimp only
     rw [if_pos h0]
     split at this <;> rename_i hc
     ·rw [if_pos hc]; omega
     ·rw [if_neg hc]; omega
  ·have hR' := hnch h
   subst hR'
   exact ⟨N0, ghost_st ⟨rfl, rfl, trivial⟩ ⟨rfl, rfl, trivial⟩, hok0⟩
 ·rintro s ⟨n', hg, hokR⟩
  refine ⟨_, hg, w_seq_region_g ?_⟩
  refine J12 ?_;refine J12 ?_;refine J18 ?_;refine J18 ?_
  refine ao_end (w_ghost (ghost_fr [(0, encWs R.inn, 100), (1, encWs R.out, 100)] ⟨rfl, fr_keep (by omega) rfl (allS_ws _), trivial⟩ (l := [(2, .sl (encWs R.inn) n), (3, .sl (encWs R.out) n)]) ⟨?_, ?_, trivial⟩) (q_ret2 rfl rfl rfl))
  ·show sub (fz0 1 (encWs R.out) (Tryz.prog.cellsOf 100)) (sub (fz0 0 (encWs R.inn) (Tryz.prog.cellsOf 100)) (D.rs 0 0 n)) = _
   rw [sub_rs_eq (by rw [c100, len_encWs (fun w hw => (hokR.ok.inn w hw).1), hokR.ok.ln]), sub_sl]
  ·show sub (fz0 1 (encWs R.out) (Tryz.prog.cellsOf 100)) (sub (fz0 0 (encWs R.inn) (Tryz.prog.cellsOf 100)) (D.rs 1 0 n)) = _
   rw [sub_rs_ne (by omega), sub_rs_eq (by rw [c100, len_encWs (fun w hw => (hokR.ok.out w hw).1), hokR.ok.lo])]
end Go.Proofs.Tryz.K
end
section
open Go Go.Abs Go.Proofs Go.Argus
namespace Go.Argus
def livesIn (f : Flow) : List (List Int) := (liveR (lgR f) f.blocks.length (ordL f)).inn.map fun w => listW w f.regs.length
def livesOut (f : Flow) : List (List Int) := (liveR (lgR f) f.blocks.length (ordL f)).out.map fun w => listW w f.regs.length
end Go.Argus
namespace Go.Proofs.Tryz.K
set_option maxRecDepth 10000
theorem k51_err {f : Flow} (hck : checkR f ≠ 0) : PCall Tryz.prog 51 [.agg (encFlow f)] (.tup [.s (.pointer none), I (checkR f)]) := by
 have k95 := k95 (f := f)
 generalize checkR f = e at k95 hck
 have kneq : (e != 0) = true := by simpa using hck
 refine pcall_of mixed ok51 (by rw [nt51]; rfl) (.cons (.agg (trs_flow f)) .nil) (.tup (.cons (.s _) (.cons (.s _) .nil))) ?_
 rw [rs51, sk51]
 refine w_seq_region_g ?_
 refine J51 ?_;refine J90 ?_;refine J3 ?_
 refine ao_end (w_ghost (ghost_fr [(0, encFlow f, 26)] ⟨rfl, trivial⟩ (l := [(1, .pt (encFlow f))]) ⟨rfl, trivial⟩) (w_assoc (w_seq_region ?_)))
 refine J36 ?_;refine cl k95 ?_;refine J3 ?_
 refine ao_end (w_assoc (w_seq_region ?_))
 refine J0 ?_;refine J73 ?_
 refine ao_end (w_seq_if rfl (fun _ => ?_) fun h => (by cases h))
 refine w_assoc (w_seq_region ?_)
 refine J0 ?_;refine J90 ?_;refine J3 ?_
 exact ao_end (w_seq_ret (q_ret2 rfl rfl rfl))
theorem k23_err {f : Flow} (hck : checkR f ≠ 0) : PCall Tryz.prog 23 [.agg (encFlow f)] (.tup [.z, .z, I (checkR f)]) := by
 have k51 := k51_err hck
 generalize checkR f = e at k51 hck
 have kneq : (e != 0) = true := by simpa using hck
 refine pcall_of mixed ok23 (by rw [nt23]; rfl) (.cons (.agg (trs_flow f)) .nil) (.tup (.cons .z (.cons .z (.cons (.s _) .nil)))) ?_
 rw [rs23, sk23]
 refine w_seq_region_g ?_
 refine J51 ?_;refine J23 ?_;refine J23 ?_;refine J3 ?_
 refine ao_end (w_ghost (ghost_fr [(0, encFlow f, 26)] ⟨rfl, trivial⟩ (l := [(1, .pt (encFlow f))]) ⟨rfl, trivial⟩) (w_seq_region ?_))
 refine J36 ?_;refine cl k51 ?_;refine J33 ?_;refine J153 ?_;refine J40 ?_;refine J90 ?_;refine J3 ?_
 refine ao_end (w_assoc (w_seq_region ?_))
 refine J0 ?_;refine J73 ?_
 refine ao_end (w_seq_if rfl (fun _ => ?_) fun h => (by cases h))
 refine w_assoc (w_seq_region ?_)
 refine J0 ?_;refine J23 ?_;refine J23 ?_;refine J3 ?_
 exact ao_end (w_seq_ret (q_ret3 rfl rfl rfl rfl))
end Go.Proofs.Tryz.K
end
section
open Go Go.Abs Go.Proofs Go.Argus
namespace Go.Proofs.Tryz.K
set_option maxRecDepth 10000
set_option maxHeartbeats 1000000 in
theorem k23_ok {f : Flow} (hck : checkR f = 0) : PCall Tryz.prog 23 [.agg (encFlow f)] (.tup [encLists (livesIn f), encLists (livesOut f), I 0]) := by
 have k51 := k51_ok hck
 have hf : formedB f = true := by
  unfold checkR at hck
  split at hck
  ·assumption
  ·cases hck
 have hok := flowOk hf
 obtain ⟨n, hn⟩ : ∃ n, f.blocks.length = n := ⟨_, rfl⟩
 have hn1 : n <= 1200 := hn ▸ hok.lim
 have hrg := hok.regs
 have k65 := k65 (f := f) (n := n) hok hn (c := encBools (reachR (behF (behR f)) f.blocks.length (-1))) (.sl (.map fun _ => .s _)) rfl
 change PCall _ _ [.pt (graphR f)] _ at k65
 have hlg := lg_ok hok
 have hoi := ord_in hok
 rw [hn] at hlg hoi
 have hI := (live_spec hlg hoi).1
 have hLI : livesIn f = (liveR (lgR f) n (ordL f)).inn.map fun w => listW w f.regs.length := by rw [livesIn, hn]
 have hLO : livesOut f = (liveR (lgR f) n (ordL f)).out.map fun w => listW w f.regs.length := by rw [livesOut, hn]
 have hA := hI.ok.inn
 have hB := hI.ok.out
 have hAl := hI.ok.ln
 have hBl := hI.ok.lo
 clear hI
 rw [hLI, hLO]
 clear hLI hLO
 generalize (liveR (lgR f) n (ordL f)).inn = A at *
 generalize (liveR (lgR f) n (ordL f)).out = C at *
 refine pcall_of mixed ok23 (by rw [nt23]; rfl) (.cons (.agg (trs_flow f)) .nil) (.tup (.cons (tr_lists _) (.cons (tr_lists _) (.cons (.s _) .nil)))) ?_
 rw [rs23, sk23]
 refine w_seq_region_g ?_
 refine J51 ?_;refine J23 ?_;refine J23 ?_;refine J3 ?_
 refine ao_end (w_ghost (ghost_fr [(0, encFlow f, 26)] ⟨rfl, trivial⟩ (l := [(1, .pt (encFlow f)), (2, .z), (3, .z), (4, I 0)]) ⟨rfl, rfl, rfl, rfl, trivial⟩) (w_seq_region ?_))
 refine J36 ?_;refine cl k51 ?_;refine J33 ?_;refine J154 ?_;refine J40 ?_;refine J126 ?_;refine J3 ?_
 refine ao_end (w_assoc (w_seq_region ?_))
 refine J0 ?_;refine J39 ?_
 refine ao_end (w_seq_if rfl (fun h => (by cases h)) fun _ => w_seq_skip (w_seq_region_g ?_))
 refine J30 ?_;refine cl k65 ?_;refine J33 ?_;refine J72 ?_;refine J72 ?_;refine J44 ?_;refine J44 ?_
 refine ao_end ⟨_, (Ghost.nilrow _ _ _ 2 27 rfl).trans ((Ghost.nilrow _ _ _ 3 27 rfl).trans (ghost_st (l := [(1, .pt (encFlow f)), (2, .rs 1 0 0), (3, .rs 2 0 0), (4, I 0), (6, .sl (encWs A) n), (7, .sl (encWs C) n)]) (ml := [(1, .cells [] 27), (2, .cells [] 27)]) ⟨rfl, rfl, rfl, rfl, rfl, rfl, trivial⟩ ⟨rfl, rfl, trivial⟩)), w_assoc (w_seq_region_g ?_)⟩
 refine J17 ?_;refine J14 ?_;refine J0 ?_
 refine ao_end (w_then (fun s => ∃ r1 r2 m nx, Ghost Tryz.prog s ⟨envL [(2, .rs r1 0 n), (3, .rs r2 0 n), (4, I 0)], m, nx⟩ /\ r1 ≠ r2 /\ m r1 = some (.cells ((A.map fun w => listW w f.regs.length).map encInts) 27) /\ m r2 = some (.cells ((C.map fun w => listW w f.regs.length).map encInts) 27)) (w_range (α := Nat × Nat × Nat × Mem × Nat)
  (fun s => ⟨envL [(1, .pt (encFlow f)), (2, .rs s.2.1 0 s.1), (3, .rs s.2.2.1 0 s.1), (4, I 0), (6, .sl (encWs A) n), (7, .sl (encWs C) n), (23, I n), (24, I s.1)], s.2.2.2.1, s.2.2.2.2⟩)
  (fun s => s.1 <= n /\ s.2.1 < s.2.2.2.2 /\ s.2.2.1 < s.2.2.2.2 /\ s.2.1 ≠ s.2.2.1 /\ s.2.2.2.1 s.2.1 = some (.cells (((A.take s.1).map fun w => listW w f.regs.length).map encInts) 27) /\ s.2.2.2.1 s.2.2.1 = some (.cells (((C.take s.1).map fun w => listW w f.regs.length).map encInts) 27)) (fun s => n - s.1)
  (0, 1, 2, memL [(1, .cells [] 27), (2, .cells [] 27)], 3) (ghost_st ⟨rfl, rfl, rfl, rfl, rfl, rfl, rfl, rfl, trivial⟩ ⟨rfl, rfl, trivial⟩) ⟨Nat.zero_le _, Nat.lt_succ_of_lt (Nat.lt_succ_self _), Nat.lt_succ_self _, (by intro h; cases h), rfl, rfl⟩ ?_) ?_)
 ·rintro ⟨j, r1, r2, m, nx⟩ ⟨hj, hr1, hr2, hne, m1, m2⟩
  dsimp only at hj hr1 hr2 hne m1 m2 ⊢
  refine J16 ?_
  refine ao_end ⟨_, rfl, fun h => ?_, fun h => ?_⟩
  ·have hjl : j < n := by simpa using h
   have hjA : j < A.length := by omega
   have hjC : j < C.length := by omega
   have hi1 : A[j]? = some A[j] := List.getElem?_eq_getElem hjA
   have hi2 : C[j]? = some C[j] := List.getElem?_eq_getElem hjC
   have hw1 : A[j].length = 19 := (hA _ (List.getElem_mem hjA)).1
   have hw2 : C[j].length = 19 := (hB _ (List.getElem_mem hjC)).1
   have hws1 : ∀ w ∈ A, w.length = 19 := fun w hw => (hA w hw).1
   have hws2 : ∀ w ∈ C, w.length = 19 := fun w hw => (hB w hw).1
   have hlk1 : (((A.take j).map fun w => listW w f.regs.length).map encInts).length = j := by simp; omega
   have hlk2 : (((C.take j).map fun w => listW w f.regs.length).map encInts).length = j := by simp; omega
   have ht1 : True -> ((A.take (j + 1)).map fun w => listW w f.regs.length).map encInts = ((A.take j).map fun w => listW w f.regs.length).map encInts ++ [encInts (listW A[j] f.regs.length)] := fun _ => by
    rw [List.take_add_one, hi1, List.map_append, List.map_append]; rfl
   have ht2 : True -> ((C.take (j + 1)).map fun w => listW w f.regs.length).map encInts = ((C.take j).map fun w => listW w f.regs.length).map encInts ++ [encInts (listW C[j] f.regs.length)] := fun _ => by
    rw [List.take_add_one, hi2, List.map_append, List.map_append]; rfl
   generalize ((A.take j).map fun w => listW w f.regs.length).map encInts = c1 at m1 hlk1 ht1
   generalize ((C.take j).map fun w => listW w f.regs.length).map encInts = c2 at m2 hlk2 ht2
   generalize A[j] = w1 at hi1 hw1 ht1
   generalize C[j] = w2 at hi2 hw2 ht2
   have k66b := k66 (w := w2) (n := f.regs.length) hw2 hrg
   have k66 := k66 (w := w1) (n := f.regs.length) hw1 hrg
   have hrow := m1
   have hrow2 := m2
   refine ws ?_;refine J0 ?_;refine J3 ?_
   refine ao_end (w_drawB di_r23_8 ?_)
   refine J12 ?_;refine J17 ?_;refine J0 ?_;refine J119 ?_;refine J120 ?_;refine J5 ?_;refine J4 ?_;refine J14 ?_;refine cl k66 ?_;refine J35 ?_
   refine ao_m (e_appR rfl (mskip (by omega) hrow) rfl V.h V.h (cells_rs (up_same _ _ _) rfl) rfl) ak ⟨V.h, rfl, (by first | omega | exact Nat.le_of_ble_eq_true rfl | (simp; done) | (simp; omega)), (by decide), (by first | rfl | (simp; done) | (simp; omega)), (by unfold maxLen; first | omega | (simp; omega)), (by rw [b27]; first | omega | (simp; omega)), (by first | (simp; done) | (simp; omega))⟩ ?_
   have k66 := k66b
   refine J12 ?_;refine J17 ?_;refine J0 ?_;refine J119 ?_;refine J120 ?_;refine J5 ?_;refine J4 ?_;refine J14 ?_;refine cl k66 ?_;refine J35 ?_
   refine ao_m (e_appR rfl (mskip (by omega) (mskip (by omega) (mskip (by omega) (mskip (by omega) hrow2)))) rfl V.h V.h (cells_rs (up_same _ _ _) rfl) rfl) ak ⟨V.h, rfl, (by first | omega | exact Nat.le_of_ble_eq_true rfl | (simp; done) | (simp; omega)), (by decide), (by first | rfl | (simp; done) | (simp; omega)), (by unfold maxLen; first | omega | (simp; omega)), (by rw [b27]; first | omega | (simp; omega)), (by first | (simp; done) | (simp; omega))⟩ ?_
   refine J18 ?_;refine J18 ?_
   refine ao_endc (by simp [apartT]; try omega) ?_
   refine J10 ?_;refine J0 ?_
   refine ao_end (next_of (j + 1, nx + 1, nx + 1 + 1 + 1, _, nx + 1 + 1 + 1 + 1) (ghost_of ⟨rfl, rfl, rfl, rfl, rfl, rfl, rfl, rfl, trivial⟩) ⟨by dsimp only; omega, by dsimp only; omega, by dsimp only; omega, by dsimp only; omega, ?_, ?_⟩ (by dsimp only; omega))
   ·dsimp only
    rw [ht1 trivial]
    exact mskip (by omega) (mskip (by omega) (mskip (by omega) (up_same _ _ _)))
   ·dsimp only
    rw [ht2 trivial]
    exact up_same _ _ _
  ·have hge : ¬ j < n := by simpa using h
   have : j = n := by omega
   subst this
   rw [List.take_of_length_le (by omega)] at m1 m2
   exact ⟨r1, r2, m, nx, ghost_of ⟨rfl, rfl, rfl, trivial⟩, hne, m1, m2⟩
 ·rintro s ⟨r1, r2, m, nx, hg, hne, m1, m2⟩
  refine ⟨_, hg, w_seq_region_g ?_⟩
  refine J12 ?_;refine J12 ?_;refine J18 ?_;refine J18 ?_;refine J3 ?_
  refine ao_end (w_ghost (ghost_fr [(r1, (A.map fun w => listW w f.regs.length).map encInts, 27), (r2, (C.map fun w => listW w f.regs.length).map encInts, 27)] ⟨m1, fr_keepM (Ne.symm hne) m2 (InertR.cells (X := fun p => p = r1) (fun d hd => by obtain ⟨x, _, rfl⟩ := List.mem_map.1 hd; exact .sl _ _) _ _ _ rfl), trivial⟩ (l := [(2, encLists (A.map fun w => listW w f.regs.length)), (3, encLists (C.map fun w => listW w f.regs.length)), (4, I 0)]) ⟨?_, ?_, rfl, trivial⟩) (q_ret3 rfl rfl rfl rfl))
  ·show sub (fz0 r2 _ (Tryz.prog.cellsOf 27)) (sub (fz0 r1 _ (Tryz.prog.cellsOf 27)) (D.rs r1 0 n)) = _
   rw [sub_rs_eq (by rw [c27]; simp; omega), sub_sl, encLists]
   simp [hAl]
  ·show sub (fz0 r2 _ (Tryz.prog.cellsOf 27)) (sub (fz0 r1 _ (Tryz.prog.cellsOf 27)) (D.rs r2 0 n)) = _
   rw [sub_rs_ne (Ne.symm hne), sub_rs_eq (by rw [c27]; simp; omega), encLists]
   simp [hBl]
end Go.Proofs.Tryz.K
end
section
namespace Go.Argus
open Go Go.Abs
open Go.Proofs.Tryz.K (nextR lg_ok beh_in ord_in)
def begF (f : Flow) : Nat -> List Int := behF (behR f)
def fateG (f : Flow) (r : Int) (b : Nat) (p : Bool) : Int := fateR (blkF f b) r p
def entG (f : Flow) (r : Int) (a c : Nat) : Int := entersR (blkF f a) (blkF f c) (ahdF f c) a c r
def LvG (f : Flow) (r : Int) (b : Nat) : Prop := Lv (begF f) (fateG f r) (entG f r) b
theorem fateI_3 (r : Int) (p : Bool) : ∀ l, fateI r p l = 0 \/ fateI r p l = 1 \/ fateI r p l = 2
 | [] => .inl rfl
 | y :: t => by
  unfold fateI
  split
  ·exact .inr (.inl rfl)
  ·split
   ·exact .inr (.inr rfl)
   ·exact fateI_3 r p t
theorem fateR_3 (x : Block) (r : Int) (p : Bool) : fateR x r p = 0 \/ fateR x r p = 1 \/ fateR x r p = 2 := by
 unfold fateR
 split
 ·split
  ·exact .inr (.inl rfl)
  ·exact .inl rfl
 ·exact fateI_3 r p x.ins
theorem ent_3 (x y : Block) (A : List Int) (a b r : Int) : entersR x y A a b r = 0 \/ entersR x y A a b r = 1 \/ entersR x y A a b r = 2 := by
 unfold entersR
 split
 ·exact .inr (.inr rfl)
 ·split
  ·exact .inr (.inl rfl)
  ·split
   ·exact .inr (.inr rfl)
   ·exact .inl rfl
theorem reads_phi {y : Ins} (h : y.op = 19) : readsR y = [] := by simp [readsR, isIn, readsL1, readsL2, h]
theorem writes_phi {y : Ins} (h : y.op = 19) : writesR y = y.to := by simp [writesR, isIn, writesL1, h]
theorem phi_fate {r : Int} : ∀ {l : List Ins}, (l.takeWhile isPhi).any (fun z => z.to == r) = true -> fateI r true l = 2
 | [], h => by simp at h
 | y :: l, h => by
  rw [List.takeWhile_cons] at h
  split at h
  ·rename_i hp
   have h19 : y.op = 19 := by simpa [isPhi] using hp
   unfold fateI
   rw [reads_phi h19]
   simp only [hasI, List.any_nil, Bool.false_eq_true, if_false]
   rw [List.any_cons, Bool.or_eq_true] at h
   unfold insideB
   rw [writes_phi h19]
   rcases h with h | h
   ·simp [h]
   ·split
    ·rfl
    ·exact phi_fate h
  ·simp at h
theorem fate_phi {r : Int} : ∀ {l : List Ins}, (∀ (j : Nat) y, l[j]? = some y -> y.op = 19 -> (l.take (j + 1)).all isPhi = true) -> (l.takeWhile isPhi).any (fun z => z.to == r) = false -> fateI r false l = fateI r true l
 | [], _, _ => rfl
 | y :: l, hl, h => by
  have tail : ∀ (j : Nat) z, l[j]? = some z -> z.op = 19 -> isPhi y = true /\ (l.take (j + 1)).all isPhi = true := fun j z hz h19 => by
   have := hl (j + 1) z (by simpa using hz) h19
   simpa using this
  unfold fateI
  split
  ·rfl
  ·by_cases hp : isPhi y = true
   ·rw [List.takeWhile_cons, if_pos hp, List.any_cons, Bool.or_eq_false_iff] at h
    have h19 : y.op = 19 := by simpa [isPhi] using hp
    have e : ∀ p, insideB r p y = false := fun p => by
     unfold insideB
     rw [writes_phi h19, h.1]; rfl
    rw [e, e]
    exact fate_phi (fun j z hz h19 => (tail j z hz h19).2) h.2
   ·have h19 : (y.op != 19) = true := by
     simp only [isPhi] at hp
     simpa using hp
    have e : insideB r false y = insideB r true y := by
     unfold insideB
     simp [h19]
    rw [e]
    have hn : ∀ (j : Nat) z, l[j]? = some z -> z.op ≠ 19 := fun j z hz h => hp (tail j z hz h).1
    have e2 : fateI r false l = fateI r true l := by
     clear hl h e tail
     induction l with
     | nil => rfl
     | cons z l ih =>
      have hz := hn 0 z rfl
      have e : insideB r false z = insideB r true z := by
       unfold insideB
       have : (z.op != 19) = true := by simpa using hz
       simp [this]
      unfold fateI
      rw [e, ih fun j y hy => hn (j + 1) y (by simpa using hy)]
    rw [e2]
theorem fateI_insB {r : Nat} {p : Prop} : ∀ (l : List Ins), (fateI r true l = 1 -> insB r p l) /\ (fateI r true l = 2 -> ¬ insB r p l) /\ (fateI r true l = 0 -> (insB r p l ↔ p))
 | [] => ⟨fun h => by simp [fateI] at h, fun h => by simp [fateI] at h, fun _ => Iff.rfl⟩
 | y :: l => by
  obtain ⟨h1, h2, h3⟩ := fateI_insB (p := p) l
  unfold fateI
  by_cases hr : hasI (readsR y) r = true
  ·rw [if_pos hr]
   refine ⟨fun _ => .inl (hasI_iff.1 hr), fun h => by omega, fun h => by omega⟩
  ·have hr' : ¬ (r : Int) ∈ readsR y := fun h => hr (hasI_iff.2 h)
   rw [if_neg hr]
   by_cases hw : insideB r true y = true
   ·have hw' : writesR y = (r : Int) := by
     unfold insideB at hw
     split at hw
     ·rename_i h; simpa using h
     ·cases hw
    rw [if_pos hw]
    refine ⟨fun h => by omega, fun _ h => ?_, fun h => by omega⟩
    rcases h with h | ⟨h, _⟩
    ·exact hr' h
    ·exact h hw'
   ·have hw' : writesR y ≠ (r : Int) := fun e => hw (by unfold insideB; simp [e])
    rw [if_neg hw]
    refine ⟨fun h => .inr ⟨hw', h1 h⟩, fun h h' => ?_, fun h => ?_⟩
    ·rcases h' with h' | ⟨_, h'⟩
     ·exact hr' h'
     ·exact h2 h h'
    ·refine Iff.trans ?_ (h3 h)
     exact ⟨fun h' => by rcases h' with h' | ⟨_, h'⟩; exact absurd h' hr'; exact h', fun h' => .inr ⟨hw', h'⟩⟩
theorem three {f : Flow} (h : FlowOk f) (r : Int) : Three (begF f) (fateG f r) (entG f r) := by
 refine ⟨fun b p => fateR_3 _ _ _, fun a c => ent_3 _ _ _ _ _ _, fun a c hc he => ?_⟩
 have hcn := beh_in h a c hc
 have hx := List.getElem?_eq_getElem hcn.2
 unfold fateG fateR
 rw [blkF_get hx]
 have : fateI r false f.blocks[c.toNat].ins = fateI r true f.blocks[c.toNat].ins := by
  refine fate_phi (fun j y hy h19 => ?_) ?_
  ·exact ((insOk_right h.regs h.slots.1 h.slots.2 (h.right c.toNat _ hx j y hy)).2 h19).2.1
  ·unfold entG entersR at he
   rw [blkF_get hx] at he
   split at he
   ·omega
   ·split at he
    ·omega
    ·split at he
     ·omega
     ·rename_i hp
      simpa [phiW, phisR] using hp
 rw [this]
theorem entG_0 {f : Flow} {r : Int} {a c : Nat} : entG f r a c = 0 ↔ writtenR (blkF f a).fin c ≠ r /\ ¬ r ∈ givenR (ahdF f c) a (blkF f c) /\ phiW (blkF f c) r = false := by
 unfold entG entersR
 by_cases h1 : (writtenR (blkF f a).fin c == r) = true
 ·rw [if_pos h1]
  have : writtenR (blkF f a).fin c = r := by simpa using h1
  constructor
  ·intro h; omega
  ·rintro ⟨h, _⟩; exact absurd this h
 ·have h1' : writtenR (blkF f a).fin c ≠ r := by simpa using h1
  rw [if_neg h1]
  by_cases h2 : hasI (givenR (ahdF f c) a (blkF f c)) r = true
  ·rw [if_pos h2]
   constructor
   ·intro h; omega
   ·rintro ⟨_, h, _⟩; exact absurd (hasI_iff.1 h2) h
  ·rw [if_neg h2]
   by_cases h3 : phiW (blkF f c) r = true
   ·rw [if_pos h3]
    constructor
    ·intro h; omega
    ·rintro ⟨_, _, h⟩; rw [h3] at h; cases h
   ·rw [if_neg h3]
    exact ⟨fun _ => ⟨h1', fun h => h2 (hasI_iff.2 h), by simpa using h3⟩, fun _ => rfl⟩
theorem entG_1 {f : Flow} {r : Int} {a c : Nat} : entG f r a c = 1 ↔ writtenR (blkF f a).fin c ≠ r /\ r ∈ givenR (ahdF f c) a (blkF f c) := by
 unfold entG entersR
 by_cases h1 : (writtenR (blkF f a).fin c == r) = true
 ·rw [if_pos h1]
  have : writtenR (blkF f a).fin c = r := by simpa using h1
  constructor
  ·intro h; omega
  ·rintro ⟨h, _⟩; exact absurd this h
 ·have h1' : writtenR (blkF f a).fin c ≠ r := by simpa using h1
  rw [if_neg h1]
  by_cases h2 : hasI (givenR (ahdF f c) a (blkF f c)) r = true
  ·rw [if_pos h2]
   exact ⟨fun _ => ⟨h1', hasI_iff.1 h2⟩, fun _ => rfl⟩
  ·rw [if_neg h2]
   constructor
   ·intro h; split at h <;> omega
   ·rintro ⟨_, h⟩; exact absurd (hasI_iff.2 h) h2
theorem lv_fate2 {f : Flow} {r : Int} {b : Nat} (h : fateG f r b true = 2) : ¬ LvG f r b := by
 intro hl
 cases hl with
 | here h' => omega
 | read h' _ _ => omega
 | on h' _ _ _ => omega
theorem fateG_0 {f : Flow} {r : Int} {b : Nat} : fateG f r b true = 0 ↔ fateI r true (blkF f b).ins = 0 /\ ¬ r ∈ readsEnd (blkF f b).fin := by
 unfold fateG fateR
 by_cases h : fateI r true (blkF f b).ins = 0
 ·rw [if_pos h]
  by_cases h2 : hasI (readsEnd (blkF f b).fin) r = true
  ·rw [if_pos h2]
   constructor
   ·intro h; omega
   ·rintro ⟨_, h'⟩; exact absurd (hasI_iff.1 h2) h'
  ·rw [if_neg h2]
   exact ⟨fun _ => ⟨h, fun h' => h2 (hasI_iff.2 h')⟩, fun _ => rfl⟩
 ·rw [if_neg h]
  exact ⟨fun h' => absurd h' h, fun h' => absurd h'.1 h⟩
theorem fateG_1 {f : Flow} {r : Int} {b : Nat} : fateG f r b true = 1 ↔ fateI r true (blkF f b).ins = 1 \/ (fateI r true (blkF f b).ins = 0 /\ r ∈ readsEnd (blkF f b).fin) := by
 unfold fateG fateR
 by_cases h : fateI r true (blkF f b).ins = 0
 ·rw [if_pos h]
  by_cases h2 : hasI (readsEnd (blkF f b).fin) r = true
  ·rw [if_pos h2]
   exact ⟨fun _ => .inr ⟨h, hasI_iff.1 h2⟩, fun _ => rfl⟩
  ·rw [if_neg h2]
   constructor
   ·intro h'; omega
   ·rintro (h' | ⟨_, h'⟩)
    ·omega
    ·exact absurd (hasI_iff.2 h') h2
 ·rw [if_neg h]
  exact ⟨fun h' => .inl h', fun h' => by rcases h' with h' | ⟨h', _⟩; exact h'; exact absurd h' h⟩
theorem lv_closed {f : Flow} (h : FlowOk f) (r b : Nat) (hi : innB (lgR f) (LvG f r) b r) : LvG f r b := by
 unfold innB at hi
 obtain ⟨h1, h2, h3⟩ := fateI_insB (r := r) (p := outB (lgR f) (LvG f r) b r) (blkF f b).ins
 have hi : insB r (outB (lgR f) (LvG f r) b r) (blkF f b).ins := hi
 rcases fateI_3 r true (blkF f b).ins with hf | hf | hf
 ·rcases (h3 hf).1 hi with ho | ⟨c, hc, hw, hg⟩
  ·exact .here (fateG_1.2 (.inr ⟨hf, ho⟩))
  ·by_cases hre : (r : Int) ∈ readsEnd (blkF f b).fin
   ·exact .here (fateG_1.2 (.inr ⟨hf, hre⟩))
   ·have h0 := fateG_0.2 ⟨hf, hre⟩
    have hcn := beh_in h b c hc
    have hcc : ((c.toNat : Nat) : Int) = c := Int.toNat_of_nonneg hcn.1
    have hw : writtenR (blkF f b).fin c ≠ r := hw
    by_cases hgr : (r : Int) ∈ givenR (ahdF f c.toNat) b (blkF f c.toNat)
    ·exact .read h0 hc (entG_1.2 ⟨by rw [hcc]; exact hw, hgr⟩)
    ·rcases hg with hg | hg
     ·exact absurd hg hgr
     ·by_cases hp : phiW (blkF f c.toNat) r = true
      ·have h2 : fateG f r c.toNat true = 2 := by
        have := phi_fate (r := (r : Int)) (l := (blkF f c.toNat).ins) hp
        unfold fateG fateR
        rw [this]; rfl
       exact absurd hg (lv_fate2 h2)
      ·exact .on h0 hc (entG_0.2 ⟨by rw [hcc]; exact hw, hgr, by simpa using hp⟩) hg
 ·exact .here (fateG_1.2 (.inl hf))
 ·exact absurd hi (h2 hf)
theorem lv_step {f : Flow} (h : FlowOk f) {p : Nat -> Prop} {r b : Nat} (hh : fateG f r b true = 1 \/ (fateG f r b true = 0 /\ ∃ c ∈ begF f b, entG f r b c.toNat = 1 \/ (entG f r b c.toNat = 0 /\ p c.toNat))) : innB (lgR f) p b r := by
 obtain ⟨h1, h2, h3⟩ := fateI_insB (r := r) (p := outB (lgR f) p b r) (blkF f b).ins
 show insB r (outB (lgR f) p b r) (blkF f b).ins
 rcases hh with hh | ⟨h0, c, hc, hh⟩
 ·rcases fateG_1.1 hh with hf | ⟨hf, hre⟩
  ·exact h1 hf
  ·exact (h3 hf).2 (.inl hre)
 ·have hf := (fateG_0.1 h0).1
  have hcn := beh_in h b c hc
  have hcc : ((c.toNat : Nat) : Int) = c := Int.toNat_of_nonneg hcn.1
  refine (h3 hf).2 (.inr ⟨c, hc, ?_⟩)
  rcases hh with hh | ⟨hh, hp⟩
  ·have := entG_1.1 hh
   rw [hcc] at this
   exact ⟨this.1, .inl this.2⟩
  ·have := entG_0.1 hh
   rw [hcc] at this
   exact ⟨this.1, .inr hp⟩
theorem mem_ordL {f : Flow} (h : FlowOk f) {x : Int} : x ∈ ordL f ↔ 0 <= x /\ (reachR (behF (behR f)) f.blocks.length (-1)).getD x.toNat false = true := by
 unfold ordL
 rw [List.mem_reverse]
 exact mem_order (beh_in h) h.pos
theorem live_lv {f : Flow} (h : FlowOk f) (r b : Nat) : bitW ((liveR (lgR f) f.blocks.length (ordL f)).inn.getD b []) r = true ↔ (reachR (behF (behR f)) f.blocks.length (-1)).getD b false = true /\ LvG f r b := by
 obtain ⟨hI, hin, _⟩ := live_spec (lg_ok h) (ord_in h)
 have hmem : ∀ c : Nat, (c : Int) ∈ ordL f ↔ (reachR (behF (behR f)) f.blocks.length (-1)).getD c false = true := fun c => by
  rw [mem_ordL h]
  simp
 constructor
 ·intro hb
  exact ⟨(hmem b).1 (hI.si b r hb), hI.snd r (LvG f r) (fun c hc => lv_closed h r c hc) b hb⟩
 ·rintro ⟨hc, hl⟩
  have key : ∀ b, LvG f r b -> (b : Int) ∈ ordL f -> bitW ((liveR (lgR f) f.blocks.length (ordL f)).inn.getD b []) r = true := fun b hl => by
   induction hl with
   | here h1 => exact fun hb => (hin _ r hb).2 (lv_step h (.inl h1))
   | read h1 h2 h3 => exact fun hb => (hin _ r hb).2 (lv_step h (.inr ⟨h1, _, h2, .inl h3⟩))
   | @on b c h1 h2 h3 _ ih =>
    intro hb
    have hcn := beh_in h b c h2
    have hcc : ((c.toNat : Nat) : Int) = c := Int.toNat_of_nonneg hcn.1
    have := reach_closed (beh_in h) h.pos ((hmem b).1 hb) c h2
    exact (hin _ r hb).2 (lv_step h (.inr ⟨h1, c, h2, .inr ⟨h3, ih ((hmem c.toNat).2 this)⟩⟩))
  exact key b hl ((hmem b).2 hc)
end Go.Argus
end
section
open Go Go.Abs Go.Proofs Go.Argus
namespace Go.Argus
def cm (l : List (Int × Int)) : List (Value × D) := l.map fun p => (.int .i64 p.1, I p.2)
def lkC (a : Int) : List (Int × Int) -> Option Int
 | [] => none
 | (k, v) :: t => if k = a then some v else lkC a t
theorem look_cm (a : Int) : ∀ l : List (Int × Int), (lookD (.int .i64 a) (cm l)).map (·.2) = (lkC a l).map I
 | [] => rfl
 | (b, v) :: l => by
  have ih := look_cm a l
  unfold cm at ih ⊢
  simp only [List.map_cons, lookD, veq, veq1, beq_self_eq_true, Bool.true_and, lkC] at ih ⊢
  by_cases h : b = a
  ·subst h; simp
  ·have hb : (b == a) = false := by simpa using h
   simp only [hb, Bool.false_eq_true, if_false, Option.map_map, h]
   exact ih
theorem got_cm {P : Program} {t : TypeId} (hz : zeroD P (melP P t) = I 0) (a : Int) (l : List (Int × Int)) : gotD P t false (lookD (.int .i64 a) (cm l)) = I ((lkC a l).getD 0) := by
 have h := look_cm a l
 cases h1 : lookD (.int .i64 a) (cm l) with
 | none =>
  rw [h1] at h
  cases h2 : lkC a l with
  | some x => rw [h2] at h; simp at h
  | none => simp [gotD, hz]
 | some x =>
  rw [h1] at h
  cases h2 : lkC a l with
  | none => rw [h2] at h; simp at h
  | some y => rw [h2] at h; simp at h; simp [gotD, h]
theorem got_cm2 {P : Program} {t : TypeId} (hz : zeroD P (melP P t) = I 0) (a : Int) (l : List (Int × Int)) : gotD P t true (lookD (.int .i64 a) (cm l)) = .tup [I ((lkC a l).getD 0), B (lkC a l).isSome] := by
 have h := look_cm a l
 cases h1 : lookD (.int .i64 a) (cm l) with
 | none =>
  rw [h1] at h
  cases h2 : lkC a l with
  | some x => rw [h2] at h; simp at h
  | none => simp [gotD, hz]
 | some x =>
  rw [h1] at h
  cases h2 : lkC a l with
  | none => rw [h2] at h; simp at h
  | some y => rw [h2] at h; simp at h; simp [gotD, h]
theorem put_cm {a v : Int} {l : List (Int × Int)} (h : lkC a l = none) : putD (.int .i64 a) (I v) (cm l) = cm (l ++ [(a, v)]) := by
 have h1 := look_cm a l
 rw [h] at h1
 unfold putD
 cases h2 : lookD (.int .i64 a) (cm l) with
 | none => simp [cm]
 | some x => rw [h2] at h1; simp at h1
theorem keys_cm {P : Program} {kt : TypeId} (hk : P.underlying kt = some (.int .i64)) (l : List (Int × Int)) : (cm l).all (fun e => keyP P kt e.1) = true := by
 refine List.all_eq_true.2 fun x hx => ?_
 obtain ⟨y, _, rfl⟩ := List.mem_map.1 hx
 simp [keyP, hk]
inductive ChainC (l : List (Int × Int)) : Int -> List Int -> Prop
 | nil : ChainC l (-1) []
 | cons {b a : Int} {p : List Int} : b ≠ -1 -> lkC b l = some a -> ChainC l a p -> ChainC l b (b :: p)
end Go.Argus
namespace Go.Proofs.Tryz.K
set_option maxRecDepth 10000
theorem zk120 : zeroD Tryz.prog (melP Tryz.prog 120) = I 0 := by kernel_rfl
theorem k83 {m : Mem} {nx r mi : Nat} {l : List (Int × Int)} {b : Int} {p : List Int} (hr : r < nx) (hmi : mi < nx) (hm : m r = some (.cells [.mp mi] 120)) (hmm : m mi = some (.map (cm l))) (hp : ChainC l b p) (hl : p.length <= 100000) :
  ACalls Tryz.prog 83 [I b, .rp r 0] m nx (fun d m' nx' => ∃ q, d = .rs q 0 p.length /\ nx <= q /\ q < nx' /\ m' q = some (.cells (p.reverse.map I) 3) /\ ∀ i, i < nx -> m' i = m i) := by
 refine acall_of mixed ok83 (by rw [nt83]; rfl) ?_
 rw [rs83, sk83]
 refine ws ?_;refine J23 ?_
 refine ao_end (w_seq_region_g ?_)
 refine J23 ?_
 refine ao_end (w_then (fun s => ∃ q m' nx', Ghost Tryz.prog s ⟨envL [(4, .rs q 0 p.length)], m', nx'⟩ /\ nx <= q /\ q < nx' /\ m' q = some (.cells (p.map I) 3) /\ ∀ i, i < nx -> m' i = m i)
  (w_for (α := Int × List Int × List Int × Nat × Mem × Nat) (fun s => ⟨envL [(0, I s.1), (1, .rp r 0), (4, .rs s.2.2.2.1 0 s.2.1.length)], s.2.2.2.2.1, s.2.2.2.2.2⟩)
   (fun s => ChainC l s.1 s.2.2.1 /\ s.2.1 ++ s.2.2.1 = p /\ nx <= s.2.2.2.1 /\ s.2.2.2.1 < s.2.2.2.2.2 /\ s.2.2.2.2.1 s.2.2.2.1 = some (.cells (s.2.1.map I) 3) /\ ∀ i, i < nx -> s.2.2.2.2.1 i = m i) (fun s => s.2.2.1.length) (b, [], p, nx, up m nx (some (.cells [] 3)), nx + 1)
   ((Ghost.nilrow _ _ _ 4 3 rfl).trans (ghost_of ⟨rfl, rfl, rfl, trivial⟩)) ⟨hp, rfl, Nat.le_refl _, Nat.lt_succ_self _, up_same _ _ _, fun i hi => up_ne _ _ (by omega)⟩ ?_) ?_)
 ·rintro ⟨a, o, p', q, m', nx'⟩ ⟨hch, hop, hq, hqn, hrow, hfr⟩
  dsimp only at hch hop hq hqn hrow hfr ⊢
  have hrow2 : m' r = some (.cells [.mp mi] 120) := (hfr r hr).trans hm
  have hol : o.length <= 100000 := by have := congrArg List.length hop; simp at this; omega
  cases hch with
  | nil =>
   refine J0 ?_;refine J39 ?_
   refine ao_end ⟨_, rfl, fun h => (by cases h), fun h => ?_⟩
   rw [List.append_nil] at hop
   subst hop
   exact ⟨q, m', nx', ghost_of ⟨rfl, trivial⟩, hq, hqn, hrow, hfr⟩
  | @cons _ a2 p2 hne hlk hch2 =>
   have kneq : (a != -1) = true := by simpa using hne
   refine J0 ?_;refine J73 ?_
   refine ao_end ⟨_, rfl, fun h => ?_, fun h => (by cases h)⟩
   refine w_regE ?_
   refine J12 ?_;refine J0 ?_;refine J35 ?_;refine J101 ?_;refine J18 ?_
   refine ao_end ?_
   refine ao_p (e_loadR rfl (mskip (by omega) (mskip (by omega) (mskip (by omega) hrow2))) rfl V.h) ak (p_loadR V.h V.h rfl) ?_
   refine J0 ?_
   refine ao_p (e_lookup rfl (mskip (by omega) (mskip (by omega) (mskip (by omega) ((hfr mi hmi).trans hmm)))) rfl mk120 (got_cm zk120 _ _)) (by repeat' (first | exact trivial | exact rfl | refine And.intro ?_ ?_)) ⟨mt120, key_op uk3 _, keys_cm uk3 _⟩ ?_
   rw [hlk, Option.getD_some]
   refine J3 ?_
   refine ao_end (next_of (a2, o ++ [a], p2, nx' + 1, _, nx' + 2) (ghost_of ⟨rfl, rfl, ?_, trivial⟩) ⟨hch2, by simp only; rw [List.append_assoc]; exact hop, by simp only; omega, by simp only; omega, ?_, fun i hi => ?_⟩ (by simp only [List.length_cons]; omega))
   ·show D.rs _ 0 _ = D.rs _ 0 _
    rw [List.length_append]; rfl
   ·dsimp only
    rw [List.map_append]
    exact up_same _ _ _
   ·dsimp only
    exact mskip (by omega) (mskip (by omega) (mskip (by omega) (hfr i hi)))
 ·rintro s ⟨q, m', nx', hg, hq, hqn, hrow, hfr⟩
  refine ⟨_, hg, w_seq_region ?_⟩
  refine J12 ?_
  refine ao_ac (k84 hqn hrow rfl hl) rfl (by repeat' (first | exact trivial | exact rfl | refine And.intro ?_ ?_)) fun d m2 nx2 hp => ?_
  obtain ⟨rfl, rfl, rfl⟩ := hp
  refine er ?_;refine J12 ?_;refine J18 ?_
  exact ao_end (q_ret1 rfl ⟨q, rfl, hq, hqn, up_same _ _ _, fun i hi => (up_ne _ _ (by omega)).trans (hfr i hi)⟩)
end Go.Proofs.Tryz.K
end
section
namespace Go.Argus
open Go Go.Abs
open Go.Proofs.Tryz.K (nextR lg_ok beh_in ord_in)
def keysC (l : List (Int × Int)) : List Int := l.map (·.1)
theorem lkC_none {a : Int} : ∀ {l : List (Int × Int)}, lkC a l = none ↔ ¬ a ∈ keysC l
 | [] => by simp [lkC, keysC]
 | (k, v) :: l => by
  have ih := lkC_none (a := a) (l := l)
  unfold keysC at ih ⊢
  simp only [lkC, List.map_cons, List.mem_cons, not_or]
  by_cases h : k = a
  ·subst h; simp
  ·rw [if_neg h, ih]
   exact ⟨fun h' => ⟨fun e => h e.symm, h'⟩, fun h' => h'.2⟩
theorem lkC_app {a c v x : Int} : ∀ {l : List (Int × Int)}, lkC a l = some x -> lkC a (l ++ [(c, v)]) = some x
 | [], h => by simp [lkC] at h
 | (k, w) :: l, h => by
  simp only [lkC, List.cons_append] at h ⊢
  split
  ·rename_i e; rw [if_pos e] at h; exact h
  ·rename_i e; rw [if_neg e] at h; exact lkC_app h
theorem lkC_new {c v : Int} : ∀ {l : List (Int × Int)}, lkC c l = none -> lkC c (l ++ [(c, v)]) = some v
 | [], _ => by simp [lkC]
 | (k, w) :: l, h => by
  simp only [lkC, List.cons_append] at h ⊢
  split
  ·rename_i e; rw [if_pos e] at h; cases h
  ·rename_i e; rw [if_neg e] at h; exact lkC_new h
theorem ChainC.app {l : List (Int × Int)} {b c v : Int} {p : List Int} (h : ChainC l b p) : ChainC (l ++ [(c, v)]) b p := by
 induction h with
 | nil => exact .nil
 | cons h1 h2 _ ih => exact .cons h1 (lkC_app h2) ih
theorem nodup_len : ∀ {n : Nat} {l : List Int}, l.Nodup -> (∀ x ∈ l, 0 <= x /\ x.toNat < n) -> l.length <= n
 | 0, l, _, h => by
  cases l with
  | nil => simp
  | cons a l => have := h a (by simp); omega
 | n + 1, l, hd, h => by
  by_cases hm : (n : Int) ∈ l
  ·have h1 := nodup_len (n := n) (l := l.erase n) (hd.erase _) fun x hx => by
    have hx' := (hd.mem_erase_iff).1 hx
    have := h x hx'.2
    have := hx'.1
    omega
   rw [List.length_erase_of_mem hm] at h1
   omega
  ·have h1 := nodup_len (n := n) (l := l) hd fun x hx => by
    have := h x hx
    have : x ≠ n := fun e => hm (e ▸ hx)
    omega
   omega
structure BF (f : Flow) (r b0 : Int) (came : List (Int × Int)) (op : List Int) : Prop where
 rng : ∀ c ∈ keysC came, 0 <= c /\ c.toNat < f.blocks.length
 nd : (keysC came).Nodup
 ch : ∀ c ∈ keysC came, ∃ p : List Int, ChainC came c p /\ p.length <= came.length /\ GP (begF f) (fateG f r) (entG f r) b0 p.reverse c
 qu : ∀ c ∈ op, c ∈ keysC came
 done : ∀ c ∈ keysC came, c ∈ op \/ (fateG f r c.toNat true ≠ 1 /\ (fateG f r c.toNat true = 0 -> ∀ d ∈ begF f c.toNat, entG f r c.toNat d.toNat ≠ 1 /\ (entG f r c.toNat d.toNat = 0 -> d ∈ keysC came)))
 b0m : b0 ∈ keysC came
theorem keysC_app (l : List (Int × Int)) (c v : Int) : keysC (l ++ [(c, v)]) = keysC l ++ [c] := by simp [keysC]
theorem BF.len {f : Flow} {r b0 : Int} {came : List (Int × Int)} {op : List Int} (h : BF f r b0 came op) : came.length <= f.blocks.length := by
 have := nodup_len h.nd h.rng
 simpa [keysC] using this
theorem BF.init {f : Flow} {r b0 : Int} (h0 : 0 <= b0 /\ b0.toNat < f.blocks.length) : BF f r b0 [(b0, -1)] [b0] := by
 refine ⟨fun c hc => ?_, by simp [keysC], fun c hc => ?_, fun c hc => hc, fun c hc => .inl hc, by simp [keysC]⟩
 ·simp [keysC] at hc; subst hc; exact h0
 ·simp [keysC] at hc; subst hc
  exact ⟨[c], .cons (by omega) (by simp [lkC]) .nil, by simp, .one⟩
theorem BF.push {f : Flow} (hf : FlowOk f) {r b0 b c : Int} {came : List (Int × Int)} {op : List Int} (h : BF f r b0 came op) (hb : b ∈ keysC came) (hfa : fateG f r b.toNat true = 0) (hc : c ∈ begF f b.toNat) (he : entG f r b.toNat c.toNat = 0) (hn : lkC c came = none) :
  BF f r b0 (came ++ [(c, b)]) (op ++ [c]) := by
 have hcn : ¬ c ∈ keysC came := lkC_none.1 hn
 have hcr := beh_in hf _ c hc
 have hsub : ∀ x, x ∈ keysC came -> x ∈ keysC (came ++ [(c, b)]) := fun x hx => by rw [keysC_app]; simp [hx]
 refine ⟨fun x hx => ?_, ?_, fun x hx => ?_, fun x hx => ?_, fun x hx => ?_, hsub _ h.b0m⟩
 ·rw [keysC_app, List.mem_append, List.mem_singleton] at hx
  rcases hx with hx | rfl
  ·exact h.rng x hx
  ·exact hcr
 ·rw [keysC_app, List.nodup_append]
  refine ⟨h.nd, by simp, fun a ha b' hb' e => ?_⟩
  simp at hb'
  subst e hb'
  exact hcn ha
 ·rw [keysC_app, List.mem_append, List.mem_singleton] at hx
  rcases hx with hx | rfl
  ·obtain ⟨p, h1, h2, h3⟩ := h.ch x hx
   exact ⟨p, h1.app, by simp; omega, h3⟩
  ·obtain ⟨p, h1, h2, h3⟩ := h.ch b hb
   refine ⟨x :: p, .cons (by omega) (lkC_new hn) h1.app, by simp; omega, ?_⟩
   rw [List.reverse_cons]
   exact .snoc h3 hfa hc he
 ·rw [List.mem_append, List.mem_singleton] at hx
  rcases hx with hx | rfl
  ·exact hsub _ (h.qu x hx)
  ·rw [keysC_app]; simp
 ·rw [keysC_app, List.mem_append, List.mem_singleton] at hx
  rcases hx with hx | rfl
  ·rcases h.done x hx with h1 | ⟨h1, h2⟩
   ·exact .inl (by simp [h1])
   ·exact .inr ⟨h1, fun h0 d hd => ⟨(h2 h0 d hd).1, fun he => hsub _ ((h2 h0 d hd).2 he)⟩⟩
  ·exact .inl (by simp)
theorem BF.pop {f : Flow} {r b0 b : Int} {came : List (Int × Int)} {op : List Int} (h : BF f r b0 came (b :: op)) (hb : fateG f r b.toNat true ≠ 1 /\ (fateG f r b.toNat true = 0 -> ∀ d ∈ begF f b.toNat, entG f r b.toNat d.toNat ≠ 1 /\ (entG f r b.toNat d.toNat = 0 -> d ∈ keysC came))) :
  BF f r b0 came op := by
 refine ⟨h.rng, h.nd, h.ch, fun c hc => h.qu c (by simp [hc]), fun c hc => ?_, h.b0m⟩
 rcases h.done c hc with h1 | h1
 ·rcases List.mem_cons.1 h1 with rfl | h1
  ·exact .inr hb
  ·exact .inl h1
 ·exact .inr h1
theorem BF.none {f : Flow} {r b0 : Int} {came : List (Int × Int)} (h : BF f r b0 came []) : ¬ LvG f r b0.toNat := by
 refine closed_not_lv (V := fun c => (c : Int) ∈ keysC came) (fun b hb => ?_) ?_
 ·rcases h.done b hb with h1 | ⟨h1, h2⟩
  ·simp at h1
  ·simp only [Int.toNat_natCast] at h1 h2
   refine ⟨h1, fun h0 d hd => ⟨(h2 h0 d hd).1, fun he => ?_⟩⟩
   have hm := (h2 h0 d hd).2 he
   have := (h.rng d hm).1
   rwa [Int.toNat_of_nonneg this]
 ·have := (h.rng b0 h.b0m).1
  rw [Int.toNat_of_nonneg this]
  exact h.b0m
def GoodWay (f : Flow) (b r : Int) (way : List Int) : Prop := GoodW (begF f) (fateG f r) (entG f r) way /\ (∃ t, way = b :: t) /\ way.length <= f.blocks.length + 1
theorem BF.found {f : Flow} {r b0 b : Int} {came : List (Int × Int)} {op : List Int} (h : BF f r b0 came op) {p : List Int} (hl : p.length <= came.length) (hg : GP (begF f) (fateG f r) (entG f r) b0 p.reverse b) (hfa : fateG f r b.toNat true = 1) : GoodWay f b0 r p.reverse := by
 refine ⟨?_, ?_, ?_⟩
 ·have := hg.good [] hfa
  rwa [List.append_nil] at this
 ·exact hg.head
 ·have := h.len; simp; omega
theorem BF.found2 {f : Flow} {r b0 b c : Int} {came : List (Int × Int)} {op : List Int} (h : BF f r b0 came op) {p : List Int} (hl : p.length <= came.length) (hg : GP (begF f) (fateG f r) (entG f r) b0 p.reverse b) (hfa : fateG f r b.toNat true = 0) (hc : c ∈ begF f b.toNat) (he : entG f r b.toNat c.toNat = 1) :
  GoodWay f b0 r (p.reverse ++ [c]) := by
 refine ⟨hg.good [c] ⟨hfa, hc, .inl ⟨he, rfl⟩⟩, ?_, ?_⟩
 ·obtain ⟨t, ht⟩ := hg.head
  exact ⟨t ++ [c], by rw [ht]; rfl⟩
 ·have := h.len; simp; omega
end Go.Argus
end
section
open Go Go.Abs Go.Proofs Go.Argus
namespace Go.Abs
section
variable {P : Program} {m : Mem} {nx : Nat}
def PCallP (P : Program) (f : FuncId) (args : List D) (Post : D -> Prop) : Prop :=
 enterOk P f = true /\ (∀ a ∈ args, Tr a) /\ ∀ F w vs, (∀ b, F b -> b < w.heap.size) -> Rs F noRows w args vs ->
  Calls P f vs w fun e w' => ∃ v r, Post r /\ e = .returned v /\ R F noRows w' r v /\ Kept w w'
theorem pcallP_of {fn : Func} (hmix : P.follows .mixedOrders = true) {f : FuncId} {c : Code} (hf : FnOk P f fn c) {args : List D} (hn : Nat.ble args.length fn.ntmps = true) (ht : ∀ a ∈ args, Tr a) {Post : D -> Prop} (hr : ∀ r, Post r -> Tr r)
  (h : AW P noY true c (retQ P fn.results.toList fun d _ => Post d) ⟨envOf args, fun _ => none, 0⟩) : PCallP P f args Post :=
 ⟨hf.he, ht, fun F w vs hF hR => (calls_aw hmix hf.hf hf.hb hf.hlt hn h (fun _ _ _ _ _ h => h.elim) (msim_none hF) (fun _ _ => rfl) hR).mono fun e w' hp => by
  obtain ⟨v, d, st', β', h1, hd, h3, h4, h5, h6, h7, h8⟩ := hp
  exact ⟨v, d, hd, h1, (hr d hd).clean h3, kept_of_step h6⟩⟩
theorem acall_pure {f : FuncId} {args : List D} {Post : D -> Prop} (hc : PCallP P f args Post) : ACalls P f args m nx (fun d m' nx' => Post d /\ m' = m /\ nx' = nx) :=
 ⟨hc.1, fun F β w vs hm hnx hR => (hc.2.2 (owned F β) w vs (fun b hb => owned_lt hm hb) ⟨hR.1, fun k d v hd hv => hc.2.1 d (List.mem_of_getElem? hd) F β w v (hR.2 k d v hd hv)⟩).mono
  fun e w' ⟨v, r, hp, he, hr, hk⟩ => ⟨v, r, m, nx, β, he, ⟨hp, rfl, rfl⟩, hm.kept hk, hnx, hr.lift fun b hb => owned_free hb, kept_step hk, Nat.le_refl _, fun i _ h => h⟩⟩
end
end Go.Abs
namespace Go.Argus
def WitP (f : Flow) (b r : Int) (d : D) : Prop :=
 if checkR f = 0 then
  if (withinR f.blocks.length b = true /\ 0 <= r /\ r < f.regs.length) then
   ((reachR (behF (behR f)) f.blocks.length (-1)).getD b.toNat false = true /\ LvG f r b.toNat /\ ∃ way, d = .tup [encInts way, B true, I 0] /\ GoodWay f b r way) \/
   (¬ ((reachR (behF (behR f)) f.blocks.length (-1)).getD b.toNat false = true /\ LvG f r b.toNat) /\ d = .tup [.z, B false, I 0])
  else d = .tup [.z, B false, I 1]
 else d = .tup [.z, B false, I (checkR f)]
theorem tr_wit {f : Flow} {b r : Int} (d : D) (h : WitP f b r d) : Tr d := by
 unfold WitP at h
 split at h
 ·split at h
  ·rcases h with ⟨_, _, way, rfl, _⟩ | ⟨_, rfl⟩
   ·exact .tup (.cons (tr_ints _) (.cons (.s _) (.cons (.s _) .nil)))
   ·exact .tup (.cons .z (.cons (.s _) (.cons (.s _) .nil)))
  ·subst h; exact .tup (.cons .z (.cons (.s _) (.cons (.s _) .nil)))
 ·subst h; exact .tup (.cons .z (.cons (.s _) (.cons (.s _) .nil)))
end Go.Argus
namespace Go.Proofs.Tryz.K
set_option maxRecDepth 10000
set_option maxHeartbeats 1000000 in
theorem k28_err {f : Flow} {b r : Int} (hck : checkR f ≠ 0) : PCallP Tryz.prog 28 [.agg (encFlow f), I b, I r] (WitP f b r) := by
 have k51 := k51_err hck
 refine pcallP_of mixed ok28 (by rw [nt28]; rfl) (.cons (.agg (trs_flow f)) (.cons (.s _) (.cons (.s _) .nil))) tr_wit ?_
 have hW : ∀ d, d = .tup [.z, B false, I (checkR f)] -> WitP f b r d := fun d hd => by unfold WitP; rw [if_neg hck]; exact hd
 generalize checkR f = e at k51 hck hW
 have kneq : (e != 0) = true := by simpa using hck
 rw [rs28, sk28]
 refine w_seq_region_g ?_
 refine J51 ?_;refine J23 ?_;refine J1 ?_;refine J3 ?_
 refine ao_end (w_ghost (ghost_fr [(0, encFlow f, 26)] ⟨rfl, trivial⟩ (l := [(1, I b), (2, I r), (3, .pt (encFlow f))]) ⟨rfl, rfl, rfl, trivial⟩) (w_seq_region ?_))
 refine J36 ?_;refine cl k51 ?_;refine J33 ?_;refine J153 ?_;refine J40 ?_;refine J90 ?_;refine J3 ?_
 refine ao_end (w_assoc (w_seq_region ?_))
 refine J0 ?_;refine J73 ?_
 refine ao_end (w_seq_if rfl (fun _ => ?_) fun h => (by cases h))
 refine w_assoc (w_seq_region ?_)
 refine J0 ?_;refine J23 ?_;refine J1 ?_;refine J3 ?_
 exact ao_end (w_seq_ret (q_ret3 rfl rfl rfl (hW _ rfl)))
end Go.Proofs.Tryz.K
end
section
open Go Go.Abs Go.Proofs Go.Argus
namespace Go.Abs
theorem j_blkx {id i : Nat} {Q : Exit -> St -> Prop} {s : St} (hne : i ≠ id) (h : Q (.exit i) s) : blockQ id Q (.exit i) s := by simp only [blockQ, if_neg hne]; exact h
end Go.Abs
namespace Go.Proofs.Tryz.K
set_option maxRecDepth 10000
set_option maxHeartbeats 2000000 in
theorem k28_ok {f : Flow} {b r : Int} (hck : checkR f = 0) : PCallP Tryz.prog 28 [.agg (encFlow f), I b, I r] (WitP f b r) := by
 have k51 := k51_ok hck
 have hf : formedB f = true := by
  unfold checkR at hck
  split at hck
  ·assumption
  ·cases hck
 have hok := flowOk hf
 obtain ⟨n, hn⟩ : ∃ n, f.blocks.length = n := ⟨_, rfl⟩
 have hn1 : n <= 1200 := hn ▸ hok.lim
 have hrg := hok.regs
 have hpos := hok.pos
 refine pcallP_of mixed ok28 (by rw [nt28]; rfl) (.cons (.agg (trs_flow f)) (.cons (.s _) (.cons (.s _) .nil))) tr_wit ?_
 have k69 := k69 (f := f) (beh := behR f) (ahd := aheadR f.blocks) (c := encBools (reachR (behF (behR f)) f.blocks.length (-1))) (.sl (.map fun _ => .s _)) rfl (b := b)
 change PCall _ _ [.pt (graphR f), _] _ at k69
 rw [rs28, sk28]
 refine w_seq_region_g ?_
 refine J51 ?_;refine J23 ?_;refine J1 ?_;refine J3 ?_
 refine ao_end (w_ghost (ghost_fr [(0, encFlow f, 26)] ⟨rfl, trivial⟩ (l := [(1, I b), (2, I r), (3, .pt (encFlow f))]) ⟨rfl, rfl, rfl, trivial⟩) (w_seq_region ?_))
 refine J36 ?_;refine cl k51 ?_;refine J33 ?_;refine J154 ?_;refine J40 ?_;refine J126 ?_;refine J3 ?_
 refine ao_end (w_assoc (w_seq_region ?_))
 refine J0 ?_;refine J39 ?_
 refine ao_end (w_seq_if rfl (fun h => (by cases h)) fun _ => w_seq_skip (w_assoc (w_seq_region ?_)))
 refine J30 ?_;refine J0 ?_;refine cl k69 ?_;refine J29 ?_;refine J2 ?_;refine J11 ?_;refine J92 ?_;refine J9 ?_;refine J2 ?_;refine J11 ?_;refine J7 ?_;refine J6 ?_;refine J27 ?_;refine J128 ?_;refine J9 ?_
 refine ao_end (w_seq_if rfl (fun hp => ?_) fun hp => w_seq_skip (w_assoc (w_seq_region ?_)))
 ·refine w_assoc (w_seq_region ?_)
  refine J23 ?_;refine J1 ?_;refine J3 ?_
  refine ao_end (w_seq_ret (q_ret3 rfl rfl rfl ?_))
  unfold WitP
  rw [if_pos hck, if_neg]
  ·rfl
  ·rintro ⟨h1, h2, h3⟩
   rw [h1] at hp
   simp at hp
   omega
 have hin : withinR f.blocks.length b = true /\ 0 <= r /\ r < f.regs.length := by
  revert hp
  cases withinR f.blocks.length b <;> simp <;> omega
 clear hp
 have hb := withinR_iff.1 hin.1
 obtain ⟨bn, rfl⟩ := Int.eq_ofNat_of_zero_le hb.1
 obtain ⟨rn, rfl⟩ := Int.eq_ofNat_of_zero_le hin.2.1
 have hbn : bn < n := by omega
 have k65 := k65 (f := f) (n := n) hok hn (c := encBools (reachR (behF (behR f)) f.blocks.length (-1))) (.sl (.map fun _ => .s _)) rfl
 change PCall _ _ [.pt (graphR f)] _ at k65
 have hlv := live_lv hok rn bn
 have hlg := lg_ok hok
 have hoi := ord_in hok
 have hrl := reach_len (w := -1) (beh_in hok) hpos
 rw [hn] at hlv hlg hoi hrl
 have hI := (live_spec hlg hoi).1
 have hA := hI.ok.inn
 have hAl := hI.ok.ln
 clear hI
 have hW : ∀ d, (((reachR (behF (behR f)) f.blocks.length (-1)).getD bn false = true /\ LvG f rn bn /\ ∃ way, d = .tup [encInts way, B true, I 0] /\ GoodWay f bn rn way) \/
   (¬ ((reachR (behF (behR f)) f.blocks.length (-1)).getD bn false = true /\ LvG f rn bn) /\ d = .tup [.z, B false, I 0])) -> WitP f bn rn d := fun d hd => by
  unfold WitP
  rw [if_pos hck, if_pos hin]
  simpa only [Int.toNat_natCast] using hd
 have hgr : graphR f = encGraph f (behR f) (aheadR f.blocks) (encBools (reachR (behF (behR f)) f.blocks.length (-1))) := rfl
 rw [hn] at hW hgr
 generalize (liveR (lgR f) n (ordL f)).inn = A at *
 generalize (liveR (lgR f) n (ordL f)).out = C at *
 rw [hgr] at k65 k69 ⊢
 generalize reachR (behF (behR f)) n (-1) = cnt at *
 have hjA : bn < A.length := by omega
 have hi1 : A[bn]? = some A[bn] := List.getElem?_eq_getElem hjA
 have hw1 : A[bn].length = 19 := (hA _ (List.getElem_mem hjA)).1
 have hU1 := (hA _ (List.getElem_mem hjA)).2
 have hgA : True -> A.getD bn [] = A[bn] := fun _ => getD_some hi1
 have hws1 : ∀ w ∈ A, w.length = 19 := fun w hw => (hA w hw).1
 have hc1 : cnt[bn]? = some cnt[bn] := List.getElem?_eq_getElem (by omega)
 have hgc : True -> cnt.getD bn false = cnt[bn] := fun _ => getD_some hc1
 rw [hgA trivial] at hlv
 rw [hgc trivial] at hlv hW
 generalize cnt[bn] = cb at *
 generalize A[bn] = w at *
 have k82 := k82 (w := w) (m := rn) hw1 (by omega)
 have hbit := hasW_bit hU1 rn
 rw [<- hbit] at hlv
 clear hbit
 generalize hasW w rn = hw at k82 hlv
 refine J30 ?_;refine cl k65 ?_;refine J33 ?_;refine J72 ?_;refine J72 ?_;refine J44 ?_;refine J44 ?_
 refine ao_end (w_assoc (w_seq_region ?_))
 refine J30 ?_;refine J48 ?_;refine J5 ?_;refine J4 ?_;refine J0 ?_;refine J25 ?_;refine J4 ?_;refine J29 ?_;refine J2 ?_;refine J49 ?_;refine J11 ?_
 refine ao_g rfl rfl (e_idxW rfl rfl V.h V.h (by assumption) (by assumption)) (fun hc => ⟨ak, (p_idxW V.h (by assumption) (by assumption) (by omega))⟩) ?_
 refine ao_g rfl rfl (e_loadA rfl V.h V.h (take_app (by assumption))) (fun hc => ⟨ak, (p_loadA V.h V.h (by simp; omega))⟩) ?_
 refine J11 ?_;refine gc k82 ?_;refine J31 ?_;refine J9 ?_
 refine ao_end (w_seq_if rfl (fun hp => ?_) fun hp => w_seq_skip (w_seq_region_g ?_))
 ·refine w_assoc (w_seq_region ?_)
  refine J23 ?_;refine J1 ?_;refine J3 ?_
  refine ao_end (w_seq_ret (q_ret3 rfl rfl rfl (hW _ (.inr ⟨?_, rfl⟩))))
  rintro ⟨h1, h2⟩
  have := (hlv.2 ⟨h1, h2⟩)
  rw [h1, this] at hp
  simp at hp
 have hcb : cb = true /\ hw = true := by
  revert hp
  cases cb <;> cases hw <;> simp
 obtain ⟨rfl, rfl⟩ := hcb
 have hLv : LvG f rn bn := (hlv.1 rfl).2
 have hW : ∀ way, GoodWay f bn rn way -> WitP f bn rn (.tup [encInts way, B true, I 0]) := fun way hg => hW _ (.inl ⟨rfl, hLv, way, rfl, hg⟩)
 clear hlv hp k82 k65 hi1 hw1 hU1 hgA hgc hc1 hjA hA hAl hws1 k69 k51
 refine J107 ?_;refine J0 ?_;refine J34 ?_;refine J79 ?_;refine J22 ?_
 refine ao_w (e_store1 (d := .mp _) (cs' := [_]) rfl rfl rfl rfl rfl) ak (p_store V.h V.h (by first | (simp; done) | exact ⟨rfl, Nat.le_of_ble_eq_true rfl⟩ | (simp; omega)) rfl) ?_
 have hput : putD (.int .i64 (bn : Int)) (I (-1)) (cm []) = cm [((bn : Int), -1)] := put_cm rfl
 refine ao_end (w_ghost (ghost_st (l := [(1, I bn), (2, I rn), (9, .pt (encGraph f (behR f) (aheadR f.blocks) (encBools cnt))), (13, .rp 2 0)]) (ml := [(1, .map (cm [((bn : Int), -1)])), (2, .cells [.mp 1] 120)]) ⟨rfl, rfl, rfl, rfl, trivial⟩ ⟨?_, rfl, trivial⟩) (w_seq_region ?_))
 ·rw [<- hput]; rfl
 refine J63 ?_;refine J136 ?_
 refine ao_end (w_assoc (w_seq_region_g ?_))
 refine J0 ?_;refine J35 ?_;refine J18 ?_
 have hbi := beh_in hok
 have hBF0 : BF f rn bn [((bn : Int), -1)] [(bn : Int)] := BF.init ⟨by omega, by simp; omega⟩
 refine ao_end (w_then (fun s => False) (w_for (α := List (Int × Int) × List Int × Nat × Nat × Mem × Nat) (fun s => ⟨envL [(2, I rn), (9, .pt (encGraph f (behR f) (aheadR f.blocks) (encBools cnt))), (13, .rp 2 0), (14, .fn (.func 83) [] [.rp 2 0]), (15, .rs s.2.2.1 s.2.2.2.1 s.2.1.length)], s.2.2.2.2.1, s.2.2.2.2.2⟩)
  (fun s => BF f rn bn s.1 s.2.1 /\ s.2.1.length <= s.1.length /\ 3 <= s.2.2.1 /\ s.2.2.1 < s.2.2.2.2.2 /\ s.2.2.2.2.1 1 = some (.map (cm s.1)) /\ s.2.2.2.2.1 2 = some (.cells [.mp 1] 120) /\ ∃ cs, s.2.2.2.2.1 s.2.2.1 = some (.cells cs 3) /\ cs.drop s.2.2.2.1 = s.2.1.map I) (fun s => 2 * (n - s.1.length) + s.2.1.length)
  ([((bn : Int), -1)], [(bn : Int)], 3, 0, memL [(1, .map (cm [((bn : Int), -1)])), (2, .cells [.mp 1] 120), (3, .cells [I bn] 3)], 4)
  (ghost_st ⟨rfl, rfl, rfl, rfl, rfl, trivial⟩ ⟨rfl, rfl, rfl, trivial⟩) ⟨hBF0, Nat.le_refl _, Nat.le_refl _, Nat.lt_succ_self _, rfl, rfl, _, rfl, rfl⟩ ?_) ?_)
 ·rintro ⟨came, op, q, off, m, nx⟩ ⟨hBF, hol, hq3, hqn, m1, m2, cs, mq, hcs⟩
  dsimp only at hBF hol hq3 hqn m1 m2 mq hcs ⊢
  have hcl := hBF.len
  have hrow := m2
  have hrow2 := mq
  refine J12 ?_
  refine ao_p (e_lenR rfl hrow2) ak V.h ?_
  refine J103 ?_
  refine ao_end ⟨_, rfl, fun h => ?_, fun h => ?_⟩
  ·cases op with
   | nil => simp at h
   | cons b op =>
    have hbk := hBF.qu b (by simp)
    have hbr := hBF.rng b hbk
    obtain ⟨bb, rfl⟩ := Int.eq_ofNat_of_zero_le hbr.1
    have hbb : bb < n := by rw [<- hn]; exact hbr.2
    have hx : f.blocks[bb]? = some f.blocks[bb] := List.getElem?_eq_getElem (by omega)
    have hxm : f.blocks[bb] ∈ f.blocks := List.getElem_mem _
    generalize f.blocks[bb] = x at hx hxm
    have hft : fateG f rn bb true = fateR x rn true := by unfold fateG; rw [blkF_get hx]
    have kd : cs.drop off = I bb :: op.map I := hcs
    have hln1 : ((bb : Int) :: op).length = op.length + 1 := rfl
    have hxb := hok.blk x hxm
    have k72 := k72 (f := f) (beh := behR f) (ahd := aheadR f.blocks) (c := encBools cnt) (.sl (.map fun _ => .s _)) rfl (b := (bb : Int)) (r := (rn : Int)) (p := true) (k := bb) rfl hx hxb.len (fun y hy => (hxb.ins y hy).ar) hxb.fin.a1 hxb.fin.a2
    rw [<- hft] at k72
    obtain ⟨p, hch, hpl, hgp⟩ := hBF.ch _ hbk
    refine ws ?_;refine J12 ?_
    refine ao_p (e_idxR rfl rfl hrow2 V.h V.h) ak ⟨V.h, by omega, by omega⟩ ?_
    refine J122 ?_;refine J3 ?_
    refine ao_end (w_assoc (w_seq_region ?_))
    refine J30 ?_;refine J0 ?_;refine J0 ?_;refine cl k72 ?_
    refine ao_end (w_seq_blk (w_seq_region ?_))
    have f3 := fateR_3 (blkF f bb) rn true
    change fateG f rn bb true = 0 \/ fateG f rn bb true = 1 \/ fateG f rn bb true = 2 at f3
    obtain ⟨fa, hfa⟩ : ∃ fa, fateG f rn bb true = fa := ⟨_, rfl⟩
    rw [hfa] at f3
    refine J8 ?_;refine J1 ?_
    refine ao_end (w_if rfl (fun hp => w_seq_region_g ?_) fun hp => w_seq_region ?_)
    ·have hp : fateG f rn bb true = 1 := by simpa using hp
     have hp2 := hBF.found hpl hgp (by rw [Int.toNat_natCast]; exact hp)
     refine J38 ?_;refine J0 ?_
     refine ao_ac (k83 (r := 2) (mi := 1) (l := came) (p := p) (by omega) (by omega) m2 m1 hch (by omega)) rfl (by repeat' (first | exact trivial | exact rfl | refine And.intro ?_ ?_)) fun d m' nx' hq => ?_
     obtain ⟨q', rfl, hq1, hq2, hq4, _⟩ := hq
     refine J18 ?_;refine J1 ?_;refine J3 ?_
     refine ao_end (w_ghost (ghost_fz hq4 (l := [(6, encInts p.reverse), (7, B true), (8, I 0)]) ⟨?_, rfl, rfl, trivial⟩) (w_ret (j_block (j_seq (j_body (j_seq (q_ret3 rfl rfl rfl (hW _ hp2))))))))
     exact (sub_rs_eq (by rw [c3]; simp)).trans (by simp)
    ·have hp1 : ¬ fateG f rn bb true = 1 := by simpa using hp
     refine J8 ?_;refine J1 ?_
     refine ao_end (w_if rfl (fun hp => w_exit (j_blkx (by decide) (j_seqx (j_next ?_)))) fun hp => w_endB (w_seq_region_g ?_))
     ·have hp : fateG f rn bb true = 2 := by simpa using hp
      have hpop := hBF.pop ⟨by rw [Int.toNat_natCast]; omega, fun h => by rw [Int.toNat_natCast] at h; omega⟩
      refine J12 ?_
      refine ao_p (e_sliceR rfl hrow2 V.h V.h rfl rfl) ak ⟨⟨V.h, rfl⟩, by omega, by omega, by omega⟩ ?_
      refine J18 ?_
      refine ao_end (next_of (came, op, q, off + 1, m, nx) (ghost_of ⟨rfl, rfl, rfl, rfl, ?_, trivial⟩) ⟨hpop, by dsimp only; omega, hq3, hqn, m1, m2, cs, mq, ?_⟩ (by dsimp only; omega))
      ·show D.rs q (off + 1 * 1) _ = D.rs q (off + 1) op.length
       congr 1
       rw [hln1]; omega
      ·rw [<- List.drop_drop, kd]; rfl
     ·have hp : ¬ fateG f rn bb true = 2 := by simpa using hp
      have h0 : fateG f rn bb true = 0 := by rw [<- hfa] at f3; omega
      have hgb := behR_get hx
      have hbxl := hbi bb
      have hlbl := beh_len hok bb
      have hbg : (behR f)[bb]? = some (behF (behR f) bb) := behF_get (by simp [behR]; omega)
      have hbgf : begF f bb = behF (behR f) bb := rfl
      generalize hl0 : behF (behR f) bb = l at hbg hlbl hbxl hgb hbgf
      refine J30 ?_;refine J48 ?_;refine J5 ?_;refine J4 ?_;refine J0 ?_;refine J25 ?_;refine J4 ?_;refine J14 ?_;refine J0 ?_
      refine ao_end (w_range (α := Nat × List (Int × Int) × List Int × Nat × Nat × Mem × Nat)
       (fun s => ⟨envL [(2, I rn), (9, .pt (encGraph f (behR f) (aheadR f.blocks) (encBools cnt))), (13, .rp 2 0), (14, .fn (.func 83) [] [.rp 2 0]), (15, .rs s.2.2.2.1 s.2.2.2.2.1 (s.2.2.1.length + 1)), (16, I bb), (97, encInts l), (98, I l.length), (99, I s.1)], s.2.2.2.2.2.1, s.2.2.2.2.2.2⟩)
       (fun s => s.1 <= l.length /\ BF f rn bn s.2.1 ((bb : Int) :: s.2.2.1) /\ s.2.2.1.length + 1 <= s.2.1.length /\ 3 <= s.2.2.2.1 /\ s.2.2.2.1 < s.2.2.2.2.2.2 /\ s.2.2.2.2.2.1 1 = some (.map (cm s.2.1)) /\ s.2.2.2.2.2.1 2 = some (.cells [.mp 1] 120) /\ (∃ cs, s.2.2.2.2.2.1 s.2.2.2.1 = some (.cells cs 3) /\ cs.drop s.2.2.2.2.1 = I bb :: s.2.2.1.map I) /\
        (∀ d ∈ l.take s.1, entG f rn bb d.toNat ≠ 1 /\ (entG f rn bb d.toNat = 0 -> d ∈ keysC s.2.1)) /\ 2 * (n - s.2.1.length) + s.2.2.1.length <= 2 * (n - came.length) + op.length) (fun s => l.length - s.1)
       (0, came, op, q, off, m, nx) (ghost_of ⟨rfl, rfl, rfl, rfl, rfl, rfl, rfl, rfl, rfl, trivial⟩) ⟨Nat.zero_le _, hBF, by simp only; omega, hq3, hqn, m1, m2, ⟨cs, mq, kd⟩, fun d hd => by simp at hd, Nat.le_refl _⟩ ?_)
      clear hBF hol hq3 hqn m1 m2 mq hcs hcl hrow hrow2 kd hbk hch hgp
      rintro ⟨j, came2, op2, q, off, m, nx⟩ ⟨hj, hBF, hol, hq3, hqn, m1, m2, ⟨cs, mq, kd⟩, hdn, hM⟩
      dsimp only at hj hBF hol hq3 hqn m1 m2 mq kd hdn hM ⊢
      have hcl := hBF.len
      have hbk := hBF.qu (bb : Int) (by simp)
      obtain ⟨p, hch, hpl, hgp⟩ := hBF.ch _ hbk
      refine J16 ?_
      refine ao_end ⟨_, rfl, fun h => ?_, fun h => ?_⟩
      ·have hjl : j < l.length := by simpa using h
       have hcx : l[j]? = some l[j] := List.getElem?_eq_getElem hjl
       have hcm := List.getElem_mem hjl
       have htk : ∀ d, d ∈ l.take (j + 1) -> d ∈ l.take j \/ d = l[j] := fun d hd => by
        rw [List.take_add_one, hcx] at hd
        rcases List.mem_append.1 hd with h | h
        ·exact .inl h
        ·exact .inr (by simpa using h)
       generalize l[j] = cc at hcx hcm htk
       have hcb := hbxl cc hcm
       obtain ⟨cn, rfl⟩ := Int.eq_ofNat_of_zero_le hcb.1
       have hcn : cn < n := by rw [<- hn]; exact hcb.2
       have hyx : f.blocks[cn]? = some f.blocks[cn] := List.getElem?_eq_getElem (by omega)
       have hym : f.blocks[cn] ∈ f.blocks := List.getElem_mem _
       generalize f.blocks[cn] = y at hyx hym
       have hma : (bb : Int) ∈ ahdF f cn := mem_aheadL.2 ⟨bb, rfl, by omega, x, hx, (cn : Int), by rw [<- hgb]; exact hcm, by simp⟩
       have hAg : (aheadR f.blocks)[cn]? = some (ahdF f cn) := by
        unfold ahdF
        exact aheadR_get rfl (by omega)
       have hyb := hok.blk y hym
       have k70 := k70 (f := f) (beh := behR f) (ahd := aheadR f.blocks) (c := encBools cnt) (.sl (.map fun _ => .s _)) rfl (a := (bb : Int)) (b := (cn : Int)) (r := (rn : Int)) (ka := bb) (kb := cn) rfl rfl hx hyx hAg hyb.len (fun z hz => (hok.phi2 hyx hz).1) hma (by have := (hok.ends x hxm).wh; omega)
       have hee : entersR x y (ahdF f cn) (bb : Int) (cn : Int) (rn : Int) = entG f rn bb cn := by
        unfold entG
        rw [blkF_get hx, blkF_get hyx]
       rw [hee] at k70
       have e3 := ent_3 x y (ahdF f cn) (bb : Int) (cn : Int) (rn : Int)
       rw [hee] at e3
       clear hee
       refine ws ?_;refine J25 ?_;refine J4 ?_;refine J3 ?_;refine er ?_;refine J30 ?_;refine J0 ?_;refine J0 ?_;refine J0 ?_;refine cl k70 ?_
       refine ao_end (show AW _ _ _ _ _ _ from w_block (w_seq_region ?_))
       obtain ⟨fe, hfe⟩ : ∃ fe, entG f rn bb cn = fe := ⟨_, rfl⟩
       rw [hfe] at e3
       refine J8 ?_;refine J1 ?_
       refine ao_end (w_if rfl (fun hp => w_seq_region_g ?_) fun hp => w_seq_region ?_)
       ·have hp : entG f rn bb cn = 1 := by simpa using hp
        have hp2 := hBF.found2 hpl hgp (by rw [Int.toNat_natCast]; exact h0) (by rw [Int.toNat_natCast, hbgf]; exact hcm) (by rw [Int.toNat_natCast, Int.toNat_natCast]; exact hp)
        refine J38 ?_;refine J0 ?_
        refine ao_ac (k83 (r := 2) (mi := 1) (l := came2) (p := p) (by omega) (by omega) m2 m1 hch (by omega)) rfl (by repeat' (first | exact trivial | exact rfl | refine And.intro ?_ ?_)) fun d m' nx' hq => ?_
        obtain ⟨q', rfl, hq1, hq2, hq4, _⟩ := hq
        have hrow := hq4
        show AOps _ _ _ _ _ _ _ ⟨up _ 112 _, m', nx'⟩ _
        have hlk : (p.reverse.map I).length = p.length := by simp
        refine J0 ?_;refine J35 ?_;refine J101 ?_;refine J18 ?_;refine J1 ?_;refine J3 ?_
        refine ao_end (w_ghost (ghost_fz (cs := p.reverse.map I ++ [I cn]) (e := 3) (i := nx' + 1) (up_same _ _ _) (l := [(6, encInts (p.reverse ++ [(cn : Int)])), (7, B true), (8, I 0)]) ⟨?_, rfl, rfl, trivial⟩) (w_ret (j_block (j_body (j_body (j_seq (q_ret3 rfl rfl rfl (hW _ hp2))))))))
        exact (sub_rs_eq (by rw [c3]; simp)).trans (by simp)
       ·have hp1 : ¬ entG f rn bb cn = 1 := by simpa using hp
        refine J8 ?_;refine J1 ?_
        refine ao_end (w_if rfl (fun hp => w_seq_region ?_) fun hp => ?_)
        ·have he0 : entG f rn bb cn = 0 := by simpa using hp
         have hrow := m2
         refine J47 ?_;refine J0 ?_
         refine ao_p (e_lookup rfl m1 rfl mk120 (got_cm2 zk120 _ _)) (by repeat' (first | exact trivial | exact rfl | refine And.intro ?_ ?_)) ⟨mt120, key_op uk3 _, keys_cm uk3 _⟩ ?_
         refine J33 ?_;refine J40 ?_;refine J52 ?_;refine J3 ?_;refine J1 ?_;refine er ?_;refine J2 ?_;refine J29 ?_
         refine ao_end (w_if rfl (fun hs => w_seq_region ?_) fun hs => ?_)
         ·have hnone : lkC (cn : Int) came2 = none := by
           cases e : lkC (cn : Int) came2 with
           | none => rfl
           | some v => rw [e] at hs; simp at hs
          have hpush := hBF.push hok hbk (by rw [Int.toNat_natCast]; exact h0) (by rw [Int.toNat_natCast, hbgf]; exact hcm) (by rw [Int.toNat_natCast, Int.toNat_natCast]; exact he0) hnone
          have hput := put_cm (v := (bb : Int)) hnone
          have hcl2 := hpush.len
          rw [List.length_append, List.length_singleton] at hcl2
          refine J47 ?_;refine J0 ?_;refine J0 ?_
          refine ao_w (e_mput rfl m1 rfl rfl mk120) (by repeat' (first | exact trivial | exact rfl | refine And.intro ?_ ?_)) ⟨mt120, key_op uk3 _, keys_cm uk3 _⟩ ?_
          refine ao_end (w_regE ?_)
          have hrow := mq
          have hop1 : op2.length <= 1200 := by omega
          have hlk : cs.length = off + (op2.length + 1) := by have := congrArg List.length kd; simp at this; omega
          refine J12 ?_;refine J0 ?_;refine J35 ?_
          refine ao_m (e_appR rfl (mskip (by omega) (mskip (by omega) hrow)) rfl V.h V.h (cells_rs (up_same _ _ _) rfl) rfl) ak ⟨V.h, rfl, (by first | omega | exact Nat.le_of_ble_eq_true rfl | (simp; done) | (simp; omega)), (by decide), (by first | rfl | (simp; done) | (simp; omega)), (by unfold maxLen; first | omega | (simp; omega)), (by rw [b3]; first | omega | (simp; omega)), (by first | (simp; done) | (simp; omega))⟩ ?_
          refine J18 ?_
          refine ao_end ?_
          show AOps _ _ _ _ _ _ _ _ _
          refine J10 ?_;refine J0 ?_
          refine ao_end (next_of (j + 1, came2 ++ [((cn : Int), (bb : Int))], op2 ++ [(cn : Int)], nx + 1, 0, _, nx + 2) (ghost_of ⟨rfl, rfl, rfl, rfl, ?_, rfl, rfl, rfl, rfl, trivial⟩) ⟨by dsimp only; omega, hpush, by simp only [List.length_append, List.length_singleton]; omega, by dsimp only; omega, by dsimp only; omega, ?_, ?_, ⟨_, up_same _ _ _, ?_⟩, fun d hd => ?_, by simp only [List.length_append, List.length_singleton]; omega⟩ (by dsimp only; omega))
          ·show D.rs _ 0 _ = D.rs _ 0 _
           simp
          ·dsimp only
           rw [<- hput]
           exact mskip (by omega) (mskip (by omega) (mskip (by omega) (up_same _ _ _)))
          ·dsimp only
           exact mskip (by omega) (mskip (by omega) (mskip (by omega) (mskip (by omega) m2)))
          ·dsimp only
           rw [List.drop_zero, kd, List.map_append]; rfl
          ·rw [keysC_app]
           rcases htk d hd with h | h
           ·exact ⟨(hdn d h).1, fun he => List.mem_append_left _ ((hdn d h).2 he)⟩
           ·subst h
            exact ⟨by rw [Int.toNat_natCast]; omega, fun _ => by simp⟩
         ·have hin : (cn : Int) ∈ keysC came2 := by
           apply Classical.byContradiction
           intro hc
           rw [lkC_none.2 hc] at hs
           simp at hs
          refine w_end ?_
          show AOps _ _ _ _ _ _ _ _ _
          refine J10 ?_;refine J0 ?_
          refine ao_end (next_of (j + 1, came2, op2, q, off, m, nx) (ghost_of ⟨rfl, rfl, rfl, rfl, rfl, rfl, rfl, rfl, rfl, trivial⟩) ⟨by dsimp only; omega, hBF, hol, hq3, hqn, m1, m2, ⟨cs, mq, kd⟩, fun d hd => ?_, hM⟩ (by dsimp only; omega))
          rcases htk d hd with h | h
          ·exact hdn d h
          ·subst h
           exact ⟨by rw [Int.toNat_natCast]; omega, fun _ => hin⟩
        ·have he0 : ¬ entG f rn bb cn = 0 := by simpa using hp
         refine w_end ?_
         show AOps _ _ _ _ _ _ _ _ _
         refine J10 ?_;refine J0 ?_
         refine ao_end (next_of (j + 1, came2, op2, q, off, m, nx) (ghost_of ⟨rfl, rfl, rfl, rfl, rfl, rfl, rfl, rfl, rfl, trivial⟩) ⟨by dsimp only; omega, hBF, hol, hq3, hqn, m1, m2, ⟨cs, mq, kd⟩, fun d hd => ?_, hM⟩ (by dsimp only; omega))
         rcases htk d hd with h | h
         ·exact hdn d h
         ·subst h
          exact ⟨by rw [Int.toNat_natCast]; exact hp1, fun he => absurd (by rw [Int.toNat_natCast] at he; exact he) he0⟩
      ·have hge : ¬ j < l.length := by simpa using h
       rw [List.take_of_length_le (by omega)] at hdn
       have hpop := hBF.pop ⟨by rw [Int.toNat_natCast, h0]; omega, fun _ => by rw [Int.toNat_natCast, hbgf]; exact hdn⟩
       have hrow := mq
       show AOps _ _ _ _ _ _ _ _ _
       refine J12 ?_
       refine ao_p (e_sliceR rfl hrow V.h V.h rfl rfl) ak ⟨⟨V.h, rfl⟩, by omega, by omega, by omega⟩ ?_
       refine J18 ?_
       refine ao_end (next_of (came2, op2, q, off + 1, m, nx) (ghost_of ⟨rfl, rfl, rfl, rfl, ?_, trivial⟩) ⟨hpop, by dsimp only; omega, hq3, hqn, m1, m2, cs, mq, ?_⟩ (by dsimp only; omega))
       ·show D.rs q (off + 1 * 1) _ = D.rs q (off + 1) op2.length
        congr 1
        omega
       ·rw [<- List.drop_drop, kd]; rfl
  ·have : op = [] := by
    cases op with
    | nil => rfl
    | cons b op => simp at h
   subst this
   have := hBF.none
   rw [Int.toNat_natCast] at this
   exact absurd hLv this
 ·intro s hs
  exact hs.elim
end Go.Proofs.Tryz.K
end
