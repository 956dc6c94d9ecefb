/- DomReads: for every flow, block, register and list of numbers the law answers true, and each argument reads as before. No condition. -/
import Derived.Test.YtonoegleildfnaaGreatReads5
import Derived.Test.YtonoegleildfnaaGreatRows
section
open Go Go.Abs Go.Proofs Go.Argus
namespace Go.Argus
def cwOk1 (f : Flow) (way : List Int) (i : Nat) : Bool :=
 withinR f.blocks.length (way.getD i 0) && ((reachR (behF (behR f)) f.blocks.length (-1)).getD (way.getD i 0).toNat false && (i == 0 || hasI (begF f (way.getD (i - 1) 0).toNat) (way.getD i 0)))
def cwAll (f : Flow) (way : List Int) : Bool := (List.range way.length).all (cwOk1 f way)
def cwF (f : Flow) (r : Int) (prev : Option Int) (way : List Int) : Bool := cwGo (fateG f r) (entG f r) (fun b => phiW (blkF f b) r) (fun b p => (blkF f b).ins.any (insideB r p)) prev way
def cwStep (fa : Int) (wi : Bool) (t : List Int) (go : Bool) : Bool := if fa = 2 then false else if fa = 1 then (if t = [] then true else if wi = true then false else go) else (if t = [] then false else go)
def wIn (f : Flow) (r : Int) (b : Nat) (p : Bool) : Bool := (blkF f b).ins.any (insideB r p)
theorem cwF_none (f : Flow) (r b : Int) (t : List Int) : cwF f r none (b :: t) = cwStep (fateG f r b.toNat true) (wIn f r b.toNat true) t (cwF f r (some b) t) := by
 unfold cwF
 rw [cwGo]
 rfl
theorem cwF_some (f : Flow) (r a b : Int) (t : List Int) : cwF f r (some a) (b :: t) = if entG f r a.toNat b.toNat = 1 /\ t = [] then true else if entG f r a.toNat b.toNat = 2 \/ (entG f r a.toNat b.toNat = 1 /\ phiW (blkF f b.toNat) r = true) then false else cwStep (fateG f r b.toNat false) (wIn f r b.toNat false) t (cwF f r (some b) t) := by
 unfold cwF
 rw [cwGo]
 rfl
def prevW (way : List Int) : Nat -> Option Int
 | 0 => none
 | k + 1 => some (way.getD k 0)
def argsOk (f : Flow) (b r : Int) : Prop := withinR f.blocks.length b = true /\ 0 <= r /\ r < f.regs.length
instance (f : Flow) (b r : Int) : Decidable (argsOk f b r) := by unfold argsOk; infer_instance
def cwB (f : Flow) (b r : Int) (way : List Int) : Bool := if way.length = 0 \/ 1200 < way.length \/ way.getD 0 0 ≠ b then false else cwAll f way && cwF f r none way
def cwD (f : Flow) (b r : Int) (way : List Int) : D := if checkR f = 0 then (if argsOk f b r then .tup [B (cwB f b r way), I 0] else .tup [B false, I 1]) else .tup [B false, I (checkR f)]
theorem tr_cw (f : Flow) (b r : Int) (way : List Int) : Tr (cwD f b r way) := by
 unfold cwD
 split
 ·split <;> exact .tup (.cons (.s _) (.cons (.s _) .nil))
 ·exact .tup (.cons (.s _) (.cons (.s _) .nil))
end Go.Argus
namespace Go.Proofs.Tryz.K
set_option maxRecDepth 10000
theorem k26_err {f : Flow} {b r : Int} {way : List Int} (hck : checkR f ≠ 0) : PCall Tryz.prog 26 [.agg (encFlow f), I b, I r, encInts way] (cwD f b r way) := by
 have k51 := k51_err hck
 refine pcall_of mixed ok26 (by rw [nt26]; rfl) (.cons (.agg (trs_flow f)) (.cons (.s _) (.cons (.s _) (.cons (tr_ints _) .nil)))) (tr_cw f b r way) ?_
 rw [cwD, if_neg hck]
 generalize checkR f = e at k51 hck
 have kneq : (e != 0) = true := by simpa using hck
 rw [rs26, sk26]
 refine w_seq_region_g ?_
 refine J51 ?_;refine J1 ?_;refine J3 ?_
 refine ao_end (w_ghost (ghost_fr [(0, encFlow f, 26)] ⟨rfl, trivial⟩ (l := [(1, I b), (2, I r), (3, encInts way), (4, .pt (encFlow f))]) ⟨rfl, rfl, rfl, rfl, trivial⟩) (w_seq_region ?_))
 refine J36 ?_;refine cl k51 ?_;refine J33 ?_;refine J153 ?_;refine J40 ?_;refine J90 ?_;refine J3 ?_
 refine ao_end (w_assoc (w_seq_region ?_))
 refine J0 ?_;refine J73 ?_
 refine ao_end (w_seq_if rfl (fun _ => ?_) fun h => (by cases h))
 refine w_assoc (w_seq_region ?_)
 refine J0 ?_;refine J1 ?_;refine J3 ?_
 exact ao_end (w_seq_ret (q_ret2 rfl rfl rfl))
set_option maxHeartbeats 2000000 in
theorem k26_ok {f : Flow} {b r : Int} {way : List Int} (hck : checkR f = 0) : PCall Tryz.prog 26 [.agg (encFlow f), I b, I r, encInts way] (cwD f b r way) := by
 have k51 := k51_ok hck
 have hf : formedB f = true := by
  unfold checkR at hck
  split at hck
  ·assumption
  ·cases hck
 have hok := flowOk hf
 obtain ⟨n, hn⟩ : ∃ n, f.blocks.length = n := ⟨_, rfl⟩
 have hn1 : n <= 1200 := hn ▸ hok.lim
 have hrg := hok.regs
 have hpos := hok.pos
 have htr : ∀ a ∈ [D.agg (encFlow f), I b, I r, encInts way], Tr a := .cons (.agg (trs_flow f)) (.cons (.s _) (.cons (.s _) (.cons (tr_ints _) .nil)))
 refine pcall_real ok26.he htr fun hreal => ?_
 have hll := (hreal (encInts way) (by simp)).sl.1
 unfold maxLen at hll
 refine pcall_of mixed ok26 (by rw [nt26]; rfl) htr (tr_cw f b r way) ?_
 rw [cwD, if_pos hck]
 have k69g : ∀ b, PCall Tryz.prog 69 [.pt (graphR f), I b] (B (withinR f.blocks.length b)) := fun b => k69 (f := f) (beh := behR f) (ahd := aheadR f.blocks) (c := encBools (reachR (behF (behR f)) f.blocks.length (-1))) (.sl (.map fun _ => .s _)) rfl (b := b)
 rw [rs26, sk26]
 refine w_seq_region_g ?_
 refine J51 ?_;refine J1 ?_;refine J3 ?_
 refine ao_end (w_ghost (ghost_fr [(0, encFlow f, 26)] ⟨rfl, trivial⟩ (l := [(1, I b), (2, I r), (3, encInts way), (4, .pt (encFlow f))]) ⟨rfl, rfl, rfl, rfl, trivial⟩) (w_seq_region ?_))
 refine J36 ?_;refine cl k51 ?_;refine J33 ?_;refine J154 ?_;refine J40 ?_;refine J126 ?_;refine J3 ?_
 refine ao_end (w_assoc (w_seq_region ?_))
 refine J0 ?_;refine J39 ?_
 refine ao_end (w_seq_if rfl (fun h => (by cases h)) fun _ => w_seq_skip (w_assoc (w_seq_region ?_)))
 have k69 := k69g b
 refine J30 ?_;refine J0 ?_;refine cl k69 ?_;refine J29 ?_;refine J2 ?_;refine J11 ?_;refine J92 ?_;refine J9 ?_;refine J2 ?_;refine J11 ?_;refine J7 ?_;refine J6 ?_;refine J27 ?_;refine J128 ?_;refine J9 ?_
 refine ao_end (w_seq_if rfl (fun hp => ?_) fun hp => w_seq_skip (w_assoc (w_seq_region_g ?_)))
 ·refine w_assoc (w_seq_region ?_)
  refine J1 ?_;refine J3 ?_
  refine ao_end (w_seq_ret (q_ret2 rfl rfl ?_))
  have hne : ¬ argsOk f b r := by
   rintro ⟨h1, h2, h3⟩
   rw [h1] at hp
   simp at hp
   omega
  rw [if_neg hne]
  rfl
 have hin : argsOk f b r := by
  unfold argsOk
  revert hp
  cases withinR f.blocks.length b <;> simp <;> omega
 clear hp k69
 rw [if_pos hin]
 by_cases hz : way.length = 0
 ·have hw0 : way = [] := List.length_eq_zero_iff.1 hz
  subst hw0
  refine J17 ?_;refine J14 ?_;refine J8 ?_;refine J2 ?_;refine z fun _ _ => ?_;refine z fun _ _ => ?_;refine z fun _ _ => ?_;refine J21 ?_;refine J2 ?_;refine z fun _ _ => ?_;refine z fun _ _ => ?_;refine z fun _ _ => ?_;refine z fun _ _ => ?_;refine z fun _ _ => ?_;refine J21 ?_
  refine ao_end ⟨_, .refl _, w_seq_if rfl (fun _ => ?_) fun h => (by cases h)⟩
  refine w_assoc (w_seq_region ?_)
  refine J1 ?_;refine J3 ?_
  refine ao_end (w_seq_ret (q_ret2 rfl rfl ?_))
  rfl
 have keql : ((way.length : Int) == 0) = false := by rw [ib]; exact decide_eq_false (by omega)
 by_cases hl : 1200 < way.length
 ·have kgtr : decide ((1200 : Int) < (way.length : Int)) = true := by simp; omega
  refine J17 ?_;refine J14 ?_;refine J53 ?_;refine J2 ?_;refine J49 ?_;refine J27 ?_;refine J80 ?_;refine J15 ?_;refine J2 ?_;refine J49 ?_;refine z fun _ _ => ?_;refine z fun _ _ => ?_;refine J11 ?_;refine z fun _ _ => ?_;refine J21 ?_
  refine ao_end ⟨_, .refl _, w_seq_if rfl (fun _ => ?_) fun h => (by cases h)⟩
  refine w_assoc (w_seq_region ?_)
  refine J1 ?_;refine J3 ?_
  refine ao_end (w_seq_ret (q_ret2 rfl rfl ?_))
  have e : cwB f b r way = false := by rw [cwB, if_pos (.inr (.inl hl))]
  rw [e]
  rfl
 have kgtr : decide ((1200 : Int) < (way.length : Int)) = false := by simp; omega
 have hx0 : way[0]? = some (way.getD 0 0) := by rw [List.getD_eq_getElem?_getD, List.getElem?_eq_getElem (by omega)]; rfl
 by_cases hb0 : way.getD 0 0 ≠ b
 ·have e : cwB f b r way = false := by rw [cwB, if_pos (.inr (.inr hb0))]
  rw [e]
  clear e
  generalize way.getD 0 0 = b0 at hx0 hb0
  refine J17 ?_;refine J14 ?_;refine J53 ?_;refine J2 ?_;refine J49 ?_;refine J27 ?_;refine J80 ?_;refine J15 ?_;refine J2 ?_;refine J49 ?_;refine J67 ?_;refine J6 ?_;refine J11 ?_;refine J58 ?_;refine J15 ?_
  refine ao_end ⟨_, .refl _, w_seq_if rfl (fun _ => ?_) fun h => absurd h (by simpa using hb0)⟩
  refine w_assoc (w_seq_region ?_)
  refine J1 ?_;refine J3 ?_
  refine ao_end (w_seq_ret (q_ret2 rfl rfl rfl))
 have hb0 : way.getD 0 0 = b := Classical.byContradiction hb0
 have hcw : cwB f b r way = (cwAll f way && cwF f r none way) := by
  rw [cwB, if_neg]
  rintro (h | h | h)
  ·exact hz h
  ·exact hl h
  ·exact h hb0
 rw [hb0] at hx0
 have kneq : (b != b) = false := by simp
 refine J17 ?_;refine J14 ?_;refine J53 ?_;refine J2 ?_;refine J49 ?_;refine J27 ?_;refine J80 ?_;refine J15 ?_;refine J2 ?_;refine J49 ?_;refine J67 ?_;refine J6 ?_;refine J11 ?_;refine J145 ?_;refine J15 ?_
 refine ao_end ⟨_, .refl _, w_seq_if rfl (fun h => (by cases h)) fun _ => w_seq_skip (w_assoc (w_seq_region_g ?_))⟩
 clear kneq keql kgtr k51
 refine J17 ?_;refine J14 ?_;refine J0 ?_
 have hlim : way.length <= 1200 := by omega
 have hrl := reach_len (w := -1) (beh_in hok) hpos
 have hgr : graphR f = encGraph f (behR f) (aheadR f.blocks) (encBools (reachR (behF (behR f)) f.blocks.length (-1))) := rfl
 have hok1 : ∀ i, cwOk1 f way i = (withinR f.blocks.length (way.getD i 0) && ((reachR (behF (behR f)) f.blocks.length (-1)).getD (way.getD i 0).toNat false && (i == 0 || hasI (begF f (way.getD (i - 1) 0).toNat) (way.getD i 0)))) := fun i => rfl
 have fin2 : ∀ (d : D), (List.range way.length).all (cwOk1 f way) = true -> d = B (cwF f r none way) -> D.tup [d, I 0] = .tup [B (cwB f b r way), I 0] := fun d h1 h2 => by
  rw [hcw, cwAll, h1, h2]; rfl
 have fin1 : (List.range way.length).all (cwOk1 f way) = false -> D.tup [B false, I 0] = .tup [B (cwB f b r way), I 0] := fun h1 => by
  rw [hcw, cwAll, h1]; rfl
 rw [hgr] at k69g ⊢
 generalize reachR (behF (behR f)) f.blocks.length (-1) = cnt at *
 refine ao_end (w_then (fun s => Ghost Tryz.prog s ⟨envL [(2, I r), (3, encInts way), (10, .pt (encGraph f (behR f) (aheadR f.blocks) (encBools cnt)))], fun _ => none, 1⟩ /\ (List.range way.length).all (cwOk1 f way) = true) (w_range (α := Nat)
  (fun k => ⟨envL [(2, I r), (3, encInts way), (10, .pt (encGraph f (behR f) (aheadR f.blocks) (encBools cnt))), (56, encInts way), (57, I way.length), (58, I k)], fun _ => none, 1⟩)
  (fun k => k <= way.length /\ (List.range k).all (cwOk1 f way) = true) (fun k => way.length - k) 0 (ghost_of ⟨rfl, rfl, rfl, rfl, rfl, rfl, trivial⟩) ⟨Nat.zero_le _, rfl⟩ ?_) ?_)
 ·rintro k ⟨hk, hall⟩
  refine J16 ?_
  refine ao_end ⟨_, rfl, fun h => ?_, fun h => ?_⟩
  ·have hlt : k < way.length := by simpa using h
   have hx : way[k]? = some (way.getD k 0) := by rw [List.getD_eq_getElem?_getD, List.getElem?_eq_getElem hlt]; rfl
   have hoke := hok1 k
   generalize way.getD k 0 = x at hx hoke
   have k69 := k69g x
   refine ws ?_;refine J0 ?_;refine J25 ?_;refine J4 ?_;refine J3 ?_;refine J3 ?_
   refine ao_end (w_seq_draw di_r26_11 ?_)
   cases hw : withinR f.blocks.length x with
   | false =>
    rw [hw] at k69
    have hoke : cwOk1 f way k = false := by rw [hoke, hw]; rfl
    refine J30 ?_;refine J0 ?_;refine cl k69 ?_;refine J29 ?_;refine J2 ?_;refine J59 ?_;refine J74 ?_;refine J7 ?_;refine J6 ?_;refine J11 ?_;refine z fun _ _ => ?_;refine z fun _ _ => ?_;refine z fun _ _ => ?_;refine J21 ?_;refine J2 ?_;refine J11 ?_;refine J37 ?_;refine J28 ?_;refine J59 ?_;refine J74 ?_;refine J7 ?_;refine J6 ?_;refine J49 ?_;refine J11 ?_;refine J155 ?_;refine z fun _ _ => ?_;refine z fun _ _ => ?_;refine z fun _ _ => ?_;refine z fun _ _ => ?_;refine J11 ?_;refine z fun _ _ => ?_;refine z fun _ _ => ?_;refine z fun _ _ => ?_;refine J21 ?_
    refine ao_endc (by simp [apartT]) (w_if rfl (fun _ => w_seq_region ?_) fun h => (by cases h))
    refine J1 ?_;refine J3 ?_
    exact ao_end (w_ret (j_body (j_seq (q_ret2 rfl rfl (fin1 (range_all_false hlt hoke))))))
   | true =>
    rw [hw] at k69
    have hwi := withinR_iff.1 hw
    obtain ⟨xn, rfl⟩ := Int.eq_ofNat_of_zero_le hwi.1
    have hxn : xn < n := by omega
    have hcx : cnt[xn]? = some cnt[xn] := List.getElem?_eq_getElem (by omega)
    have hgc : cnt.getD xn false = cnt[xn] := getD_some hcx
    rw [hw, Int.toNat_natCast, hgc] at hoke
    clear hgc
    generalize cnt[xn] = cb at hcx hoke
    cases cb with
    | false =>
     have hoke : cwOk1 f way k = false := by rw [hoke]; rfl
     refine J30 ?_;refine J0 ?_;refine cl k69 ?_;refine J29 ?_;refine J2 ?_;refine J59 ?_;refine J74 ?_;refine J7 ?_;refine J6 ?_;refine J11 ?_;refine J67 ?_;refine J6 ?_;refine J31 ?_;refine J15 ?_;refine J2 ?_;refine J11 ?_;refine J37 ?_;refine J28 ?_;refine J59 ?_;refine J74 ?_;refine J7 ?_;refine J6 ?_;refine J49 ?_;refine J11 ?_;refine J155 ?_;refine z fun _ _ => ?_;refine z fun _ _ => ?_;refine z fun _ _ => ?_;refine z fun _ _ => ?_;refine J11 ?_;refine z fun _ _ => ?_;refine z fun _ _ => ?_;refine z fun _ _ => ?_;refine J21 ?_
     refine ao_endc (by simp [apartT]) (w_if rfl (fun _ => w_seq_region ?_) fun h => (by cases h))
     refine J1 ?_;refine J3 ?_
     exact ao_end (w_ret (j_body (j_seq (q_ret2 rfl rfl (fin1 (range_all_false hlt hoke))))))
    | true =>
     cases k with
     | zero =>
      have hoke : cwOk1 f way 0 = true := by rw [hoke]; rfl
      have kgtr : decide ((0 : Int) < ((0 : Nat) : Int)) = false := rfl
      refine J30 ?_;refine J0 ?_;refine cl k69 ?_;refine J29 ?_;refine J2 ?_;refine J59 ?_;refine J74 ?_;refine J7 ?_;refine J6 ?_;refine J11 ?_;refine J67 ?_;refine J6 ?_;refine J31 ?_;refine J15 ?_;refine J2 ?_;refine J11 ?_;refine J80 ?_;refine J28 ?_;refine J59 ?_;refine J74 ?_;refine J7 ?_;refine J6 ?_;refine J49 ?_;refine J11 ?_;refine J155 ?_;refine z fun _ _ => ?_;refine z fun _ _ => ?_;refine z fun _ _ => ?_;refine z fun _ _ => ?_;refine J11 ?_;refine z fun _ _ => ?_;refine z fun _ _ => ?_;refine J86 ?_;refine J15 ?_
      refine ao_endc (by simp [apartT]) (w_if rfl (fun h => (by cases h)) fun _ => w_end ?_)
      refine J10 ?_;refine J0 ?_
      exact ao_end (next_of (0 + 1) (ghost_of ⟨rfl, rfl, rfl, rfl, rfl, rfl, trivial⟩) ⟨by omega, range_all_succ hall hoke⟩ (by omega))
     | succ j =>
      have kgtr : decide ((0 : Int) < ((j + 1 : Nat) : Int)) = true := by simp
      have hpj := List.all_eq_true.1 hall j (by simp)
      rw [hok1 j] at hpj
      have hpx : way[j]? = some (way.getD j 0) := by rw [List.getD_eq_getElem?_getD, List.getElem?_eq_getElem (by omega)]; rfl
      rw [show j + 1 - 1 = j by omega] at hoke
      generalize way.getD j 0 = px at hpx hpj hoke
      rw [Bool.and_eq_true] at hpj
      have hpi := withinR_iff.1 hpj.1
      obtain ⟨pn, rfl⟩ := Int.eq_ofNat_of_zero_le hpi.1
      have hpn : pn < n := by omega
      have hbg : (behR f)[pn]? = some (begF f pn) := behF_get (by simp [behR]; omega)
      rw [Int.toNat_natCast] at hoke
      have hbll := beh_len hok pn
      change (begF f pn).length <= 100000 at hbll
      generalize begF f pn = l at hbg hoke hbll
      have k54 := k54 (l := l) (v := (xn : Int))
      have ksub : ((j + 1 : Nat) : Int) - 1 = (j : Int) /\ -9223372036854775808 <= (j : Int) /\ (j : Int) <= 9223372036854775807 := by omega
      have hoke : cwOk1 f way (j + 1) = hasI l xn := by rw [hoke]; simp
      generalize hasI l (xn : Int) = hh at k54 hoke
      refine J30 ?_;refine J0 ?_;refine cl k69 ?_;refine J29 ?_;refine J2 ?_;refine J59 ?_;refine J74 ?_;refine J7 ?_;refine J6 ?_;refine J11 ?_;refine J67 ?_;refine J6 ?_;refine J31 ?_;refine J15 ?_;refine J2 ?_;refine J11 ?_;refine J80 ?_;refine J28 ?_;refine J59 ?_;refine J74 ?_;refine J7 ?_;refine J6 ?_;refine J49 ?_;refine J11 ?_
      refine ao_g rfl rfl (e_subK rfl rfl ksub) (fun hc => ⟨ak, rfl⟩) ?_
      refine J67 ?_;refine J6 ?_;refine J67 ?_;refine J6 ?_;refine J11 ?_;refine gc k54 ?_;refine J31 ?_;refine J94 ?_;refine J15 ?_
      cases hh with
      | false =>
       refine ao_endc (by simp [apartT]) (w_if rfl (fun _ => w_seq_region ?_) fun h => (by cases h))
       refine J1 ?_;refine J3 ?_
       exact ao_end (w_ret (j_body (j_seq (q_ret2 rfl rfl (fin1 (range_all_false hlt hoke))))))
      | true =>
       refine ao_endc (by simp [apartT]) (w_if rfl (fun h => (by cases h)) fun _ => w_end ?_)
       refine J10 ?_;refine J0 ?_
       exact ao_end (next_of (j + 1 + 1) (ghost_of ⟨rfl, rfl, rfl, rfl, rfl, rfl, trivial⟩) ⟨by omega, range_all_succ hall hoke⟩ (by omega))
  ·have hge : ¬ k < way.length := by simpa using h
   have : k = way.length := by omega
   subst this
   exact ⟨ghost_of ⟨rfl, rfl, rfl, trivial⟩, hall⟩
 ·rintro s ⟨hg, hall⟩
  refine ⟨_, hg, w_assoc (w_seq_region_g ?_)⟩
  refine J17 ?_;refine J14 ?_;refine J0 ?_
  have hall' : ∀ k, k < way.length -> cwOk1 f way k = true := fun k hk => List.all_eq_true.1 hall k (by simpa using hk)
  have fin2 : ∀ (d : Bool), cwF f r none way = d -> D.tup [B d, I 0] = .tup [B (cwB f b r way), I 0] := fun d h => fin2 (B d) hall (by rw [h])
  refine ao_end (w_then (fun s => (∃ nx, Ghost Tryz.prog s ⟨envL [], fun _ => none, nx⟩) /\ cwF f r none way = false) (w_range (α := Nat)
   (fun k => ⟨envL [(2, I r), (3, encInts way), (10, .pt (encGraph f (behR f) (aheadR f.blocks) (encBools cnt))), (98, encInts way), (99, I way.length), (100, I k)], fun _ => none, 1⟩)
   (fun k => k <= way.length /\ cwF f r none way = cwF f r (prevW way k) (way.drop k)) (fun k => way.length - k) 0 (ghost_of ⟨rfl, rfl, rfl, rfl, rfl, rfl, trivial⟩) ⟨Nat.zero_le _, rfl⟩ ?_) ?_)
  ·rintro k ⟨hk, hinv⟩
   refine J16 ?_
   refine ao_end ⟨_, rfl, fun h => ?_, fun h => ?_⟩
   ·have hlt : k < way.length := by simpa using h
    have hx : way[k]? = some (way.getD k 0) := by rw [List.getD_eq_getElem?_getD, List.getElem?_eq_getElem hlt]; rfl
    have hok2 := hall' k hlt
    rw [hok1 k, Bool.and_eq_true] at hok2
    have hwi := withinR_iff.1 hok2.1
    have hdr : way.drop k = way.getD k 0 :: way.drop (k + 1) := by
     rw [List.drop_eq_getElem_cons hlt]
     congr 1
     simp [List.getD_eq_getElem?_getD, hlt]
    have hpv : prevW way (k + 1) = some (way.getD k 0) := rfl
    rw [hdr] at hinv
    generalize way.getD k 0 = x at hx hinv hwi hpv hdr hok2
    have hok2 := hok2.2
    obtain ⟨xn, rfl⟩ := Int.eq_ofNat_of_zero_le hwi.1
    have hxn : xn < n := by omega
    have htn : way.drop (k + 1) = [] ↔ k + 1 = way.length := by
     rw [List.drop_eq_nil_iff]; omega
    generalize way.drop (k + 1) = t at hinv hdr htn
    have hbx : f.blocks[xn]? = some f.blocks[xn] := List.getElem?_eq_getElem (by omega)
    have hbm : f.blocks[xn] ∈ f.blocks := List.getElem_mem _
    generalize f.blocks[xn] = xb at hbx hbm
    have hxb := hok.blk xb hbm
    refine ws ?_;refine J0 ?_;refine J25 ?_;refine J4 ?_;refine J3 ?_;refine J3 ?_
    refine ao_end (w_seq_region_g ?_)
    refine J0 ?_;refine J17 ?_;refine J14 ?_;refine J66 ?_;refine J8 ?_;refine J1 ?_
    obtain ⟨last, hlast, hlt2⟩ : ∃ last : Bool, ((k : Int) == (way.length : Int) - 1) = last /\ (last = true ↔ t = []) := ⟨_, rfl, by rw [htn]; simp; omega⟩
    have keql := hlast
    refine ao_end ⟨_, ghost_of (l := [(2, I r), (3, encInts way), (10, .pt (encGraph f (behR f) (aheadR f.blocks) (encBools cnt))), (14, I k), (15, I xn), (16, B last), (98, encInts way), (99, I way.length), (100, I k)]) ⟨rfl, rfl, rfl, rfl, rfl, ?_, rfl, rfl, rfl, trivial⟩, ?_⟩
    ·show D.s (.bool ((k : Int) == (way.length : Int) - 1)) = _
     rw [hlast]
    clear keql hlast
    refine w_cut_g (fun s => Ghost Tryz.prog s ⟨envL [(2, I r), (3, encInts way), (10, .pt (encGraph f (behR f) (aheadR f.blocks) (encBools cnt))), (14, I k), (15, I xn), (16, B last), (98, encInts way), (99, I way.length), (100, I k)], fun _ => none, 1⟩ /\ cwF f r none way = cwStep (fateG f r xn (k == 0)) (wIn f r xn (k == 0)) t (cwF f r (some (xn : Int)) t)) (w_seq_region ?_) fun s hs => ?_
    ·cases k with
     | zero =>
      have kgtr : decide ((0 : Int) < ((0 : Nat) : Int)) = false := rfl
      refine J0 ?_;refine J113 ?_
      refine ao_end (w_if rfl (fun h => (by cases h)) fun _ => w_skipJ ⟨ghost_of ⟨rfl, rfl, rfl, rfl, rfl, rfl, rfl, rfl, rfl, trivial⟩, ?_⟩)
      rw [hinv, prevW, cwF_none]
      rfl
     | succ j =>
      have kgtr : decide ((0 : Int) < ((j + 1 : Nat) : Int)) = true := by simp
      refine J0 ?_;refine J113 ?_
      have hpj := hall' j (by omega)
      rw [hok1 j, Bool.and_eq_true] at hpj
      have hpx : way[j]? = some (way.getD j 0) := by rw [List.getD_eq_getElem?_getD, List.getElem?_eq_getElem (by omega)]; rfl
      rw [show j + 1 - 1 = j by omega] at hok2
      have hpv0 : prevW way (j + 1) = some (way.getD j 0) := rfl
      rw [hpv0] at hinv
      generalize way.getD j 0 = px at hpx hpj hok2 hinv hpv0
      have hpi := withinR_iff.1 hpj.1
      obtain ⟨pn, rfl⟩ := Int.eq_ofNat_of_zero_le hpi.1
      have hpn : pn < n := by omega
      have hxm : (xn : Int) ∈ begF f pn := by
       simp only [Bool.and_eq_true, Bool.or_eq_true, Int.toNat_natCast] at hok2
       rcases hok2.2 with h | h
       ·simp at h
       ·exact hasI_iff.1 h
      have hby : f.blocks[pn]? = some f.blocks[pn] := List.getElem?_eq_getElem (by omega)
      have hbym : f.blocks[pn] ∈ f.blocks := List.getElem_mem _
      generalize f.blocks[pn] = yb at hby hbym
      have hma : (pn : Int) ∈ ahdF f xn := mem_aheadL.2 ⟨pn, rfl, by omega, yb, hby, (xn : Int), by rw [<- behR_get hby]; exact hxm, by simp⟩
      have hAg : (aheadR f.blocks)[xn]? = some (ahdF f xn) := by
       unfold ahdF
       exact aheadR_get rfl (by omega)
      have k70 := k70 (f := f) (beh := behR f) (ahd := aheadR f.blocks) (c := encBools cnt) (.sl (.map fun _ => .s _)) rfl (a := (pn : Int)) (b := (xn : Int)) (r := r) (ka := pn) (kb := xn) rfl rfl hby hbx hAg hxb.len (fun z hz => (hok.phi2 hbx hz).1) hma (by have := (hok.ends yb hbym).wh; omega)
      have hee : entersR yb xb (ahdF f xn) (pn : Int) (xn : Int) r = entG f r pn xn := by
       unfold entG
       rw [blkF_get hby, blkF_get hbx]
      rw [hee] at k70
      have e3 := ent_3 yb xb (ahdF f xn) (pn : Int) (xn : Int) r
      rw [hee] at e3
      clear hee
      have k71 := k71 (f := f) (beh := behR f) (ahd := aheadR f.blocks) (c := encBools cnt) (.sl (.map fun _ => .s _)) rfl (b := (xn : Int)) (r := r) (k := xn) rfl hbx hxb.len
      have hph : phiW (blkF f xn) r = phiW xb r := by rw [blkF_get hbx]
      have hcf := cwF_some f r (pn : Int) (xn : Int) t
      rw [Int.toNat_natCast, Int.toNat_natCast, hph, <- hinv] at hcf
      clear hph hinv hpv0
      generalize entG f r pn xn = e at k70 e3 hcf
      generalize phiW xb r = ph at k71 hcf
      have ksub : ((j + 1 : Nat) : Int) - 1 = (j : Int) /\ -9223372036854775808 <= (j : Int) /\ (j : Int) <= 9223372036854775807 := by omega
      refine ao_end (w_if rfl (fun _ => w_seq_region ?_) fun h => (by cases h))
      refine J30 ?_;refine J17 ?_;refine J0 ?_;refine J83 ?_;refine J25 ?_;refine J4 ?_;refine J0 ?_;refine J0 ?_;refine cl k70 ?_;refine J3 ?_
      refine ao_end (w_assoc (w_seq_region ?_))
      have fin3 : cwF f r none way = cwStep (fateG f r xn false) (wIn f r xn false) t (cwF f r (some (xn : Int)) t) -> ∀ env, EnvHas [(2, I r), (3, encInts way), (10, .pt (encGraph f (behR f) (aheadR f.blocks) (encBools cnt))), (14, I ((j + 1 : Nat) : Int)), (15, I xn), (16, B last), (98, encInts way), (99, I way.length), (100, I ((j + 1 : Nat) : Int))] env -> Ghost Tryz.prog ⟨env, fun _ => none, 1⟩ ⟨envL [(2, I r), (3, encInts way), (10, .pt (encGraph f (behR f) (aheadR f.blocks) (encBools cnt))), (14, I ((j + 1 : Nat) : Int)), (15, I xn), (16, B last), (98, encInts way), (99, I way.length), (100, I ((j + 1 : Nat) : Int))], fun _ => none, 1⟩ /\ cwF f r none way = cwStep (fateG f r xn (j + 1 == 0)) (wIn f r xn (j + 1 == 0)) t (cwF f r (some (xn : Int)) t) := fun h env he => ⟨ghost_of he, h⟩
      rcases e3 with rfl | rfl | rfl
      ·refine J0 ?_;refine J8 ?_;refine J2 ?_;refine z fun _ _ => ?_;refine J15 ?_
       refine ao_end (w_seq_if rfl (fun h => (by cases h)) fun _ => w_seq_skip (w_seq_region ?_))
       refine J0 ?_;refine J8 ?_;refine J2 ?_;refine J11 ?_;refine J19 ?_;refine J28 ?_;refine J59 ?_;refine J11 ?_;refine J11 ?_;refine gc k71 ?_;refine J86 ?_;refine J15 ?_
       refine ao_end (w_if rfl (fun h => (by cases h)) fun _ => w_skipJ (fin3 ?_ _ ⟨rfl, rfl, rfl, rfl, rfl, rfl, rfl, rfl, rfl, trivial⟩))
       rw [hcf, if_neg (by omega), if_neg (by omega)]
      ·cases hla : last with
       | true =>
        rw [hla] at hlt2
        refine J0 ?_;refine J8 ?_;refine J2 ?_;refine J28 ?_;refine J21 ?_
        refine ao_end (w_seq_if rfl (fun _ => ?_) fun h => (by cases h))
        refine w_assoc (w_seq_region ?_)
        refine J1 ?_;refine J3 ?_
        refine ao_end (w_seq_ret (j_seq (j_body (j_seq (q_ret2 rfl rfl (fin2 true ?_))))))
        rw [hcf, if_pos ⟨rfl, hlt2.1 rfl⟩]
       | false =>
        have hne : ¬ t = [] := fun h => by have := hlt2.2 h; rw [hla] at this; cases this
        rw [hla] at fin3
        refine J0 ?_;refine J8 ?_;refine J2 ?_;refine J28 ?_;refine J21 ?_
        refine ao_end (w_seq_if rfl (fun h => (by cases h)) fun _ => w_seq_skip (w_seq_region ?_))
        cases ph with
        | true =>
         refine J0 ?_;refine J8 ?_;refine J2 ?_;refine J11 ?_;refine J19 ?_;refine J28 ?_;refine J59 ?_;refine J11 ?_;refine J11 ?_;refine gc k71 ?_;refine J94 ?_;refine J15 ?_
         refine ao_end (w_if rfl (fun _ => w_seq_region ?_) fun h => (by cases h))
         refine J1 ?_;refine J3 ?_
         refine ao_end (w_ret (j_seq (j_body (j_seq (q_ret2 rfl rfl (fin2 false ?_))))))
         rw [hcf, if_neg (fun h => hne h.2), if_pos (.inr ⟨rfl, rfl⟩)]
        | false =>
         refine J0 ?_;refine J8 ?_;refine J2 ?_;refine J11 ?_;refine J19 ?_;refine J28 ?_;refine J59 ?_;refine J11 ?_;refine J11 ?_;refine gc k71 ?_;refine J94 ?_;refine J15 ?_
         refine ao_end (w_if rfl (fun h => (by cases h)) fun _ => w_skipJ (fin3 ?_ _ ⟨rfl, rfl, rfl, rfl, rfl, rfl, rfl, rfl, rfl, trivial⟩))
         rw [hcf, if_neg (fun h => hne h.2), if_neg (by simp)]
      ·refine J0 ?_;refine J8 ?_;refine J2 ?_;refine z fun _ _ => ?_;refine J15 ?_
       refine ao_end (w_seq_if rfl (fun h => (by cases h)) fun _ => w_seq_skip (w_seq_region ?_))
       refine J0 ?_;refine J8 ?_;refine J2 ?_;refine J11 ?_;refine J19 ?_;refine J28 ?_;refine J59 ?_;refine J11 ?_;refine J11 ?_;refine gc k71 ?_;refine J86 ?_;refine J21 ?_
       refine ao_end (w_if rfl (fun _ => w_seq_region ?_) fun h => (by cases h))
       refine J1 ?_;refine J3 ?_
       refine ao_end (w_ret (j_seq (j_body (j_seq (q_ret2 rfl rfl (fin2 false ?_))))))
       rw [hcf, if_neg (by omega), if_pos (.inl rfl)]
    ·obtain ⟨hg, hst⟩ := hs
     have hp0 : ((k : Int) == 0) = (k == 0) := by
      cases k with
      | zero => rfl
      | succ j =>
       rw [ib]
       exact decide_eq_false (by omega)
     have k72 := k72 (f := f) (beh := behR f) (ahd := aheadR f.blocks) (c := encBools cnt) (.sl (.map fun _ => .s _)) rfl (b := (xn : Int)) (r := r) (p := (k == 0)) (k := xn) rfl hbx hxb.len (fun y hy => (hxb.ins y hy).ar) hxb.fin.a1 hxb.fin.a2
     have k73 := k73 (f := f) (beh := behR f) (ahd := aheadR f.blocks) (c := encBools cnt) (.sl (.map fun _ => .s _)) rfl (b := (xn : Int)) (r := r) (p := (k == 0)) (k := xn) rfl hbx
     have hft : fateG f r xn (k == 0) = fateR xb r (k == 0) := by unfold fateG; rw [blkF_get hbx]
     have hwn : wIn f r xn (k == 0) = xb.ins.any (insideB r (k == 0)) := by unfold wIn; rw [blkF_get hbx]
     have f3 := fateR_3 xb r (k == 0)
     rw [<- hft] at k72 f3
     rw [<- hwn] at k73
     clear hft hwn
     have hnext : cwF f r none way = cwF f r (some (xn : Int)) t -> cwF f r none way = cwF f r (prevW way (k + 1)) (way.drop (k + 1)) := fun h => by
      rw [h, hpv]
      have : way.drop (k + 1) = t := by
       have := congrArg List.tail hdr
       simpa using this
      rw [this]
     generalize (k == 0) = p0 at *
     have keql := hp0
     generalize fateG f r xn p0 = fa at *
     generalize wIn f r xn p0 = wi at *
     refine ⟨_, hg, w_seq_region_g ?_⟩
     refine J30 ?_;refine J0 ?_;refine J0 ?_;refine J0 ?_;refine J53 ?_;refine cl k72 ?_
     refine ao_end (w_ghost (ghost_of (l := [(2, I r), (3, encInts way), (10, .pt (encGraph f (behR f) (aheadR f.blocks) (encBools cnt))), (15, I xn), (14, I k), (16, B last), (143, U8 fa), (98, encInts way), (99, I way.length), (100, I k)]) ⟨rfl, rfl, rfl, rfl, rfl, rfl, rfl, rfl, rfl, rfl, trivial⟩) (show AW _ _ _ _ _ _ from w_block (w_seq_region ?_)))
     rcases f3 with rfl | rfl | rfl
     ·refine J8 ?_;refine J1 ?_
      refine ao_end (w_if rfl (fun h => (by cases h)) fun _ => w_seq_region ?_)
      refine J8 ?_;refine J1 ?_
      refine ao_end (w_if rfl (fun h => (by cases h)) fun _ => w_seq_region ?_)
      refine J8 ?_;refine J1 ?_
      refine ao_end (w_if rfl (fun _ => w_seq_region ?_) fun h => (by cases h))
      cases hla : last with
      | true =>
       rw [hla] at hlt2
       refine J2 ?_
       refine ao_end (w_if rfl (fun _ => w_seq_region ?_) fun h => (by cases h))
       refine J1 ?_;refine J3 ?_
       refine ao_end (w_ret (j_block (j_body (j_seq (q_ret2 rfl rfl (fin2 false ?_))))))
       rw [hst, cwStep, if_neg (by omega), if_neg (by omega), if_pos (hlt2.1 rfl)]
      | false =>
       have hne : ¬ t = [] := fun h => by have := hlt2.2 h; rw [hla] at this; cases this
       refine J2 ?_
       refine ao_end (w_if rfl (fun h => (by cases h)) fun _ => w_end ?_)
       show AOps _ _ _ _ _ _ _ _ _
       refine J10 ?_;refine J0 ?_
       refine ao_end (next_of (k + 1) (ghost_of ⟨rfl, rfl, rfl, rfl, rfl, rfl, trivial⟩) ⟨by omega, hnext ?_⟩ (by omega))
       rw [hst, cwStep, if_neg (by omega), if_neg (by omega), if_neg hne]
     ·refine J8 ?_;refine J1 ?_
      refine ao_end (w_if rfl (fun h => (by cases h)) fun _ => w_seq_region ?_)
      refine J8 ?_;refine J1 ?_
      refine ao_end (w_if rfl (fun _ => w_assoc (w_seq_region ?_)) fun h => (by cases h))
      cases hla : last with
      | true =>
       rw [hla] at hlt2
       refine J2 ?_
       refine ao_end (w_seq_if rfl (fun _ => ?_) fun h => (by cases h))
       refine w_assoc (w_seq_region ?_)
       refine J1 ?_;refine J3 ?_
       refine ao_end (w_seq_ret (j_block (j_body (j_seq (q_ret2 rfl rfl (fin2 true ?_))))))
       rw [hst, cwStep, if_neg (by omega), if_pos rfl, if_pos (hlt2.1 rfl)]
      | false =>
       have hne : ¬ t = [] := fun h => by have := hlt2.2 h; rw [hla] at this; cases this
       refine J2 ?_
       refine ao_end (w_seq_if rfl (fun h => (by cases h)) fun _ => w_seq_skip (w_seq_region ?_))
       cases wi with
       | true =>
        refine J30 ?_;refine J0 ?_;refine J0 ?_;refine J0 ?_;refine J53 ?_;refine cl k73 ?_
        refine ao_end (w_if rfl (fun _ => w_seq_region ?_) fun h => (by cases h))
        refine J1 ?_;refine J3 ?_
        refine ao_end (w_ret (j_block (j_body (j_seq (q_ret2 rfl rfl (fin2 false ?_))))))
        rw [hst, cwStep, if_neg (by omega), if_pos rfl, if_neg hne, if_pos rfl]
       | false =>
        refine J30 ?_;refine J0 ?_;refine J0 ?_;refine J0 ?_;refine J53 ?_;refine cl k73 ?_
        refine ao_end (w_if rfl (fun h => (by cases h)) fun _ => w_end ?_)
        show AOps _ _ _ _ _ _ _ _ _
        refine J10 ?_;refine J0 ?_
        refine ao_end (next_of (k + 1) (ghost_of ⟨rfl, rfl, rfl, rfl, rfl, rfl, trivial⟩) ⟨by omega, hnext ?_⟩ (by omega))
        rw [hst, cwStep, if_neg (by omega), if_pos rfl, if_neg hne, if_neg (by simp)]
     ·refine J8 ?_;refine J1 ?_
      refine ao_end (w_if rfl (fun _ => w_seq_region ?_) fun h => (by cases h))
      refine J1 ?_;refine J3 ?_
      refine ao_end (w_ret (j_block (j_body (j_seq (q_ret2 rfl rfl (fin2 false ?_))))))
      rw [hst, cwStep, if_pos rfl]
   ·have hge : ¬ k < way.length := by simpa using h
    refine ⟨⟨1, ghost_of trivial⟩, ?_⟩
    rw [hinv, List.drop_eq_nil_of_le (by omega)]
    unfold cwF
    rw [cwGo]
  ·rintro s ⟨⟨nx, hg⟩, hfin⟩
   refine ⟨_, hg, w_seq_region ?_⟩
   refine J1 ?_;refine J3 ?_
   exact ao_end (q_ret2 rfl rfl (fin2 false hfin))
end Go.Proofs.Tryz.K
end
section
open Go Go.Abs Go.Proofs Go.Argus
namespace Go.Argus
theorem hd9 : ∀ a b c d e f g h i : Bool, (if (if (if (if (if (if (if a = true then b else false) = true then true else c) = true then true else (if d = true then e else false)) = true then true else f) = true then true else g) = true then true else h) = true then true else i) = ((a && b) || (c || ((d && e) || (f || (g || (h || i)))))) := by decide
theorem hd5' : ∀ a b c d e : Bool, (if (if (if (if a = true then true else b) = true then true else c) = true then true else d) = true then true else e) = (a || (b || (c || (d || e)))) := by decide
def hasL (l : List Int) (n : Int) : Bool := l.any fun y => y == n
theorem hasL_iff {l : List Int} {x : Int} : hasL l x = true ↔ x ∈ l := by simp [hasL]
def few1 (f : Flow) : Bool := (decide (24 < (f.blocks.length : Int)) && decide ((f.blocks.length : Int) <= 1200)) || (decide (1210 < (f.blocks.length : Int)) || ((decide (14 < (f.regs.length : Int)) && decide ((f.regs.length : Int) <= 1200)) || (decide (1210 < (f.regs.length : Int)) || (decide (130 < (f.name.size : Int)) || (decide (70 < (f.slots.length : Int)) || decide (10 < (f.signals.length : Int)))))))
def fewBlk (b : Block) : Bool := decide (12 < (b.ins.length : Int)) || (decide (8 < (b.fin.whens.length : Int)) || (decide (10 < (b.fin.args.length : Int)) || (decide (130 < (b.fin.name.size : Int)) || decide (10 < (b.fin.ins.args.length : Int)))))
def fewIns (y : Ins) : Bool := decide (26 < (y.args.length : Int))
def fewB (f : Flow) : Bool := !(few1 f) && (f.signals.all (fun s => !(decide (20 < (s.size : Int)))) && f.blocks.all (fun b => !(fewBlk b) && b.ins.all fun y => !(fewIns y)))
theorem few1_le {f : Flow} (h : fewB f = true) : f.blocks.length <= 24 \/ 1200 < f.blocks.length := by
 unfold fewB few1 at h
 simp only [Bool.and_eq_true, Bool.not_eq_true', Bool.or_eq_false_iff] at h
 have h1 := h.1.1
 by_cases h2 : 24 < f.blocks.length
 ·by_cases h3 : f.blocks.length <= 1200
  ·simp at h1; omega
  ·omega
 ·omega
end Go.Argus
namespace Go.Proofs.Tryz.K
set_option maxRecDepth 10000
theorem k30 {l : List Int} {v : Int} : PCall Tryz.prog 30 [encInts l, I v] (B (hasL l v)) := by
 refine pcall_real ok30.he (.cons (tr_ints _) (.cons (.s _) .nil)) fun hreal => ?_
 have hlen := (hreal (encInts l) (by simp)).sl.1
 unfold maxLen at hlen
 refine pcall_of mixed ok30 (by rw [nt30]; rfl) (.cons (tr_ints _) (.cons (.s _) .nil)) (Tr.s _) ?_
 rw [rs30, sk30]
 refine ws ?_;refine J1 ?_
 refine ao_end (w_assoc (w_seq_region_g ?_))
 refine J3 ?_
 refine ao_end (w_then (fun s => Ghost Tryz.prog s ⟨envL [], fun _ => none, 0⟩ /\ ∀ (j : Nat) y, l[j]? = some y -> (y == v) = false) (w_for (α := Nat) (fun k => ⟨envL [(0, encInts l), (1, I v), (5, I k)], fun _ => none, 0⟩)
  (fun k => k <= l.length /\ ∀ j y, j < k -> l[j]? = some y -> (y == v) = false) (fun k => l.length - k) 0 (ghost_of ⟨rfl, rfl, rfl, trivial⟩) ⟨by omega, fun j y hj => by omega⟩ ?_) ?_)
 ·rintro k ⟨hk, hinv⟩
  refine J0 ?_;refine J17 ?_;refine J14 ?_;refine J16 ?_
  refine ao_end ⟨_, rfl, fun h => ?_, fun h => ?_⟩
  ·have hlt : k < l.length := by simpa using h
   have hx : l[k]? = some l[k] := by simp [hlt]
   generalize l[k] = x at hx
   refine ws ?_;refine J17 ?_;refine J0 ?_;refine J25 ?_;refine J4 ?_;refine J0 ?_;refine J8 ?_
   refine ao_end (w_if rfl (fun hp => ?_) fun hp => ?_)
   ·refine ws ?_;refine J1 ?_
    refine ao_end (w_ret (j_body (j_seq (q_ret1 (d := B true) rfl ?_))))
    have : hasL l v = true := List.any_eq_true.2 ⟨x, List.mem_of_getElem? hx, hp⟩
    rw [this]
   ·refine w_end ?_
    refine J0 ?_;refine J10 ?_;refine J3 ?_
    refine ao_end (next_of (k + 1) (ghost_of ⟨rfl, rfl, rfl, trivial⟩) ⟨by omega, fun j y hj hy => ?_⟩ (by omega))
    by_cases e : j = k
    ·subst e; rw [hx] at hy; cases hy; exact hp
    ·exact hinv j y (by omega) hy
  ·have hge : ¬ k < l.length := by simpa using h
   exact ⟨.forget _ _ _ _ fun _ => .inr rfl, fun j y hy => hinv j y (by have := (List.getElem?_eq_some_iff.1 hy).1; omega) hy⟩
 ·rintro s ⟨hg, hnone⟩
  refine ⟨_, hg, w_seq_region ?_⟩
  refine J1 ?_
  refine ao_end (q_ret1 (d := B false) rfl ?_)
  have : hasL l v = false := List.any_eq_false.2 fun x hx => by
   obtain ⟨j, hj⟩ := List.getElem?_of_mem hx
   rw [hnone j x hj]; simp
  rw [this]
set_option maxHeartbeats 1000000 in
theorem k15 {f : Flow} : PCall Tryz.prog 15 [.agg (encFlow f)] (B (fewB f)) := by
 have htr : ∀ a ∈ [D.agg (encFlow f)], Tr a := .cons (.agg (trs_flow f)) .nil
 refine pcall_of mixed ok15 (by rw [nt15]; rfl) htr (Tr.s _) ?_
 rw [rs15, sk15]
 refine w_seq_region_g ?_
 refine J51 ?_;refine J1 ?_
 refine ao_end (w_ghost (ghost_fr [(0, encFlow f, 26)] ⟨rfl, trivial⟩ (l := [(1, .pt (encFlow f))]) ⟨rfl, trivial⟩) (w_assoc (w_seq_region_g ?_)))
 refine J5 ?_;refine J4 ?_;refine J14 ?_;refine J103 ?_;refine J2 ?_;refine J7 ?_;refine J6 ?_;refine J27 ?_;refine J91 ?_;refine J9 ?_;refine J2 ?_;refine J7 ?_;refine J6 ?_;refine J27 ?_;refine J37 ?_;refine J9 ?_;refine J2 ?_;refine J7 ?_;refine J6 ?_;refine J27 ?_;refine J37 ?_;refine J28 ?_;refine J7 ?_;refine J6 ?_;refine J27 ?_;refine J91 ?_;refine J65 ?_;refine J9 ?_;refine J2 ?_;refine J7 ?_;refine J6 ?_;refine J27 ?_;refine J37 ?_;refine J9 ?_;refine J2 ?_;refine J7 ?_;refine J6 ?_
 refine ao_g rfl rfl (e_lenS rfl) (fun hc => ⟨ak, V.h⟩) ?_
 refine J37 ?_;refine J9 ?_;refine J2 ?_;refine J7 ?_;refine J6 ?_;refine J27 ?_;refine J37 ?_;refine J9 ?_;refine J2 ?_;refine J7 ?_;refine J6 ?_;refine J27 ?_;refine J37 ?_;refine J9 ?_
 have hd : few1 f = _ := (hd9 (decide (24 < (f.blocks.length : Int))) (decide ((f.blocks.length : Int) <= 1200)) (decide (1210 < (f.blocks.length : Int))) (decide (14 < (f.regs.length : Int))) (decide ((f.regs.length : Int) <= 1200)) (decide (1210 < (f.regs.length : Int))) (decide (130 < (f.name.size : Int))) (decide (70 < (f.slots.length : Int))) (decide (10 < (f.signals.length : Int)))).symm
 refine ao_end ⟨_, .refl _, w_seq_if rfl (fun h => ?_) fun h => w_seq_skip (w_assoc (w_seq_region_g ?_))⟩
 ·have h1 : few1 f = true := hd.trans h
  refine w_assoc (w_seq_region ?_)
  refine J1 ?_
  refine ao_end (w_seq_ret (q_ret1 (d := B false) rfl ?_))
  rw [fewB, h1]; rfl
 have h1 : few1 f = false := hd.trans h
 clear hd h
 have hlens : f.blocks.length <= 100000 /\ f.signals.length <= 100000 := by
  unfold few1 at h1
  simp only [Bool.or_eq_false_iff, decide_eq_false_iff_not] at h1
  omega
 refine J3 ?_
 refine ao_end (w_then (fun s => Ghost Tryz.prog s ⟨envL [(1, .pt (encFlow f))], fun _ => none, 1⟩ /\ f.signals.all (fun s => !(decide (20 < (s.size : Int)))) = true) (w_for (α := Nat) (fun k => ⟨envL [(1, .pt (encFlow f)), (3, I k)], fun _ => none, 1⟩)
  (fun k => k <= f.signals.length /\ (f.signals.take k).all (fun s => !(decide (20 < (s.size : Int)))) = true) (fun k => f.signals.length - k) 0 (ghost_of ⟨rfl, rfl, trivial⟩) ⟨by omega, rfl⟩ ?_) ?_)
 ·rintro k ⟨hk, hinv⟩
  refine J0 ?_;refine J5 ?_;refine J4 ?_;refine J14 ?_;refine J16 ?_
  refine ao_end ⟨_, rfl, fun h => ?_, fun h => ?_⟩
  ·have hlt : k < f.signals.length := by simpa using h
   have hx : f.signals[k]? = some f.signals[k] := by simp [hlt]
   have hmem : f.signals[k] ∈ f.signals := List.getElem_mem _
   generalize f.signals[k] = x at hx hmem
   refine ws ?_;refine J5 ?_;refine J4 ?_;refine J0 ?_;refine J25 ?_;refine J4 ?_;refine J130 ?_;refine J103 ?_
   refine ao_end (w_if rfl (fun hp => ?_) fun hp => ?_)
   ·refine ws ?_;refine J1 ?_
    refine ao_end (w_ret (j_body (j_seq (q_ret1 (d := B false) rfl ?_))))
    have : f.signals.all (fun s => !(decide (20 < (s.size : Int)))) = false := by
     refine Bool.eq_false_iff.2 fun ht => ?_
     have := List.all_eq_true.1 ht x hmem
     rw [hp] at this; cases this
    rw [fewB, this]
    simp
   ·refine w_end ?_
    refine J0 ?_;refine J10 ?_;refine J3 ?_
    refine ao_end (next_of (k + 1) (ghost_of ⟨rfl, rfl, trivial⟩) ⟨by omega, ?_⟩ (by omega))
    rw [List.take_add_one, hx, List.all_append, hinv]
    show (true && (!(decide (20 < (x.size : Int))) && true)) = true
    rw [hp]; rfl
  ·have hge : ¬ k < f.signals.length := by simpa using h
   rw [List.take_of_length_le (by omega)] at hinv
   exact ⟨ghost_of ⟨rfl, trivial⟩, hinv⟩
 rintro s ⟨hg, hsig⟩
 refine ⟨_, hg, w_assoc (w_seq_region_g ?_)⟩
 refine J3 ?_
 refine ao_end (w_then (fun s => (∃ nx, Ghost Tryz.prog s ⟨envL [], fun _ => none, nx⟩) /\ f.blocks.all (fun b => !(fewBlk b) && b.ins.all fun y => !(fewIns y)) = true) (w_for (α := Nat × Nat) (fun k => ⟨envL [(1, .pt (encFlow f)), (4, I k.1)], fun _ => none, k.2⟩)
  (fun k => k.1 <= f.blocks.length /\ (f.blocks.take k.1).all (fun b => !(fewBlk b) && b.ins.all fun y => !(fewIns y)) = true) (fun k => f.blocks.length - k.1) (0, 1) (ghost_of ⟨rfl, rfl, trivial⟩) ⟨Nat.zero_le _, rfl⟩ ?_) ?_)
 ·rintro ⟨k, nx⟩ ⟨hk, hinv⟩
  dsimp only at hk hinv ⊢
  refine J0 ?_;refine J5 ?_;refine J4 ?_;refine J14 ?_;refine J16 ?_
  refine ao_end ⟨_, rfl, fun h => ?_, fun h => ?_⟩
  ·have hlt : k < f.blocks.length := by simpa using h
   have hx : f.blocks[k]? = some f.blocks[k] := by simp [hlt]
   have hmem : f.blocks[k] ∈ f.blocks := List.getElem_mem _
   generalize f.blocks[k] = x at hx hmem
   have bad : (!(fewBlk x) && x.ins.all fun y => !(fewIns y)) = false -> fewB f = false := fun hb => by
    have : f.blocks.all (fun b => !(fewBlk b) && b.ins.all fun y => !(fewIns y)) = false := by
     refine Bool.eq_false_iff.2 fun ht => ?_
     have := List.all_eq_true.1 ht x hmem
     rw [hb] at this; cases this
    rw [fewB, this]
    simp
   refine w_seq_region_g ?_
   refine J5 ?_;refine J4 ?_;refine J0 ?_;refine J50 ?_;refine J61 ?_;refine J22 ?_;refine J77 ?_
   refine ao_end (w_ghost (ghost_fz (i := nx) (l := [(1, .pt (encFlow f)), (4, I k), (5, .pt (encBlock x))]) (up_same _ _ _) ⟨rfl, rfl, fz_rp, trivial⟩) (w_assoc (w_seq_region ?_)))
   refine J5 ?_;refine J4 ?_;refine J14 ?_;refine J103 ?_;refine J2 ?_;refine J7 ?_;refine J7 ?_;refine J6 ?_;refine J27 ?_;refine J37 ?_;refine J9 ?_;refine J2 ?_;refine J7 ?_;refine J7 ?_;refine J6 ?_;refine J27 ?_;refine J37 ?_;refine J9 ?_;refine J2 ?_;refine J7 ?_;refine J7 ?_;refine J6 ?_
   refine ao_g rfl rfl (e_lenS rfl) (fun hc => ⟨ak, V.h⟩) ?_
   refine J37 ?_;refine J9 ?_;refine J2 ?_;refine J7 ?_;refine J7 ?_;refine J7 ?_;refine J6 ?_;refine J27 ?_;refine J37 ?_;refine J9 ?_
   have hd : fewBlk x = _ := (hd5' (decide (12 < (x.ins.length : Int))) (decide (8 < (x.fin.whens.length : Int))) (decide (10 < (x.fin.args.length : Int))) (decide (130 < (x.fin.name.size : Int))) (decide (10 < (x.fin.ins.args.length : Int)))).symm
   refine ao_end (w_seq_if rfl (fun h => ?_) fun h => w_seq_skip (w_seq_region_g ?_))
   ·have hb : fewBlk x = true := hd.trans h
    refine w_assoc (w_seq_region ?_)
    refine J1 ?_
    refine ao_end (w_seq_ret (j_body (j_seq (q_ret1 (d := B false) rfl ?_))))
    rw [bad (by rw [hb]; rfl)]
   ·have hb : fewBlk x = false := hd.trans h
    clear hd h
    have hil : x.ins.length <= 100000 := by
     unfold fewBlk at hb
     simp only [Bool.or_eq_false_iff, decide_eq_false_iff_not] at hb
     omega
    refine J3 ?_
    refine ao_end (w_for (α := Nat) (fun j => ⟨envL [(1, .pt (encFlow f)), (4, I k), (5, .pt (encBlock x)), (6, I j)], fun _ => none, nx + 1⟩)
     (fun j => j <= x.ins.length /\ (x.ins.take j).all (fun y => !(fewIns y)) = true) (fun j => x.ins.length - j) 0 (ghost_of ⟨rfl, rfl, rfl, rfl, trivial⟩) ⟨Nat.zero_le _, rfl⟩ ?_)
    rintro j ⟨hj, hji⟩
    refine J0 ?_;refine J5 ?_;refine J4 ?_;refine J14 ?_;refine J16 ?_
    refine ao_end ⟨_, rfl, fun h => ?_, fun h => ?_⟩
    ·have hjl : j < x.ins.length := by simpa using h
     have hy : x.ins[j]? = some x.ins[j] := by simp [hjl]
     have hym : x.ins[j] ∈ x.ins := List.getElem_mem _
     generalize x.ins[j] = y at hy hym
     refine ws ?_;refine J5 ?_;refine J4 ?_;refine J0 ?_;refine J75 ?_;refine J5 ?_;refine J4 ?_;refine J14 ?_;refine J103 ?_
     refine ao_end (w_if rfl (fun hp => ?_) fun hp => ?_)
     ·have hp : fewIns y = true := hp
      refine ws ?_;refine J1 ?_
      refine ao_end (w_ret (j_body (j_body (j_seq (q_ret1 (d := B false) rfl ?_)))))
      rw [bad]
      have : x.ins.all (fun y => !(fewIns y)) = false := by
       refine Bool.eq_false_iff.2 fun ht => ?_
       have := List.all_eq_true.1 ht y hym
       rw [hp] at this; cases this
      rw [this]; simp
     ·have hp : fewIns y = false := hp
      refine w_end ?_
      refine J0 ?_;refine J10 ?_;refine J3 ?_
      refine ao_end (next_of (j + 1) (ghost_of ⟨rfl, rfl, rfl, rfl, trivial⟩) ⟨by omega, ?_⟩ (by omega))
      rw [List.take_add_one, hy, List.all_append, hji]
      show (true && (!(fewIns y) && true)) = true
      rw [hp]; rfl
    ·have hge : ¬ j < x.ins.length := by simpa using h
     rw [List.take_of_length_le (by omega)] at hji
     show AOps _ _ _ _ _ _ _ _ _
     refine J0 ?_;refine J10 ?_;refine J3 ?_
     refine ao_end (next_of (k + 1, nx + 1) (ghost_of ⟨rfl, rfl, trivial⟩) ⟨by dsimp only; omega, ?_⟩ (by dsimp only; omega))
     dsimp only
     rw [List.take_add_one, hx, List.all_append, hinv]
     show (true && ((!(fewBlk x) && x.ins.all fun y => !(fewIns y)) && true)) = true
     rw [hb, hji]; rfl
  ·have hge : ¬ k < f.blocks.length := by simpa using h
   rw [List.take_of_length_le (by omega)] at hinv
   exact ⟨⟨nx, ghost_of trivial⟩, hinv⟩
 rintro s ⟨⟨nx, hg⟩, hall⟩
 refine ⟨_, hg, w_seq_region ?_⟩
 refine J1 ?_
 refine ao_end (q_ret1 (d := B true) rfl ?_)
 rw [fewB, h1, hsig, hall]
 rfl
end Go.Proofs.Tryz.K
end
section
namespace Go.Argus
open Go Go.Abs
open Go.Proofs.Tryz.K (nextR lg_ok beh_in ord_in)
def cntF (f : Flow) (b : Nat) : Bool := (reachR (behF (behR f)) f.blocks.length (-1)).getD b false
theorem steps_of {beh : Nat -> List Int} : ∀ {l : List Int}, (∀ i, i + 1 < l.length -> l.getD (i + 1) 0 ∈ beh (l.getD i 0).toNat) -> waySteps beh l
 | [], _ => trivial
 | [_], _ => trivial
 | a :: b :: t, h => ⟨h 0 (by simp), steps_of fun i hi => h (i + 1) (by simpa using hi)⟩
theorem steps_get {beh : Nat -> List Int} : ∀ {l : List Int}, waySteps beh l -> ∀ i, i + 1 < l.length -> l.getD (i + 1) 0 ∈ beh (l.getD i 0).toNat
 | [], _, i, h => by simp at h
 | [_], _, i, h => by simp at h
 | a :: b :: t, hs, 0, _ => hs.1
 | a :: b :: t, hs, i + 1, h => steps_get hs.2 i (by simpa using h)
theorem cw_lv {f : Flow} (hok : FlowOk f) {bn rn : Nat} {way : List Int} (h : cwB f bn rn way = true) : cntF f bn = true /\ LvG f rn bn := by
 unfold cwB at h
 split at h
 ·cases h
 rename_i hc
 rw [Bool.and_eq_true] at h
 obtain ⟨h1, h2⟩ := h
 cases way with
 | nil => exact absurd (.inl rfl) hc
 | cons b0 t =>
  have hb0 : b0 = bn := Classical.byContradiction fun e => hc (.inr (.inr (by simpa using e)))
  subst hb0
  have hall : ∀ i, i < ((bn : Int) :: t).length -> cwOk1 f ((bn : Int) :: t) i = true := fun i hi => List.all_eq_true.1 h1 i (by simpa using hi)
  have h0 := hall 0 (by simp)
  unfold cwOk1 at h0
  rw [Bool.and_eq_true, Bool.and_eq_true] at h0
  refine ⟨by simpa [cntF] using h0.2.1, ?_⟩
  have hs : waySteps (begF f) ((bn : Int) :: t) := steps_of fun i hi => by
   have h3 := hall (i + 1) hi
   unfold cwOk1 at h3
   rw [Bool.and_eq_true, Bool.and_eq_true, Bool.or_eq_true] at h3
   rcases h3.2.2 with h4 | h4
   ·simp at h4
   ·exact hasI_iff.1 h4
  have := cwGo_lv (three hok rn) hs h2
  rw [Int.toNat_natCast] at this
  exact this
theorem good_cw {f : Flow} (hok : FlowOk f) (hn : f.blocks.length <= 24) {bn rn : Nat} (hb : bn < f.blocks.length) (hc : cntF f bn = true) {way : List Int} (h : GoodWay f bn rn way) : cwB f bn rn way = true := by
 obtain ⟨hg, ⟨t, rfl⟩, hl⟩ := h
 have hs := goodW_steps hg
 have hif : ¬ (((bn : Int) :: t).length = 0 \/ 1200 < ((bn : Int) :: t).length \/ ((bn : Int) :: t).getD 0 0 ≠ (bn : Int)) := by
  rintro (h | h | h)
  ·simp at h
  ·omega
  ·exact h rfl
 unfold cwB
 rw [if_neg hif, Bool.and_eq_true]
 refine ⟨?_, goodW_none (three hok rn) hg⟩
 have key : ∀ i, i < ((bn : Int) :: t).length -> (0 <= ((bn : Int) :: t).getD i 0 /\ (((bn : Int) :: t).getD i 0).toNat < f.blocks.length) /\ cntF f (((bn : Int) :: t).getD i 0).toNat = true := fun i => by
  induction i with
  | zero => exact fun _ => ⟨⟨by simp, by simpa using hb⟩, by simpa using hc⟩
  | succ i ih =>
   intro hi
   obtain ⟨h1, h2⟩ := ih (by omega)
   have hm := steps_get hs i hi
   exact ⟨beh_in hok _ _ hm, reach_closed (beh_in hok) hok.pos h2 _ hm⟩
 refine List.all_eq_true.2 fun i hi => ?_
 have hi : i < ((bn : Int) :: t).length := by simpa using hi
 obtain ⟨h1, h2⟩ := key i hi
 unfold cwOk1
 rw [Bool.and_eq_true, Bool.and_eq_true, Bool.or_eq_true]
 refine ⟨withinR_iff.2 ⟨h1.1, by omega⟩, h2, ?_⟩
 cases i with
 | zero => exact .inl rfl
 | succ i => exact .inr (hasI_iff.2 (steps_get hs i hi))
theorem has_list {w : List Int} (hU : AllU w) {n r : Nat} (hr : r < n) : hasL (listW w n) r = bitW w r := by
 rw [<- hasW_bit hU]
 unfold listW
 cases h : hasW w r with
 | true =>
  rw [hasL_iff]
  exact List.mem_map.2 ⟨r, List.mem_filter.2 ⟨by simpa using hr, h⟩, rfl⟩
 | false =>
  refine Bool.eq_false_iff.2 fun ht => ?_
  obtain ⟨k, hk, e⟩ := List.mem_map.1 (hasL_iff.1 ht)
  have : k = r := by omega
  subst this
  rw [(List.mem_filter.1 hk).2] at h
  cases h
theorem live_has {f : Flow} (hok : FlowOk f) {bn rn : Nat} (hb : bn < f.blocks.length) (hr : rn < f.regs.length) : ∃ l, (livesIn f)[bn]? = some l /\ (hasL l rn = true ↔ cntF f bn = true /\ LvG f rn bn) := by
 have hI := (live_spec (lg_ok hok) (ord_in hok)).1
 have hl := live_lv hok rn bn
 have hlt : bn < (liveR (lgR f) f.blocks.length (ordL f)).inn.length := by rw [hI.ok.ln]; exact hb
 have hg : (liveR (lgR f) f.blocks.length (ordL f)).inn.getD bn [] = (liveR (lgR f) f.blocks.length (ordL f)).inn[bn] := getD_some (List.getElem?_eq_getElem hlt)
 have hU := (hI.ok.inn _ (List.getElem_mem hlt)).2
 rw [hg] at hl
 refine ⟨listW (liveR (lgR f) f.blocks.length (ordL f)).inn[bn] f.regs.length, ?_, ?_⟩
 ·unfold livesIn
  rw [List.getElem?_map, List.getElem?_eq_getElem hlt]; rfl
 ·rw [has_list hU hr]
  exact hl
end Go.Argus
end
section
open Go Go.Abs Go.Proofs Go.Argus
namespace Go.Proofs.Tryz.K
set_option maxRecDepth 10000
theorem k6_err {f : Flow} {b r : Int} {l : List Int} (k17 : PCall Tryz.prog 17 [] (B true)) (hck : checkR f ≠ 0) : PCall Tryz.prog 6 [.agg (encFlow f), I b, I r, encInts l] (B true) := by
 have k15 := k15 (f := f)
 have htr : ∀ a ∈ [D.agg (encFlow f), I b, I r, encInts l], Tr a := .cons (.agg (trs_flow f)) (.cons (.s _) (.cons (.s _) (.cons (tr_ints _) .nil)))
 refine pcall_of mixed ok6 (by rw [nt6]; rfl) htr (Tr.s _) ?_
 have k23 := k23_err hck
 have k26 := k26_err (b := b) (r := r) (way := l) hck
 have k28 := acall_pure (P := Tryz.prog) (m := fun _ => none) (nx := 1) (k28_err (b := b) (r := r) hck)
 have hWe : ∀ d, WitP f b r d -> d = .tup [.z, B false, I (checkR f)] := fun d hd => by unfold WitP at hd; rw [if_neg hck] at hd; exact hd
 have hCe : cwD f b r l = .tup [B false, I (checkR f)] := by rw [cwD, if_neg hck]
 rw [hCe] at k26
 clear hCe
 generalize checkR f = e at *
 have kneq : (e != 0) = true := by simpa using hck
 rw [rs6, sk6]
 refine w_seq_region_g ?_
 refine J51 ?_;refine J1 ?_
 refine ao_end (w_ghost (ghost_fr [(0, encFlow f, 26)] ⟨rfl, trivial⟩ (l := [(1, I b), (2, I r), (3, encInts l), (4, .pt (encFlow f))]) ⟨rfl, rfl, rfl, rfl, trivial⟩) (w_assoc (w_seq_region ?_)))
 refine J36 ?_;refine cl k15 ?_;refine J29 ?_;refine J2 ?_;refine J49 ?_;refine J27 ?_;refine J37 ?_;refine J9 ?_
 refine ao_end (w_seq_if rfl (fun h => ?_) fun h => w_seq_skip (w_seq_region ?_))
 ·refine w_assoc (w_seq_region ?_)
  refine cl k17 ?_;refine J1 ?_
  exact ao_end (w_seq_ret (q_ret1 rfl rfl))
 refine J36 ?_;refine cl k23 ?_;refine J33 ?_;refine J104 ?_;refine J104 ?_;refine J40 ?_;refine J23 ?_;refine J23 ?_;refine J3 ?_;refine er ?_;refine J36 ?_;refine J0 ?_;refine J0 ?_;refine J17 ?_;refine cl k26 ?_;refine J33 ?_;refine J52 ?_;refine J40 ?_;refine J1 ?_;refine J3 ?_;refine er ?_;refine J36 ?_;refine J0 ?_;refine J0 ?_
 refine ao_ac k28 rfl (by repeat' (first | exact trivial | exact rfl | refine And.intro ?_ ?_)) fun d m' nx' hp => ?_
 obtain ⟨hd, rfl, rfl⟩ := hp
 rw [hWe d hd]
 refine J33 ?_;refine J104 ?_;refine J52 ?_;refine J40 ?_;refine J23 ?_;refine J1 ?_;refine J3 ?_
 refine ao_end (w_assoc (w_seq_region ?_))
 refine J0 ?_;refine J73 ?_;refine J2 ?_;refine z fun _ _ => ?_;refine z fun _ _ => ?_;refine J21 ?_;refine J2 ?_;refine z fun _ _ => ?_;refine z fun _ _ => ?_;refine J21 ?_
 refine ao_end (w_seq_if rfl (fun h => ?_) fun h => (by cases h))
 refine w_assoc (w_seq_region ?_)
 refine cl k17 ?_;refine J2 ?_;refine J11 ?_;refine J11 ?_;refine J19 ?_;refine J21 ?_;refine J1 ?_
 refine ao_end (w_seq_ret (q_ret1 (d := .s (.bool _)) rfl ?_))
 simp
set_option maxHeartbeats 1000000 in
theorem k6_ok {f : Flow} {b r : Int} {l : List Int} (k17 : PCall Tryz.prog 17 [] (B true)) (hck : checkR f = 0) : PCall Tryz.prog 6 [.agg (encFlow f), I b, I r, encInts l] (B true) := by
 have k15 := k15 (f := f)
 have htr : ∀ a ∈ [D.agg (encFlow f), I b, I r, encInts l], Tr a := .cons (.agg (trs_flow f)) (.cons (.s _) (.cons (.s _) (.cons (tr_ints _) .nil)))
 refine pcall_of mixed ok6 (by rw [nt6]; rfl) htr (Tr.s _) ?_
 have hf : formedB f = true := by
  unfold checkR at hck
  split at hck
  ·assumption
  ·cases hck
 have hok := flowOk hf
 have k23 := k23_ok hck
 have k26g : ∀ way, PCall Tryz.prog 26 [.agg (encFlow f), I b, I r, encInts way] (cwD f b r way) := fun way => k26_ok hck
 have k28 := acall_pure (P := Tryz.prog) (m := fun _ => none) (nx := 1) (k28_ok (b := b) (r := r) hck)
 rw [rs6, sk6]
 refine w_seq_region_g ?_
 refine J51 ?_;refine J1 ?_
 refine ao_end (w_ghost (ghost_fr [(0, encFlow f, 26)] ⟨rfl, trivial⟩ (l := [(1, I b), (2, I r), (3, encInts l), (4, .pt (encFlow f))]) ⟨rfl, rfl, rfl, rfl, trivial⟩) (w_assoc (w_seq_region ?_)))
 refine J36 ?_;refine cl k15 ?_;refine J29 ?_;refine J2 ?_;refine J49 ?_;refine J27 ?_;refine J37 ?_;refine J9 ?_
 refine ao_end (w_seq_if rfl (fun h => ?_) fun h => w_seq_skip (w_seq_region ?_))
 ·refine w_assoc (w_seq_region ?_)
  refine cl k17 ?_;refine J1 ?_
  exact ao_end (w_seq_ret (q_ret1 rfl rfl))
 have hfew : fewB f = true := by
  revert h
  cases fewB f <;> simp
 have hn24 : f.blocks.length <= 24 := by
  have := few1_le hfew
  have := hok.lim
  omega
 clear h k15
 refine J36 ?_;refine cl k23 ?_;refine J33 ?_;refine J72 ?_;refine J72 ?_;refine J40 ?_;refine J44 ?_;refine J44 ?_;refine J3 ?_;refine er ?_
 have k26 := k26g l
 by_cases ha : argsOk f b r
 ·have hbi := withinR_iff.1 ha.1
  obtain ⟨bn, rfl⟩ := Int.eq_ofNat_of_zero_le hbi.1
  obtain ⟨rn, rfl⟩ := Int.eq_ofNat_of_zero_le ha.2.1
  have hrn : rn < f.regs.length := by have := ha.2.2; omega
  have hbn : bn < f.blocks.length := by omega
  obtain ⟨li, hli, hlh⟩ := live_has hok hbn hrn
  have hcw : ∀ way, cwD f bn rn way = .tup [B (cwB f bn rn way), I 0] := fun way => by rw [cwD, if_pos hck, if_pos ha]
  have hsound : cwB f bn rn l = true -> cntF f bn = true /\ LvG f rn bn := cw_lv hok
  have hgood : ∀ way, cntF f bn = true -> GoodWay f bn rn way -> cwB f bn rn way = true := fun way hc hg => good_cw hok hn24 hbn hc hg
  have hW : ∀ d, WitP f bn rn d -> (cntF f bn = true /\ LvG f rn bn /\ ∃ way, d = .tup [encInts way, B true, I 0] /\ GoodWay f bn rn way) \/ (¬ (cntF f bn = true /\ LvG f rn bn) /\ d = .tup [.z, B false, I 0]) := fun d hd => by
   unfold WitP at hd
   rw [if_pos hck, if_pos (show withinR f.blocks.length (bn : Int) = true /\ 0 <= (rn : Int) /\ (rn : Int) < f.regs.length from ha)] at hd
   simpa only [Int.toNat_natCast, cntF] using hd
  have k30 := k30 (l := li) (v := (rn : Int))
  have hlen : (livesIn f).length = f.blocks.length := by
   have := (live_spec (lg_ok hok) (ord_in hok)).1.ok.ln
   unfold livesIn
   rw [List.length_map]; exact this
  rw [hcw] at k26
  generalize cwB f bn rn l = okw at k26 hsound
  generalize hasL li rn = lives at k30 hlh
  refine J36 ?_;refine J0 ?_;refine J0 ?_;refine J17 ?_;refine cl k26 ?_;refine J33 ?_;refine J52 ?_;refine J40 ?_;refine J1 ?_;refine J3 ?_;refine er ?_;refine J36 ?_;refine J0 ?_;refine J0 ?_
  refine ao_ac k28 rfl (by repeat' (first | exact trivial | exact rfl | refine And.intro ?_ ?_)) fun d m' nx' hp => ?_
  obtain ⟨hd, rfl, rfl⟩ := hp
  have hge : decide ((livesIn f).length <= bn) = false := by rw [hlen]; exact decide_eq_false (by omega)
  rcases hW d hd with ⟨hc, hL, way, rfl, hgw⟩ | ⟨hnot, rfl⟩
  ·have hlv : lives = true := hlh.2 ⟨hc, hL⟩
   subst hlv
   have k26 := k26g way
   rw [hcw, hgood way hc hgw] at k26
   refine J33 ?_;refine J72 ?_;refine J52 ?_;refine J40 ?_;refine J44 ?_;refine J1 ?_;refine J3 ?_
   refine ao_end (w_assoc (w_seq_region ?_))
   refine J0 ?_;refine J39 ?_;refine J2 ?_;refine J11 ?_;refine J58 ?_;refine J15 ?_;refine J2 ?_;refine J11 ?_;refine J58 ?_;refine J15 ?_
   refine ao_end (w_seq_if rfl (fun h => (by cases h)) fun _ => w_seq_skip (w_assoc (w_seq_region ?_)))
   refine J0 ?_;refine J16 ?_;refine J2 ?_;refine J11 ?_;refine J49 ?_;refine J27 ?_;refine J128 ?_;refine J15 ?_
   refine ao_end (w_seq_if rfl (fun h => ?_) fun _ => w_seq_skip (w_seq_region ?_))
   ·exfalso
    revert h
    simp
    omega
   refine J17 ?_;refine J0 ?_;refine J25 ?_;refine J4 ?_;refine J0 ?_;refine cl k30 ?_;refine J1 ?_
   refine ao_end (w_assoc (w_seq_region ?_))
   refine J2 ?_;refine J2 ?_
   refine ao_p (e_bneq rfl rfl) ak V.h ?_
   refine J2 ?_;refine J28 ?_;refine J28 ?_;refine J28 ?_;refine J31 ?_;refine J65 ?_;refine J15 ?_
   refine ao_end (w_seq_if rfl (fun h => ?_) fun _ => w_seq_skip (w_assoc (w_seq_region ?_)))
   ·exfalso
    revert h
    cases okw <;> simp
   refine J2 ?_;refine J29 ?_
   refine ao_end (w_seq_if rfl (fun h => (by cases h)) fun _ => w_seq_skip (w_seq_region ?_))
   refine J36 ?_;refine J0 ?_;refine J0 ?_;refine J17 ?_;refine cl k26 ?_;refine J33 ?_;refine J52 ?_;refine J40 ?_;refine J1 ?_;refine J3 ?_;refine er ?_;refine cl k17 ?_;refine J2 ?_;refine J28 ?_;refine J21 ?_;refine J2 ?_;refine J11 ?_;refine J19 ?_;refine J21 ?_;refine J1 ?_
   refine ao_end (q_ret1 (d := B true) rfl ?_)
   rfl
  ·have hlv : lives = false := by
    cases lives with
    | false => rfl
    | true => exact absurd (hlh.1 rfl) hnot
   have hokw : okw = false := by
    cases okw with
    | false => rfl
    | true => exact absurd (hsound rfl) hnot
   subst hlv hokw
   refine J33 ?_;refine J104 ?_;refine J52 ?_;refine J40 ?_;refine J23 ?_;refine J1 ?_;refine J3 ?_
   refine ao_end (w_assoc (w_seq_region ?_))
   refine J0 ?_;refine J39 ?_;refine J2 ?_;refine J11 ?_;refine J58 ?_;refine J15 ?_;refine J2 ?_;refine J11 ?_;refine J58 ?_;refine J15 ?_
   refine ao_end (w_seq_if rfl (fun h => (by cases h)) fun _ => w_seq_skip (w_assoc (w_seq_region ?_)))
   refine J0 ?_;refine J16 ?_;refine J2 ?_;refine J11 ?_;refine J49 ?_;refine J27 ?_;refine J128 ?_;refine J15 ?_
   refine ao_end (w_seq_if rfl (fun h => ?_) fun _ => w_seq_skip (w_seq_region ?_))
   ·exfalso
    revert h
    simp
    omega
   refine J17 ?_;refine J0 ?_;refine J25 ?_;refine J4 ?_;refine J0 ?_;refine cl k30 ?_;refine J1 ?_
   refine ao_end (w_assoc (w_seq_region ?_))
   refine J2 ?_;refine J2 ?_
   refine ao_p (e_bneq rfl rfl) ak V.h ?_
   refine J2 ?_;refine J28 ?_;refine J28 ?_;refine J28 ?_;refine J31 ?_;refine J86 ?_;refine J15 ?_
   refine ao_end (w_seq_if rfl (fun h => (by cases h)) fun _ => w_seq_skip (w_assoc (w_seq_region ?_)))
   refine J2 ?_;refine J29 ?_
   refine ao_end (w_seq_if rfl (fun _ => ?_) fun h => (by cases h))
   refine w_assoc (w_seq_region ?_)
   refine cl k17 ?_;refine J1 ?_
   exact ao_end (w_seq_ret (q_ret1 rfl rfl))
 ·have hcw : cwD f b r l = .tup [B false, I 1] := by rw [cwD, if_pos hck, if_neg ha]
  have hW : ∀ d, WitP f b r d -> d = .tup [.z, B false, I 1] := fun d hd => by
   unfold WitP at hd
   rw [if_pos hck, if_neg (show ¬ (withinR f.blocks.length b = true /\ 0 <= r /\ r < f.regs.length) from ha)] at hd
   exact hd
  rw [hcw] at k26
  refine J36 ?_;refine J0 ?_;refine J0 ?_;refine J17 ?_;refine cl k26 ?_;refine J33 ?_;refine J52 ?_;refine J40 ?_;refine J1 ?_;refine J3 ?_;refine er ?_;refine J36 ?_;refine J0 ?_;refine J0 ?_
  refine ao_ac k28 rfl (by repeat' (first | exact trivial | exact rfl | refine And.intro ?_ ?_)) fun d m' nx' hp => ?_
  obtain ⟨hd, rfl, rfl⟩ := hp
  rw [hW d hd]
  refine J33 ?_;refine J104 ?_;refine J52 ?_;refine J40 ?_;refine J23 ?_;refine J1 ?_;refine J3 ?_
  refine ao_end (w_assoc (w_seq_region ?_))
  refine J0 ?_;refine J39 ?_;refine J2 ?_;refine J11 ?_;refine J58 ?_;refine J15 ?_;refine J2 ?_;refine z fun _ _ => ?_;refine z fun _ _ => ?_;refine J21 ?_
  refine ao_end (w_seq_if rfl (fun h => ?_) fun h => (by cases h))
  refine w_assoc (w_seq_region ?_)
  refine cl k17 ?_;refine J2 ?_;refine J11 ?_;refine J11 ?_;refine J19 ?_;refine J21 ?_;refine J1 ?_
  refine ao_end (w_seq_ret (q_ret1 (d := .s (.bool _)) rfl ?_))
  rfl
theorem k6 {f : Flow} {b r : Int} {l : List Int} (k17 : PCall Tryz.prog 17 [] (B true)) : PCall Tryz.prog 6 [.agg (encFlow f), I b, I r, encInts l] (B true) := by
 by_cases h : checkR f = 0
 ·exact k6_ok k17 h
 ·exact k6_err k17 h
end Go.Proofs.Tryz.K
end
section
open Go Go.Abs Go.Proofs Go.Argus
namespace Go.Abs
def eqV : Value -> Value -> Bool
 | .int k n, .int k' n' => decide (k = k') && decide (n = n')
 | .bool a, .bool b => a == b
 | .string a, .string b => decide (a = b)
 | _, _ => false
theorem eqV_eq {a b : Value} (h : eqV a b = true) : a = b := by
 unfold eqV at h
 split at h
 ·rw [Bool.and_eq_true, decide_eq_true_eq, decide_eq_true_eq] at h
  rw [h.1, h.2]
 ·rw [show _ = _ from eq_of_beq h]
 ·rw [of_decide_eq_true h]
 ·cases h
def eqLs (g : D -> D -> Bool) : List D -> List D -> Bool
 | [], [] => true
 | a :: xs, b :: bs => g a b && eqLs g xs bs
 | _, _ => false
def eqW : Nat -> D -> D -> Bool
 | 0, _, _ => false
 | _ + 1, .s a, .s b => eqV a b
 | _ + 1, .z, .z => true
 | _ + 1, .sl [] 0, .z => true
 | k + 1, .agg a, .agg b => eqLs (eqW k) a b
 | k + 1, .tup a, .tup b => eqLs (eqW k) a b
 | k + 1, .sl a n, .sl b m => Nat.beq n m && eqLs (eqW k) a b
 | k + 1, .pt a, .pt b => eqLs (eqW k) a b
 | _ + 1, _, _ => false
theorem eqLs_get {g : D -> D -> Bool} : ∀ {xs bs : List D}, eqLs g xs bs = true -> xs.length = bs.length /\ ∀ (k : Nat) a, xs[k]? = some a -> ∃ b, bs[k]? = some b /\ g a b = true
 | [], [], _ => ⟨rfl, fun k a h => by simp at h⟩
 | a :: xs, b :: bs, h => by
  simp only [eqLs, Bool.and_eq_true] at h
  obtain ⟨h1, h2⟩ := eqLs_get h.2
  refine ⟨by simp [h1], fun k x hx => ?_⟩
  cases k with
  | zero => simp at hx; subst hx; exact ⟨b, rfl, h.1⟩
  | succ k => exact h2 k x (by simpa using hx)
 | [], _ :: _, h => by simp [eqLs] at h
 | _ :: _, [], h => by simp [eqLs] at h
theorem eqW_R {F : Nat -> Prop} {β : Pla} {w : World} : ∀ (k : Nat) {a b : D} {v : Value}, eqW k a b = true -> R F β w b v -> R F β w a v
 | 0, a, b, v, h, _ => by simp [eqW] at h
 | k + 1, a, b, v, h, hv => by
  unfold eqW at h
  split at h
  ·cases h
  ·rename_i e; rw [eqV_eq h]; exact hv
  ·exact hv
  ·obtain ⟨x, rfl⟩ := hv.z_inv
   exact .sln x 0
  ·rename_i a b e
   cases e
   obtain ⟨h1, h2⟩ := eqLs_get h
   cases hv with
   | agg _ vs hl hh =>
    refine .agg _ vs (by omega) fun j d u hd hu => ?_
    obtain ⟨b', hb, hg⟩ := h2 j d hd
    exact eqW_R k hg (hh j b' u hb hu)
  ·rename_i a b e
   cases e
   obtain ⟨h1, h2⟩ := eqLs_get h
   cases hv with
   | tup _ vs hl hh =>
    refine .tup _ vs (by omega) fun j d u hd hu => ?_
    obtain ⟨b', hb, hg⟩ := h2 j d hd
    exact eqW_R k hg (hh j b' u hb hu)
  ·rename_i a n b m e
   cases e
   rw [Bool.and_eq_true] at h
   have hnm : n = m := Nat.eq_of_beq_eq_true h.1
   obtain ⟨h1, h2⟩ := eqLs_get h.2
   subst hnm
   cases hv with
   | sln a' cap =>
    have : a = [] := List.length_eq_zero_iff.1 (by simpa using h1)
    subst this
    exact .sln _ _
   | sl _ _ b' o cap us g1 g2 g3 g4 g5 g6 g7 =>
    refine .sl _ _ b' o cap us g1 g2 g3 g4 g5 (fun j hj => g6 j (by omega)) fun j d hd => ?_
    obtain ⟨d', hb, hg⟩ := h2 j d hd
    exact eqW_R k hg (g7 j d' hb)
  ·rename_i a b e
   cases e
   obtain ⟨h1, h2⟩ := eqLs_get h
   cases hv with
   | pt _ b' o us g1 g2 g3 g6 g7 =>
    refine .pt _ b' o us g1 g2 g3 (fun j hj => g6 j (by omega)) fun j d hd => ?_
    obtain ⟨d', hb, hg⟩ := h2 j d hd
    exact eqW_R k hg (g7 j d' hb)
  ·cases h
theorem pcall_weak {P : Program} {f : FuncId} {args args' : List D} {r : D} {k : Nat} (hc : PCall P f args' r) (h : eqLs (eqW k) args' args = true) (ht : ∀ a ∈ args, Tr a) : PCall P f args r := by
 obtain ⟨h1, h2⟩ := eqLs_get h
 refine ⟨hc.1, ht, fun F w vs hF hR => hc.2.2 F w vs hF ⟨by rw [hR.1, h1], fun j d v hd hv => ?_⟩⟩
 obtain ⟨b, hb, hg⟩ := h2 j d hd
 exact eqW_R k hg (hR.2 j b v hb hv)
theorem seq_weak {P : Program} {f : FuncId} {fs fs' : List D} {xs : List (List D)} {k : Nat} (hc : SeqA P f fs' [] xs) (h : eqLs (eqW k) fs' fs = true) : SeqA P f fs [] xs := by
 obtain ⟨h1, h2⟩ := eqLs_get h
 refine ⟨hc.1, fun F l I Stop m nx β w vs hI hS hm hn hR hy h0 => hc.2 F l I Stop m nx β w vs hI hS hm hn ⟨?_, fun j d v hd hv => ?_⟩ hy h0⟩
 ·have := hR.1
  simp only [List.length_append] at this ⊢
  omega
 ·rcases Nat.lt_or_ge j fs'.length with g | g
  ·rw [List.append_nil, List.getElem?_append_left g] at hd
   obtain ⟨b, hb, hg⟩ := h2 j d hd
   exact eqW_R k hg (hR.2 j b v (by rw [List.append_nil, List.getElem?_append_left (by omega)]; exact hb) hv)
  ·rw [List.append_nil, List.getElem?_append_right g] at hd
   exact hR.2 j d v (by rw [List.append_nil, List.getElem?_append_right (by omega), <- h1]; exact hd) hv
def knownT (t : List (FuncId × List D × D)) (f : FuncId) (args : List D) : Option D := (t.find? fun x => Nat.beq x.1 f && (eqLs (eqW 20) x.2.1 args && args.all (trB depth))).map (·.2.2)
def iterT (t : List (FuncId × List D × List (List D))) (f : FuncId) (fs cs : List D) : Option (List (List D)) := match cs with
 | [] => (t.find? fun x => Nat.beq x.1 f && eqLs (eqW 20) x.2.1 fs).map (·.2.2)
 | _ => none
theorem knownT_ok {P : Program} {t : List (FuncId × List D × D)} (h : ∀ x ∈ t, PCall P x.1 x.2.1 x.2.2) {f : FuncId} {args : List D} {r : D} (hr : knownT t f args = some r) : PCall P f args r := by
 unfold knownT at hr
 rw [Option.map_eq_some_iff] at hr
 obtain ⟨x, hx, rfl⟩ := hr
 have h1 := List.find?_some hx
 rw [Bool.and_eq_true, Bool.and_eq_true] at h1
 have hf : x.1 = f := Nat.eq_of_beq_eq_true h1.1
 have := h x (List.mem_of_find?_eq_some hx)
 rw [hf] at this
 exact pcall_weak this h1.2.1 fun a ha => trB_Tr (List.all_eq_true.1 h1.2.2 a ha)
theorem iterT_ok {P : Program} {t : List (FuncId × List D × List (List D))} (h : ∀ x ∈ t, SeqA P x.1 x.2.1 [] x.2.2 /\ ∀ y ∈ x.2.2, ∀ d ∈ y, Tr d) {f : FuncId} {fs cs : List D} {xs : List (List D)} (hr : iterT t f fs cs = some xs) : SeqA P f fs cs xs /\ ∀ y ∈ xs, ∀ d ∈ y, Tr d := by
 unfold iterT at hr
 split at hr
 ·rw [Option.map_eq_some_iff] at hr
  obtain ⟨x, hx, rfl⟩ := hr
  have h1 := List.find?_some hx
  rw [Bool.and_eq_true] at h1
  have hf : x.1 = f := Nat.eq_of_beq_eq_true h1.1
  have h2 := h x (List.mem_of_find?_eq_some hx)
  rw [hf] at h2
  exact ⟨seq_weak h2.1 h1.2, h2.2⟩
 ·cases hr
end Go.Abs
end
section
open Go Go.Abs Go.Proofs Go.Argus
namespace Go.Argus
def allI (cnt : List Bool) (k : Nat) : List Int := ((List.range k).filter fun i => cnt.getD i false).map fun (i : Nat) => (i : Int)
theorem allI_succ (cnt : List Bool) (k : Nat) : allI cnt (k + 1) = if cnt.getD k false = true then allI cnt k ++ [(k : Int)] else allI cnt k := by
 unfold allI
 rw [List.range_succ, List.filter_append, List.map_append]
 by_cases h : cnt.getD k false = true
 ·rw [if_pos h, List.filter_cons_of_pos (by exact h)]; rfl
 ·rw [if_neg h, List.filter_cons_of_neg (by exact h), List.filter_nil, List.map_nil, List.append_nil]
theorem allI_pre (cnt : List Bool) : ∀ {k n : Nat}, k <= n -> ∃ t, allI cnt n = allI cnt k ++ t
 | k, 0, h => by
  have : k = 0 := by omega
  subst this
  exact ⟨[], by simp⟩
 | k, n + 1, h => by
  rcases Nat.lt_or_ge k (n + 1) with g | g
  ·obtain ⟨t, ht⟩ := allI_pre cnt (k := k) (n := n) (by omega)
   rw [allI_succ]
   split
   ·exact ⟨t ++ [(n : Int)], by rw [ht, List.append_assoc]⟩
   ·exact ⟨t, ht⟩
  ·have : k = n + 1 := by omega
   subst this
   exact ⟨[], by simp⟩
theorem allI_at {cnt : List Bool} {k n : Nat} (hk : k < n) (hc : cnt.getD k false = true) : (allI cnt n)[(allI cnt k).length]? = some (k : Int) := by
 obtain ⟨t, ht⟩ := allI_pre cnt (k := k + 1) (n := n) (by omega)
 rw [ht, allI_succ, if_pos hc, List.append_assoc, List.getElem?_append_right (Nat.le_refl _), Nat.sub_self]
 rfl
end Go.Argus
namespace Go.Proofs.Tryz.K
set_option maxRecDepth 10000
theorem s61 {f : Flow} {beh ahd : List (List Int)} {cnt : List Bool} (hlen : cnt.length <= 100000) : SeqA Tryz.prog 61 [.pt (encGraph f beh ahd (encBools cnt))] [] ((allI cnt cnt.length).map fun n => [I n]) := by
 refine seq_of mixed ok61 (by rw [nt61]; rfl) fun L I' Stop m nx hI hStop h0 => ?_
 rw [rs61, sk61]
 refine w_seq_region_g ?_
 refine J30 ?_;refine J48 ?_;refine J5 ?_;refine J4 ?_;refine J14 ?_;refine J0 ?_
 refine ao_end (w_range (α := Nat × Mem × Nat) (fun k => ⟨envL [(1, .fn (.yield L) [] []), (9, encBools cnt), (10, I cnt.length), (11, I k.1)], k.2.1, k.2.2⟩)
  (fun k => k.1 <= cnt.length /\ I' (allI cnt k.1).length k.2.1 k.2.2) (fun k => cnt.length - k.1) (0, m, nx) (ghost_of ⟨rfl, rfl, rfl, rfl, trivial⟩) ⟨Nat.zero_le _, h0⟩ ?_)
 rintro ⟨k, m, nx⟩ ⟨hk, hI3⟩
 dsimp only at hk hI3 ⊢
 refine J16 ?_
 refine ao_end ⟨_, rfl, fun h => ?_, fun h => ?_⟩
 ·have hlt : k < cnt.length := by simpa using h
  have hx : cnt[k]? = some cnt[k] := List.getElem?_eq_getElem hlt
  have hg : cnt.getD k false = cnt[k] := getD_some hx
  have hs := allI_succ cnt k
  have hat : cnt.getD k false = true -> ((allI cnt cnt.length).map fun n => [I n])[(allI cnt k).length]? = some [I k] := fun h => by
   rw [List.getElem?_map, allI_at hlt h]; rfl
  rw [hg] at hs hat
  generalize cnt[k] = c at hx hs hat
  refine ws ?_;refine J0 ?_;refine J25 ?_;refine J4 ?_;refine J3 ?_;refine J1 ?_;refine er ?_
  cases c with
  | false =>
   refine J2 ?_;refine J2 ?_;refine z fun _ _ => ?_;refine z fun _ _ => ?_;refine z fun _ _ => ?_;refine z fun _ _ => ?_;refine J15 ?_
   refine ao_end (w_if rfl (fun h => (by cases h)) fun _ => w_end ?_)
   refine J10 ?_;refine J0 ?_
   refine ao_end (next_of (k + 1, m, nx) (ghost_of ⟨rfl, rfl, rfl, rfl, trivial⟩) ⟨by dsimp only; omega, ?_⟩ (by dsimp only; omega))
   dsimp only
   rw [hs]
   exact hI3
  | true =>
   refine J2 ?_;refine J2 ?_;refine J111 ?_;refine J11 ?_
   refine ao_gy rfl rfl rfl rfl (by repeat' (first | exact trivial | exact rfl | refine And.intro ?_ ?_)) ⟨rfl, _, hat rfl, hI3, fun d m' nx' hp => ?_⟩
   rcases hp with ⟨rfl, hp⟩ | ⟨rfl, hp⟩
   ·refine J31 ?_;refine J21 ?_
    refine ao_end (w_if rfl (fun h => (by cases h)) fun _ => w_end ?_)
    refine J10 ?_;refine J0 ?_
    refine ao_end (next_of (k + 1, m', nx') (ghost_of ⟨rfl, rfl, rfl, rfl, trivial⟩) ⟨by dsimp only; omega, ?_⟩ (by dsimp only; omega))
    dsimp only
    rw [hs, if_pos rfl, List.length_append]
    exact hp
   ·refine J31 ?_;refine J21 ?_
    exact ao_end (w_if rfl (fun _ => w_ret (j_body (q_ret0 (.inr hp)))) fun h => (by cases h))
 ·have hge : ¬ k < cnt.length := by simpa using h
  have : k = cnt.length := by omega
  subst this
  exact q_end0 (.inl (by rw [List.length_map]; exact hI3))
end Go.Proofs.Tryz.K
end
section
open Go Go.Abs Go.Proofs Go.Argus
namespace Go.Argus
def sumE (k a to els : Int) (x : Ins) : End := ⟨k, a, 0, to, els, ⟨#[]⟩, x, [], [], -1⟩
def sumF : Flow := ⟨⟨#[115, 117, 109]⟩, false, 1, 1, [1, 1, 1], [], [], [⟨[⟨1, 1, 0, 0, 0, []⟩], sumE 1 0 1 0 noIns0⟩, ⟨[], sumE 2 0 2 3 noIns0⟩, ⟨[⟨1, 2, 0, 0, -1, []⟩], sumE 5 0 4 0 ⟨30, 1, 1, 0, 0, []⟩⟩, ⟨[], sumE 3 1 0 0 noIns0⟩, ⟨[], sumE 5 0 1 0 ⟨30, 0, 0, 2, 0, []⟩⟩]⟩
def sumG : List D := encGraph sumF [[1], [2, 3], [4], [], [1]] [[], [0, 4], [1], [1], [2]] (encBools [true, true, true, true, true])
end Go.Argus
namespace Go.Proofs.Tryz.K
set_option maxRecDepth 100000
theorem sum_check : checkR sumF = 0 := by kernel_rfl
theorem sum_graph : graphR sumF = sumG := by kernel_rfl
end Go.Proofs.Tryz.K
end
section
open Go Go.Abs Go.Proofs Go.Argus
namespace Go.Argus
def word1 (n : Int) : List Int := n :: List.replicate 18 0
def sumIn : D := .sl (encWs ([1, 3, 3, 2, 7].map word1)) 5
def sumOut : D := .sl (encWs ([3, 3, 7, 2, 7].map word1)) 5
end Go.Argus
namespace Go.Proofs.Tryz.K
set_option maxRecDepth 100000
theorem sum_inn : (liveR (lgR sumF) 5 (ordL sumF)).inn = [1, 3, 3, 2, 7].map word1 := by kernel_rfl
theorem sum_out : (liveR (lgR sumF) 5 (ordL sumF)).out = [3, 3, 7, 2, 7].map word1 := by kernel_rfl
theorem sum51 : PCall Tryz.prog 51 [.agg (encFlow sumF)] (.tup [.pt sumG, I 0]) := by
 have h := k51_ok sum_check
 rw [sum_graph] at h
 exact h
theorem sum_ok : FlowOk sumF := by
 have h : formedB sumF = true := by kernel_rfl
 exact flowOk h
theorem sum65 : PCall Tryz.prog 65 [.pt sumG] (.tup [sumIn, sumOut]) := by
 have h := k65 (n := 5) sum_ok rfl (c := encBools (reachR (behF (behR sumF)) sumF.blocks.length (-1))) (.sl (.map fun _ => .s _)) rfl
 change PCall _ _ [.pt (graphR sumF)] _ at h
 rw [sum_inn, sum_out, sum_graph] at h
 exact h
def sumAll : List (List D) := [[I 0], [I 1], [I 2], [I 3], [I 4]]
theorem sum61 : SeqA Tryz.prog 61 [.pt sumG] [] sumAll := s61 (f := sumF) (cnt := [true, true, true, true, true]) (by decide)
noncomputable def cx1 : Ctx := ⟨fun f => tabT.get f, iterT [(61, [.pt sumG], sumAll)], knownT [(51, [.agg (encFlow sumF)], .tup [.pt sumG, I 0]), (65, [.pt sumG], .tup [sumIn, sumOut])]⟩
theorem cx1_ok : cx1.Ok Tryz.prog := ⟨mixed, tab_ok, fun _ _ _ _ h => iterT_ok (fun x hx => by
  simp only [List.mem_singleton] at hx
  subst hx
  refine ⟨sum61, fun y hy d hd => ?_⟩
  simp only [sumAll, List.mem_cons, List.not_mem_nil, or_false] at hy
  rcases hy with rfl | rfl | rfl | rfl | rfl <;> (simp only [List.mem_singleton] at hd; subst hd; exact .s _)) h,
 fun _ _ _ h => knownT_ok (fun x hx => by
  simp only [List.mem_cons, List.not_mem_nil, or_false] at hx
  rcases hx with rfl | rfl
  ·exact sum51
  ·exact sum65) h⟩
end Go.Proofs.Tryz.K
end
section
open Go Go.Abs Go.Proofs Go.Argus
namespace Go.Abs
def partsC : Nat -> Code -> List Code
 | k + 1, .seq a b => a :: partsC k b
 | _, _ => []
def restC : Nat -> Code -> Code
 | k + 1, .seq a b => restC k b
 | _, c => c
theorem parts_eq : ∀ (k : Nat) (c : Code), c = (partsC k c).foldr .seq (restC k c)
 | 0, c => by cases c <;> rfl
 | k + 1, c => by
  cases c with
  | seq a b =>
   show Code.seq a b = .seq a ((partsC k b).foldr .seq (restC k b))
   rw [<- parts_eq k b]
  | _ => rfl
def evList (ev : Bool -> Code -> CSt -> Option (Exit × CSt)) : List Code -> CSt -> Option CSt
 | [], s => some s
 | c :: cs, s => match ev true c s with
  | some (.normal, s') => evList ev cs s'
  | _ => none
theorem evList_aw {P : Program} {ev : Bool -> Code -> CSt -> Option (Exit × CSt)} (hev : EvOk P ev) {B : Code} {Q : Exit -> St -> Prop} : ∀ {cs : List Code} {c : Code} {s s' : CSt}, evList ev (c :: cs) s = some s' -> (∃ st', Ghost P s'.st st' /\ AW P noY true B Q st') -> AW P noY true ((c :: cs).foldr .seq B) Q s.st
 | [], c, s, s', h, k => by
  simp only [evList] at h
  split at h
  ·rename_i s1 he
   cases h
   exact w_cut_g (fun st => st = s'.st) (hev _ _ _ _ _ he _ rfl) fun st e => e ▸ k
  ·cases h
 | d :: cs, c, s, s', h, k => by
  rw [evList] at h
  split at h
  ·rename_i s1 he
   exact w_cut_g (fun st => st = s1.st) (hev _ _ _ _ _ he _ rfl) fun st e => ⟨s1.st, e ▸ .refl _, evList_aw hev h k⟩
  ·cases h
end Go.Abs
namespace Go.Proofs.Tryz.K
set_option maxRecDepth 100000
open Go.Abs
theorem rest39 : restC 6 body39 = .seq (.seq (.region 16 (Z body39 319) false) (.block 6 (.loop (.seq (.region 17 (Z body39 2239) false) (.seq (.cond (.tmp 83) .skip (.exit 6)) (.seq (.block 7 (.seq (.region 18 (Z body39 36031) false) (.seq (.region 19 (Z body39 85183) false) (.region 20 (Z body39 117951) true)))) (.region 21 (Z body39 15551) false))))))) (.seq (.region 22 (Z body39 383) false) .ret) := by rw [sk39]; rfl
def m39 : List (Nat × Row) := [(4, .cells [.z, .rs 11 0 1, .rs 9 0 1, .z, .rs 7 0 1] 27), (5, .cells [.rs 4 0 5] 28), (7, .cells [I 1] 3), (9, .cells [I 1] 3), (11, .cells [I 1] 3)]
noncomputable def s39 : Option CSt := match ofArgs 0 [.agg (encFlow sumF)] .leaf with
 | some t => evList (evC Tryz.prog cx1 1000) (partsC 6 body39) ⟨t, .leaf, 0⟩
 | none => none
theorem f39 : (s39.map fun s => (envF s.env 7, memF s.mem 4, memF s.mem 5, memF s.mem 7, memF s.mem 9, memF s.mem 11, s.nx)) = some (.rp 5 0, some (.cells [.z, .rs 11 0 1, .rs 9 0 1, .z, .rs 7 0 1] 27), some (.cells [.rs 4 0 5] 28), some (.cells [I 1] 3), some (.cells [I 1] 3), some (.cells [I 1] 3), 12) := by kernel_rfl
end Go.Proofs.Tryz.K
end
section
open Go Go.Abs Go.Proofs Go.Argus
namespace Go.Argus
def frontD : D := .sl [.z, .sl [I 1] 1, .sl [I 1] 1, .z, .sl [I 1] 1] 5
end Go.Argus
namespace Go.Proofs.Tryz.K
set_option maxRecDepth 10000
theorem k89z : PCall Tryz.prog 89 [.z] (.tup []) := pcall_ev cx0_ok 100 rfl (by kernel_rfl)
theorem k90z : PCall Tryz.prog 90 [.z] .z := pcall_ev cx0_ok 100 rfl (by kernel_rfl)
theorem w39 : AW Tryz.prog noY true (.seq (.seq (.region 16 (Z body39 319) false) (.block 6 (.loop (.seq (.region 17 (Z body39 2239) false) (.seq (.cond (.tmp 83) .skip (.exit 6)) (.seq (.block 7 (.seq (.region 18 (Z body39 36031) false) (.seq (.region 19 (Z body39 85183) false) (.region 20 (Z body39 117951) true)))) (.region 21 (Z body39 15551) false))))))) (.seq (.region 22 (Z body39 383) false) .ret)) (retQ Tryz.prog [.tmp 2, .tmp 3] fun d _ => d = .tup [frontD, I 0]) ⟨envL [(7, .rp 5 0)], memL m39, 12⟩ := by
 refine w_assoc (w_seq_region_g ?_)
 refine J24 ?_;refine J147 ?_;refine J0 ?_
 refine ao_end (w_then (fun s => Ghost Tryz.prog s ⟨envL [(7, .rp 5 0)], memL m39, 12⟩) (w_range (α := Nat) (fun k => ⟨envL [(7, .rp 5 0), (81, I 5), (82, I k)], memL m39, 12⟩) (fun k => k <= 5) (fun k => 5 - k) 0 (ghost_st ⟨rfl, rfl, rfl, trivial⟩ ⟨rfl, rfl, rfl, rfl, rfl, trivial⟩) (Nat.zero_le _) ?_) ?_)
 ·intro k hk
  refine J16 ?_
  refine ao_end ⟨_, rfl, fun h => ?_, fun h => ?_⟩
  ·have hlt : k < 5 := by have h : (k : Int) < 5 := by simpa using h
                          omega
   have hc : k = 0 \/ k = 3 \/ k = 1 \/ k = 2 \/ k = 4 := by omega
   rcases hc with rfl | rfl | rfl | rfl | rfl
   ·have k89 := k89z
    have k90 := k90z
    refine ws ?_;refine J0 ?_;refine J3 ?_;refine er ?_;refine J24 ?_;refine J0 ?_;refine J45 ?_;refine J24 ?_;refine cl k89 ?_
    refine ao_end (w_drawB di_r39_20 ?_)
    refine J24 ?_;refine J0 ?_;refine J24 ?_;refine J0 ?_;refine J45 ?_;refine J24 ?_;refine cl k90 ?_;refine J45 ?_;refine J43 ?_
    refine ao_endc (by simp [apartT]) ?_
    refine J10 ?_;refine J0 ?_
    exact ao_end (next_of (0 + 1) (ghost_st ⟨rfl, rfl, rfl, trivial⟩ ⟨rfl, rfl, rfl, rfl, rfl, trivial⟩) (by omega) (by omega))
   ·have k89 := k89z
    have k90 := k90z
    refine ws ?_;refine J0 ?_;refine J3 ?_;refine er ?_;refine J24 ?_;refine J0 ?_;refine J45 ?_;refine J24 ?_;refine cl k89 ?_
    refine ao_end (w_drawB di_r39_20 ?_)
    refine J24 ?_;refine J0 ?_;refine J24 ?_;refine J0 ?_;refine J45 ?_;refine J24 ?_;refine cl k90 ?_;refine J45 ?_;refine J43 ?_
    refine ao_endc (by simp [apartT]) ?_
    refine J10 ?_;refine J0 ?_
    exact ao_end (next_of (3 + 1) (ghost_st ⟨rfl, rfl, rfl, trivial⟩ ⟨rfl, rfl, rfl, rfl, rfl, trivial⟩) (by omega) (by omega))
   ·refine ws ?_;refine J0 ?_;refine J3 ?_
    refine ao_end (w_seq_region_g ?_)
    refine J24 ?_;refine J0 ?_;refine J45 ?_;refine J24 ?_
    refine ao_ac (k89 (i := 11) (l := [1]) (by omega) rfl rfl (by decide)) rfl (by repeat' (first | exact trivial | exact rfl | refine And.intro ?_ ?_)) fun d m' nx' hp => ?_
    obtain ⟨rfl, rfl, rfl⟩ := hp
    refine ao_end (w_ghost (ghost_st (l := [(7, .rp 5 0), (12, I 1), (81, I 5), (82, I 1)]) (ml := m39) ⟨rfl, rfl, rfl, rfl, trivial⟩ ⟨rfl, rfl, rfl, rfl, rfl, trivial⟩) (w_drawB di_r39_20 ?_))
    refine J24 ?_;refine J0 ?_;refine J24 ?_;refine J0 ?_;refine J45 ?_;refine J24 ?_
    refine ao_uc (r := .rs 11 0 1) (ups := [(11, some (.cells [I 1] 3))]) (rds := [11]) (fun m2 nx2 hm2 => ?_) (fun i hi => ?_) rfl (by repeat' (first | exact trivial | exact rfl | refine And.intro ?_ ?_)) ?_
    ·have e := hm2 11 (by simp) (by simp [m39, memL])
     have e : m2 11 = some (.cells ([1].map I) 3) := e
     refine acall_lt e ok90.he fun hlt2 => (k90e (d := [1]) hlt2 e rfl (by decide)).mono ?_
     rintro r m' nx' ⟨h1, h2, h3⟩
     exact ⟨h2, h3, h1⟩
    ·simp at hi
     subst hi
     exact ⟨by simp, by simp [m39, memL]⟩
    show AOps _ _ _ _ _ _ _ ⟨up _ 96 _, up (memL m39) 11 (some (.cells [I 1] 3)), _⟩ _
    refine J45 ?_;refine J156 ?_
    refine ao_endc (by simp [apartT]) ?_
    refine J10 ?_;refine J0 ?_
    exact ao_end (next_of (1 + 1) (ghost_st ⟨rfl, rfl, rfl, trivial⟩ ⟨rfl, rfl, rfl, rfl, rfl, trivial⟩) (by omega) (by omega))
   ·refine ws ?_;refine J0 ?_;refine J3 ?_
    refine ao_end (w_seq_region_g ?_)
    refine J24 ?_;refine J0 ?_;refine J45 ?_;refine J24 ?_
    refine ao_ac (k89 (i := 9) (l := [1]) (by omega) rfl rfl (by decide)) rfl (by repeat' (first | exact trivial | exact rfl | refine And.intro ?_ ?_)) fun d m' nx' hp => ?_
    obtain ⟨rfl, rfl, rfl⟩ := hp
    refine ao_end (w_ghost (ghost_st (l := [(7, .rp 5 0), (12, I 2), (81, I 5), (82, I 2)]) (ml := m39) ⟨rfl, rfl, rfl, rfl, trivial⟩ ⟨rfl, rfl, rfl, rfl, rfl, trivial⟩) (w_drawB di_r39_20 ?_))
    refine J24 ?_;refine J0 ?_;refine J24 ?_;refine J0 ?_;refine J45 ?_;refine J24 ?_
    refine ao_uc (r := .rs 9 0 1) (ups := [(9, some (.cells [I 1] 3))]) (rds := [9]) (fun m2 nx2 hm2 => ?_) (fun i hi => ?_) rfl (by repeat' (first | exact trivial | exact rfl | refine And.intro ?_ ?_)) ?_
    ·have e := hm2 9 (by simp) (by simp [m39, memL])
     have e : m2 9 = some (.cells ([1].map I) 3) := e
     refine acall_lt e ok90.he fun hlt2 => (k90e (d := [1]) hlt2 e rfl (by decide)).mono ?_
     rintro r m' nx' ⟨h1, h2, h3⟩
     exact ⟨h2, h3, h1⟩
    ·simp at hi
     subst hi
     exact ⟨by simp, by simp [m39, memL]⟩
    show AOps _ _ _ _ _ _ _ ⟨up _ 96 _, up (memL m39) 9 (some (.cells [I 1] 3)), _⟩ _
    refine J45 ?_;refine J156 ?_
    refine ao_endc (by simp [apartT]) ?_
    refine J10 ?_;refine J0 ?_
    exact ao_end (next_of (2 + 1) (ghost_st ⟨rfl, rfl, rfl, trivial⟩ ⟨rfl, rfl, rfl, rfl, rfl, trivial⟩) (by omega) (by omega))
   ·refine ws ?_;refine J0 ?_;refine J3 ?_
    refine ao_end (w_seq_region_g ?_)
    refine J24 ?_;refine J0 ?_;refine J45 ?_;refine J24 ?_
    refine ao_ac (k89 (i := 7) (l := [1]) (by omega) rfl rfl (by decide)) rfl (by repeat' (first | exact trivial | exact rfl | refine And.intro ?_ ?_)) fun d m' nx' hp => ?_
    obtain ⟨rfl, rfl, rfl⟩ := hp
    refine ao_end (w_ghost (ghost_st (l := [(7, .rp 5 0), (12, I 4), (81, I 5), (82, I 4)]) (ml := m39) ⟨rfl, rfl, rfl, rfl, trivial⟩ ⟨rfl, rfl, rfl, rfl, rfl, trivial⟩) (w_drawB di_r39_20 ?_))
    refine J24 ?_;refine J0 ?_;refine J24 ?_;refine J0 ?_;refine J45 ?_;refine J24 ?_
    refine ao_uc (r := .rs 7 0 1) (ups := [(7, some (.cells [I 1] 3))]) (rds := [7]) (fun m2 nx2 hm2 => ?_) (fun i hi => ?_) rfl (by repeat' (first | exact trivial | exact rfl | refine And.intro ?_ ?_)) ?_
    ·have e := hm2 7 (by simp) (by simp [m39, memL])
     have e : m2 7 = some (.cells ([1].map I) 3) := e
     refine acall_lt e ok90.he fun hlt2 => (k90e (d := [1]) hlt2 e rfl (by decide)).mono ?_
     rintro r m' nx' ⟨h1, h2, h3⟩
     exact ⟨h2, h3, h1⟩
    ·simp at hi
     subst hi
     exact ⟨by simp, by simp [m39, memL]⟩
    show AOps _ _ _ _ _ _ _ ⟨up _ 96 _, up (memL m39) 7 (some (.cells [I 1] 3)), _⟩ _
    refine J45 ?_;refine J156 ?_
    refine ao_endc (by simp [apartT]) ?_
    refine J10 ?_;refine J0 ?_
    exact ao_end (next_of (4 + 1) (ghost_st ⟨rfl, rfl, rfl, trivial⟩ ⟨rfl, rfl, rfl, rfl, rfl, trivial⟩) (by omega) (by omega))
  ·have hge : ¬ k < 5 := by intro hh; simp at h; omega
   exact ghost_st ⟨rfl, trivial⟩ ⟨rfl, rfl, rfl, rfl, rfl, trivial⟩
 ·intro s hg
  refine ⟨_, hg, w_seq_region_g ?_⟩
  refine J24 ?_;refine J18 ?_;refine J3 ?_
  refine ao_end (w_ghost (ghost_fr [(7, [I 1], 3), (9, [I 1], 3), (11, [I 1], 3), (4, [.z, .sl [I 1] 1, .sl [I 1] 1, .z, .sl [I 1] 1], 27)] ⟨rfl, rfl, rfl, rfl, trivial⟩ (l := [(2, frontD), (3, I 0)]) ⟨?_, rfl, trivial⟩) (q_ret2 rfl rfl rfl))
  show sub (fz0 4 _ (Tryz.prog.cellsOf 27)) (.rs 4 0 5) = _
  exact sub_rs_eq (by rw [c27]; rfl)
theorem sum39 : PCall Tryz.prog 39 [.agg (encFlow sumF)] (.tup [frontD, I 0]) := by
 have hti : ∀ n, Tr (I n) := fun n => .s _
 have htr : Tr (.tup [frontD, I 0]) := trB_Tr (n := 5) rfl
 refine pcall_of mixed ok39 (by rw [nt39]; rfl) (.cons (.agg (trs_flow sumF)) .nil) htr ?_
 rw [rs39]
 have h := f39
 unfold s39 at h
 cases ho : ofArgs 0 [.agg (encFlow sumF)] .leaf with
 | none => rw [ho] at h; cases h
 | some t =>
  rw [ho] at h
  simp only [Option.map_eq_some_iff] at h
  obtain ⟨s, hs, he⟩ := h
  have henv := ofArgs_env ho
  have hst : (⟨t, .leaf, 0⟩ : CSt).st = ⟨envOf [.agg (encFlow sumF)], fun _ => none, 0⟩ := by
   unfold CSt.st
   rw [henv, memF_leaf]
  rw [<- hst, parts_eq 6 body39]
  have hp : ∃ c cs, partsC 6 body39 = c :: cs := by
   rw [sk39]
   exact ⟨_, _, rfl⟩
  obtain ⟨c, cs, hcs⟩ := hp
  rw [hcs] at hs ⊢
  refine evList_aw (evC_ok cx1_ok 1000) hs ?_
  rw [rest39]
  simp only [Prod.mk.injEq] at he
  obtain ⟨e7, e4, e5, e71, e9, e11, enx⟩ := he
  refine ⟨⟨envL [(7, .rp 5 0)], memL m39, 12⟩, ?_, w39⟩
  have : s.st = ⟨envF s.env, memF s.mem, 12⟩ := by unfold CSt.st; rw [enx]
  rw [this]
  exact ghost_st ⟨e7, trivial⟩ ⟨e4, e5, e71, e9, e11, trivial⟩
end Go.Proofs.Tryz.K
end
section
open Go Go.Abs Go.Proofs Go.Argus
namespace Go.Proofs.Tryz.K
set_option maxRecDepth 100000
noncomputable def cx2 : Ctx := ⟨fun f => tabT.get f, iterT [(61, [.pt sumG], sumAll)], knownT [(51, [.agg (encFlow sumF)], .tup [.pt sumG, I 0]), (65, [.pt sumG], .tup [sumIn, sumOut]), (39, [.agg (encFlow sumF)], .tup [frontD, I 0])]⟩
theorem cx2_ok : cx2.Ok Tryz.prog := ⟨mixed, tab_ok, fun _ _ _ _ h => iterT_ok (fun x hx => by
  simp only [List.mem_singleton] at hx
  subst hx
  refine ⟨sum61, fun y hy d hd => ?_⟩
  simp only [sumAll, List.mem_cons, List.not_mem_nil, or_false] at hy
  rcases hy with rfl | rfl | rfl | rfl | rfl <;> (simp only [List.mem_singleton] at hd; subst hd; exact .s _)) h,
 fun _ _ _ h => knownT_ok (fun x hx => by
  simp only [List.mem_cons, List.not_mem_nil, or_false] at hx
  rcases hx with rfl | rfl | rfl
  ·exact sum51
  ·exact sum65
  ·exact sum39) h⟩
theorem k17 : PCall Tryz.prog 17 [] (B true) := pcall_ev cx2_ok 1000 rfl (by kernel_rfl)
theorem domReads {f : Flow} {b r : Int} {l : List Int} : PCall Tryz.prog 6 [.agg (encFlow f), I b, I r, encInts l] (B true) := k6 k17
end Go.Proofs.Tryz.K
end
section
namespace Go.Proofs.YtonoegleildfnaaGreat
open Go.Abs Go.Argus
theorem ownK : ownKnob Tryz.prog.godebug = none := by kernel_rfl
theorem laidOut : laidOutB Tryz.prog = true := by kernel_rfl
theorem boolT : Tryz.prog.underlying 4 = some .bool := by kernel_rfl
theorem readsRead : (Tryz.f6.params.toList.all fun t => Tryz.prog.readableRec t && decide (t < Tryz.prog.types.size)) = true := by kernel_rfl
theorem readsRes : Tryz.f6.resultTypes = #[4] := by kernel_rfl
theorem readsSh : shTs Tryz.prog 8 Tryz.f6.params.toList = some [flowSh, i64Sh, i64Sh, .sl i64Sh] := by kernel_rfl
theorem readsSize : Tryz.f6.params.size = 4 := by kernel_rfl
theorem readsArgs (ds : List D) (h : ArgsOf [flowSh, i64Sh, i64Sh, .sl i64Sh] ds) : PCall Tryz.prog 6 ds (.s (.bool true)) := by
 cases h with
 | cons x h => cases h with
  | cons b h => cases h with
   | cons r h => cases h with
    | cons l h => cases h with
     | nil =>
      rw [enc_flow]
      exact Eq.mpr (congrArg (fun d => PCall Tryz.prog 6 [.agg (encFlow (flowOf x)), I b, I r, d] (B true)) (enc_ints l)) Tryz.K.domReads
set_option maxRecDepth 100000 in
theorem readsLifted (os : Os) (started : os.Started) (H : Type) (enc : TypeId × Value -> H) :
  ReturnsInHanded {} Tryz.checked os 6 .any (Rows.domReadsSpec.pre6 enc Tryz.prog Tryz.f6 Rows.domReadsRow.domain false) (Rows.domReadsSpec.post enc Tryz.prog Tryz.f6 false true false false) := by
 refine returnsInHanded_of_change (C := Tryz.checked) ownK started (by kernel_rfl) Tryz.func6
  (ChangeSpec.witness6 (enc := enc) (C := Tryz.checked) false ⟨#[], #[.agg #[.string ⟨#[]⟩, .bool false, .int .i64 0, .int .u8 0, .slice none 0 0, .slice none 0 0, .slice none 0 0, .slice none 0 0], .int .i64 0, .int .i64 0, .slice none 0 0], []⟩ 8 (by kernel_rfl) (by kernel_rfl) (by kernel_rfl) (by kernel_rfl)) ?_
 intro W base args ds gs before hval hW _ _
 refine law_contract (C := Tryz.checked) rfl (fun ds h => ?_) laidOut readsRead readsRes boolT readsSh readsArgs W base args ds gs before hval hW
 rw [readsSize] at h
 match ds, h with
 | [d1, d2, d3, d4], _ => rfl
theorem domReads_holds : Rows.DomReadsSaid :=
 OpenClaim.holds_of_wide 6 Tryz.f6 rfl rfl rfl rfl rfl rfl rfl ⟨rfl, rfl, rfl, rfl, rfl⟩ rfl rfl rfl rfl rfl (by kernel_rfl) Tryz.func6 (by kernel_rfl)
  (of_decide_eq_true (by kernel_rfl)) (by unfold Func.isWrapper; rw [if_neg (of_decide_eq_false (by kernel_rfl))]; exact ⟨rfl, rfl⟩)
  (fun os started H enc _ => readsLifted os started H enc)
#print axioms domReads_holds
end Go.Proofs.YtonoegleildfnaaGreat
end
