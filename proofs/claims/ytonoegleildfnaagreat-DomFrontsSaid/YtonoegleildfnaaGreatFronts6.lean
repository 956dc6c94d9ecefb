/- DomFronts: for every flow and two blocks the law answers true, and each argument reads as before. No condition. -/
import Derived.Test.YtonoegleildfnaaGreatFronts5
import Derived.Test.YtonoegleildfnaaGreatRows
section
open Go Go.Abs Go.Proofs Go.Argus
namespace Go.Argus
theorem overI_stop {par : List Int} {a x : Int} (h : ¬ (x ≠ -1 /\ x ≠ a)) : ∀ k, overI par k a x = decide (x = a)
 | 0 => rfl
 | k + 1 => by rw [overI, if_neg h]
def upTo (beh : Nat -> List Int) (n k : Nat) (x : Int) : Prop := x = -1 \/ ∃ m : Nat, x = m /\ inRch beh n m /\ plN beh n m < k
theorem upTo_step {beh ahd : Nat -> List Int} {n : Nat} (h : ParG beh ahd n) (k : Nat) (x : Int) (hx : upTo beh n k x) (hne : x ≠ -1) :
  ∃ m j : Nat, x = m /\ m < (parentsR beh ahd n).length /\ k = j + 1 /\ upTo beh n j (stP (parentsR beh ahd n) m) := by
 obtain ⟨m, rfl, rm, hk⟩ := hx.resolve_left hne
 refine ⟨m, k - 1, rfl, by rw [parents_len h]; exact inR_lt h rm, by omega, ?_⟩
 by_cases hz : m = 0
 ·subst hz; exact .inl (par_zero h)
 ·obtain ⟨p1, p2, p3⟩ := par_up h rm hz
  exact .inr ⟨_, p1, p2, by omega⟩
def behG (f : Flow) : Nat -> List Int := behF (behR f)
def ahdG (f : Flow) : Nat -> List Int := behF (aheadR f.blocks)
theorem ahdG_eq {f : Flow} {c : Nat} (h : c < f.blocks.length) : ahdG f c = aheadL f.blocks f.blocks.length c := by
 unfold ahdG behF
 rw [List.getD_eq_getElem?_getD, aheadR_get rfl h]; rfl
theorem ahdG_out {f : Flow} {c : Nat} (h : f.blocks.length <= c) : ahdG f c = [] := by
 unfold ahdG behF
 rw [List.getD_eq_getElem?_getD, List.getElem?_eq_none (by simp [aheadR]; omega)]; rfl
theorem parG {f : Flow} (h : FlowOk f) : ParG (behG f) (ahdG f) f.blocks.length := by
 refine ⟨h.pos, Go.Proofs.Tryz.K.beh_in h, fun c a => ?_⟩
 rcases Nat.lt_or_ge c f.blocks.length with g | g
 ·rw [ahdG_eq g, mem_aheadL]
  constructor
  ·rintro ⟨b, rfl, hb, x, hx, t, ht, e⟩
   refine ⟨by omega, hb, ?_⟩
   show (c : Int) ∈ behF (behR f) _
   rw [Int.toNat_natCast, behR_get hx]
   have := Go.Proofs.Tryz.K.beh_in h b t (by rw [behR_get hx]; exact ht)
   have e2 : (c : Int) = t := by omega
   rw [e2]; exact ht
  ·rintro ⟨h0, hl, hm⟩
   obtain ⟨b, rfl⟩ := Int.eq_ofNat_of_zero_le h0
   rw [Int.toNat_natCast] at hl hm
   have hx := List.getElem?_eq_getElem hl
   have hm : (c : Int) ∈ behF (behR f) b := hm
   rw [behR_get hx] at hm
   exact ⟨b, rfl, hl, _, hx, c, hm, by omega⟩
 ·rw [ahdG_out g]
  refine ⟨fun x => by simp at x, fun ⟨_, _, hm⟩ => ?_⟩
  have := (Go.Proofs.Tryz.K.beh_in h _ _ hm).2
  omega
theorem ahdG_len {f : Flow} (h : FlowOk f) (b : Nat) : (ahdG f b).length <= 100000 := by
 rcases Nat.lt_or_ge b f.blocks.length with g | g
 ·rw [ahdG_eq g]
  have := aheadL_len (bs := f.blocks) (fun b hb => by have := (h.ends b hb).wh; omega) f.blocks.length b
  have := h.lim
  omega
 ·rw [ahdG_out g]; simp
def domD (f : Flow) (a b : Int) : D := if checkR f = 0 then (if 0 <= a /\ a < f.blocks.length /\ 0 <= b /\ b < f.blocks.length then .tup [B (domR (behG f) (ahdG f) f.blocks.length a.toNat b.toNat), I 0] else .tup [B false, I 1]) else .tup [B false, I (checkR f)]
theorem tr_dom (f : Flow) (a b : Int) : Tr (domD f a b) := by
 unfold domD
 split
 ·split <;> exact .tup (.cons (.s _) (.cons (.s _) .nil))
 ·exact .tup (.cons (.s _) (.cons (.s _) .nil))
end Go.Argus
namespace Go.Proofs.Tryz.K
set_option maxRecDepth 10000
theorem k87 {par : List Int} {a b : Int} {k0 : Nat} (P : Nat -> Int -> Prop) (h0 : P k0 b) (hs : ∀ k x, P k x -> x ≠ -1 -> ∃ m j : Nat, x = m /\ m < par.length /\ k = j + 1 /\ P j (stP par m)) :
  PCall prog 87 [encInts par, I a, I b] (B (overI par k0 a b)) := by
 refine pcall_of mixed ok87 (by rw [nt87]; rfl) (.cons (tr_ints _) (.cons (.s _) (.cons (.s _) .nil))) (Tr.s _) ?_
 rw [rs87, sk87]
 refine w_seq_region_g ?_
 refine J1 ?_
 refine ao_end (w_then (fun s => ∃ x : Int, Ghost prog s ⟨envL [(1, I a), (2, I x)], fun _ => none, 0⟩ /\ overI par k0 a b = decide (x = a)) (w_while (α := Nat × Int) (fun s => ⟨envL [(0, encInts par), (1, I a), (2, I s.2)], fun _ => none, 0⟩)
  (fun s => P s.1 s.2 /\ overI par k0 a b = overI par s.1 a s.2) (fun s => s.1) (k0, b) (ghost_of eH) ⟨h0, rfl⟩ ?_) ?_)
 ·rintro ⟨k, x⟩ ⟨hP, hR⟩
  dsimp only at hP hR ⊢
  refine J0 ?_;refine J34 ?_;refine J2 ?_;refine J10 ?_;refine J10 ?_;refine J39 ?_;refine J9 ?_
  refine ao_end ⟨_, rfl, fun h => ?_, fun h => ?_⟩
  ·have hx : x ≠ -1 /\ x ≠ a := by simpa using h
   obtain ⟨m, j, rfl, hm, rfl, hP'⟩ := hs k x hP hx.1
   rw [overI, if_pos hx] at hR
   have hpm : par[m]? = some (stP par m) := by
    have := List.getElem?_eq_getElem hm
    rw [this]; simp [stP, List.getD_eq_getElem?_getD, this]
   generalize stP par m = y at hpm hP' hR
   refine w_regB2 ?_
   refine J15 ?_;refine J0 ?_;refine J18 ?_;refine J4 ?_;refine J3 ?_
   refine ao_end (next_of (j, y) (ghost_of eH) ⟨hP', hR⟩ (Nat.lt_succ_self _))
  ·have hx : ¬ (x ≠ -1 /\ x ≠ a) := by simpa using h
   exact ⟨x, ghost_of eH, hR.trans (overI_stop hx k)⟩
 ·rintro s ⟨x, hg, hR⟩
  refine ⟨_, hg, w_seq_region ?_⟩
  refine J0 ?_;refine J0 ?_;refine J8 ?_;refine J1 ?_
  refine ao_end (q_ret1 rfl ?_)
  show B (x == a) = _
  rw [hR]
  exact congrArg B (by by_cases e : x = a <;> simp [e])
theorem k60f {f : Flow} (h : FlowOk f) {c : D} (hc : Tr c) (hc1 : c.one = true) : PCall prog 60 [.pt (encGraph f (behR f) (aheadR f.blocks) c)] (encInts (parentsR (behG f) (ahdG f) f.blocks.length)) :=
 k60 hc hc1 (by simp [behR]) (by simp [aheadR]) rfl h.lim (parG h) (beh_len h) (ahdG_len h)
theorem k37_err {f : Flow} {a b : Int} (hck : checkR f ≠ 0) : PCall prog 37 [.agg (encFlow f), I a, I b] (domD f a b) := by
 have k51 := k51_err hck
 refine pcall_of mixed ok37 (by rw [nt37]; rfl) (.cons (.agg (trs_flow f)) (.cons (.s _) (.cons (.s _) .nil))) (tr_dom f a b) ?_
 rw [domD, if_neg hck]
 generalize checkR f = e at k51 hck
 have kneq : (e != 0) = true := by simpa using hck
 rw [rs37, sk37]
 refine w_seq_region_g ?_
 refine J40 ?_;refine J1 ?_;refine J3 ?_
 refine ao_end (w_ghost (ghost_fr [(0, encFlow f, 26)] eH (l := [(1, I a), (2, I b), (3, .pt (encFlow f))]) eH) (w_seq_region ?_))
 refine J28 ?_;refine cl k51 ?_;refine J26 ?_;refine J111 ?_;refine J30 ?_;refine J91 ?_;refine J3 ?_
 refine ao_end (w_assoc (w_seq_region ?_))
 refine J0 ?_;refine J61 ?_
 refine ao_end (w_seq_if rfl (fun _ => ?_) fun h => (by cases h))
 refine w_assoc (w_seq_region ?_)
 refine J0 ?_;refine J1 ?_;refine J3 ?_
 exact ao_end (w_seq_ret (q_ret2 rfl rfl rfl))
theorem k37_ok {f : Flow} {a b : Int} (hck : checkR f = 0) : PCall prog 37 [.agg (encFlow f), I a, I b] (domD f a b) := by
 have k51 := k51_ok hck
 have hf : formedB f = true := by
  unfold checkR at hck
  split at hck
  ·assumption
  ·cases hck
 have hok := flowOk hf
 have hg := parG hok
 refine pcall_of mixed ok37 (by rw [nt37]; rfl) (.cons (.agg (trs_flow f)) (.cons (.s _) (.cons (.s _) .nil))) (tr_dom f a b) ?_
 rw [domD, if_pos hck]
 have hgr : graphR f = encGraph f (behR f) (aheadR f.blocks) (encBools (reachR (behG f) f.blocks.length (-1))) := rfl
 have k69g : ∀ b, PCall prog 69 [.pt (graphR f), I b] (B (withinR f.blocks.length b)) := fun b => k69 (f := f) (beh := behR f) (ahd := aheadR f.blocks) (c := encBools (reachR (behF (behR f)) f.blocks.length (-1))) (.sl (.map fun _ => .s _)) rfl (b := b)
 have k60 := k60f hok (c := encBools (reachR (behG f) f.blocks.length (-1))) (.sl (.map fun _ => .s _)) rfl
 rw [<- hgr] at k60
 rw [rs37, sk37]
 refine w_seq_region_g ?_
 refine J40 ?_;refine J1 ?_;refine J3 ?_
 refine ao_end (w_ghost (ghost_fr [(0, encFlow f, 26)] eH (l := [(1, I a), (2, I b), (3, .pt (encFlow f))]) eH) (w_seq_region ?_))
 refine J28 ?_;refine cl k51 ?_;refine J26 ?_;refine J112 ?_;refine J30 ?_;refine J110 ?_;refine J3 ?_
 refine ao_end (w_assoc (w_seq_region ?_))
 refine J0 ?_;refine J34 ?_
 refine ao_end (w_seq_if rfl (fun h => (by cases h)) fun _ => w_seq_skip (w_assoc (w_seq_region ?_)))
 have k69 := k69g a
 have k69' := k69g b
 generalize hwa : withinR f.blocks.length a = wa at k69
 generalize hwb : withinR f.blocks.length b = wb at k69'
 refine J29 ?_;refine J0 ?_;refine cl k69 ?_;refine J32 ?_;refine J2 ?_;refine J51 ?_;refine J10 ?_;refine gc k69' ?_;refine J33 ?_;refine J9 ?_
 refine ao_end (w_seq_if rfl (fun hp => ?_) fun hp => w_seq_skip (w_seq_region ?_))
 ·refine w_assoc (w_seq_region ?_)
  refine J1 ?_;refine J3 ?_
  refine ao_end (w_seq_ret (q_ret2 rfl rfl ?_))
  have hne : ¬ (0 <= a /\ a < f.blocks.length /\ 0 <= b /\ b < f.blocks.length) := by
   rintro ⟨h1, h2, h3, h4⟩
   have e1 := withinR_iff.2 ⟨h1, h2⟩
   have e2 := withinR_iff.2 ⟨h3, h4⟩
   rw [hwa] at e1
   rw [hwb] at e2
   subst e1 e2
   simp at hp
  rw [if_neg hne]
  rfl
 ·have e1 : wa = true := by revert hp; cases wa <;> simp
  have e2 : wb = true := by revert hp; cases wa <;> cases wb <;> simp
  subst e1 e2
  obtain ⟨a1, a2⟩ := withinR_iff.1 hwa
  obtain ⟨b1, b2⟩ := withinR_iff.1 hwb
  obtain ⟨an, rfl⟩ := Int.eq_ofNat_of_zero_le a1
  obtain ⟨bn, rfl⟩ := Int.eq_ofNat_of_zero_le b1
  rw [if_pos ⟨a1, a2, b1, b2⟩]
  have hrl := reach_len (w := -1) hg.to hg.pos
  have hca : (reachR (behG f) f.blocks.length (-1))[an]? = some ((reachR (behG f) f.blocks.length (-1)).getD an false) := by
   have := List.getElem?_eq_getElem (show an < (reachR (behG f) f.blocks.length (-1)).length by omega)
   rw [List.getD_eq_getElem?_getD, this]; rfl
  have hcb : (reachR (behG f) f.blocks.length (-1))[bn]? = some ((reachR (behG f) f.blocks.length (-1)).getD bn false) := by
   have := List.getElem?_eq_getElem (show bn < (reachR (behG f) f.blocks.length (-1)).length by omega)
   rw [List.getD_eq_getElem?_getD, this]; rfl
  have hdom : domR (behG f) (ahdG f) f.blocks.length (an : Int).toNat (bn : Int).toNat = ((reachR (behG f) f.blocks.length (-1)).getD an false && ((reachR (behG f) f.blocks.length (-1)).getD bn false && overI (parentsR (behG f) (ahdG f) f.blocks.length) (f.blocks.length + 1) an bn)) := rfl
  rw [hdom]
  have k87 : (reachR (behG f) f.blocks.length (-1)).getD bn false = true -> PCall prog 87 [encInts (parentsR (behG f) (ahdG f) f.blocks.length), I an, I bn] (B (overI (parentsR (behG f) (ahdG f) f.blocks.length) (f.blocks.length + 1) an bn)) := fun hb =>
   k87 (upTo (behG f) f.blocks.length) (.inr ⟨bn, rfl, hb, by have := plN_lt hg hb; have := ord_le hg; omega⟩) (upTo_step hg)
  clear k69g k69 k69' hwa hwb hp hdom
  rw [hgr] at k60 ⊢
  generalize parentsR (behG f) (ahdG f) f.blocks.length = par at k60 k87
  generalize reachR (behG f) f.blocks.length (-1) = cnt at hca hcb k60 k87 hrl
  generalize overI par (f.blocks.length + 1) an bn = r at k87
  generalize cnt.getD an false = ca at hca
  generalize cnt.getD bn false = cb at hcb k87
  have k87 : ((if ca = true then cb else false) == true) = true -> PCall prog 87 [encInts par, I an, I bn] (B r) := fun h => k87 (by revert h; cases ca <;> simp)
  have hcl : cnt.length < 2000 := by have := hok.lim; omega
  have e : (if (if ca = true then cb else false) = true then r else false) = (ca && (cb && r)) := by cases ca <;> cases cb <;> rfl
  rw [<- e]
  refine J29 ?_;refine J43 ?_;refine J5 ?_;refine J4 ?_;refine J0 ?_;refine J18 ?_;refine J4 ?_;refine J2 ?_;refine J51 ?_;refine J75 ?_;refine J7 ?_;refine J6 ?_;refine J10 ?_;refine J53 ?_;refine J6 ?_;refine J9 ?_;refine J2 ?_;refine J51 ?_;refine gc k60 ?_;refine J10 ?_;refine J10 ?_
  refine ao_gpc rfl rfl rfl (fun hc => ⟨ak, k87 hc⟩) ?_
  refine J9 ?_;refine J1 ?_;refine J3 ?_
  exact ao_end (q_ret2 rfl rfl rfl)
theorem k37 {f : Flow} {a b : Int} : PCall prog 37 [.agg (encFlow f), I a, I b] (domD f a b) := by
 by_cases h : checkR f = 0
 ·exact k37_ok h
 ·exact k37_err h
end Go.Proofs.Tryz.K
end
section
open Go Go.Abs Go.Proofs Go.Argus
namespace Go.Argus
def aheadD (f : Flow) (b : Int) : D := if checkR f = 0 then (if 0 <= b /\ b < f.blocks.length then .tup [encInts (ahdG f b.toNat), I 0] else .tup [.z, I 1]) else .tup [.z, I (checkR f)]
theorem tr_ahead (f : Flow) (b : Int) : Tr (aheadD f b) := by
 unfold aheadD
 split
 ·split
  ·exact .tup (.cons (tr_ints _) (.cons (.s _) .nil))
  ·exact .tup (.cons .z (.cons (.s _) .nil))
 ·exact .tup (.cons .z (.cons (.s _) .nil))
end Go.Argus
namespace Go.Proofs.Tryz.K
set_option maxRecDepth 10000
theorem k46 {f : Flow} {b : Int} : PCall prog 46 [.agg (encFlow f), I b] (aheadD f b) := by
 have k95 := k95 (f := f)
 refine pcall_of mixed ok46 (by rw [nt46]; rfl) (.cons (.agg (trs_flow f)) (.cons (.s _) .nil)) (tr_ahead f b) ?_
 rw [rs46, sk46]
 by_cases hck : checkR f = 0
 ·rw [aheadD, if_pos hck]
  have hf : formedB f = true := by
   unfold checkR at hck
   split at hck
   ·assumption
   ·cases hck
  have hok := flowOk hf
  rw [hck] at k95
  have hlim := hok.lim
  have hpos := hok.pos
  have k97 := k97 (p := .s (.map none)) (q := .s (.map none)) (f := f) (.s _) (.s _) rfl rfl rfl oG (fun b hb => by have := (hok.ends b hb).wh; omega) (fun b hb t ht => by
   obtain ⟨k, hk⟩ := List.getElem?_of_mem hb
   have := beh_in hok k t (by rw [behR_get hk]; exact ht)
   omega)
  refine w_seq_region_g ?_
  refine J40 ?_;refine J19 ?_;refine J3 ?_
  refine ao_end (w_ghost (ghost_fr [(0, encFlow f, 26)] eH (l := [(1, I b), (2, .pt (encFlow f))]) eH) (w_assoc (w_seq_region ?_)))
  refine J28 ?_;refine cl k95 ?_;refine J3 ?_
  refine ao_end (w_assoc (w_seq_region ?_))
  refine J0 ?_;refine J34 ?_
  refine ao_end (w_seq_if rfl (fun h => (by cases h)) fun _ => w_seq_skip (w_assoc (w_seq_region ?_)))
  have k96 : PCall prog 96 [I b, I 0, I ((f.blocks.length : Int) - 1)] (B (inR b 0 ((f.blocks.length : Int) - 1))) := k96
  generalize hw : inR b 0 ((f.blocks.length : Int) - 1) = w at k96
  refine J0 ?_;refine J5 ?_;refine J4 ?_;refine J13 ?_;refine J55 ?_;refine cl k96 ?_;refine J32 ?_
  refine ao_end (w_seq_if rfl (fun hp => ?_) fun hp => w_seq_skip (w_seq_region ?_))
  ·refine w_assoc (w_seq_region ?_)
   refine J19 ?_;refine J3 ?_
   refine ao_end (w_seq_ret (q_ret2 rfl rfl ?_))
   have hne : ¬ (0 <= b /\ b < f.blocks.length) := by
    rintro ⟨h1, h2⟩
    have : w = true := hw ▸ inR_true.2 ⟨h1, by omega⟩
    subst this
    simp at hp
   rw [if_neg hne]
   rfl
  ·have e : w = true := by simpa using hp
   subst e
   obtain ⟨b1, b2⟩ := inR_true.1 hw
   obtain ⟨bn, rfl⟩ := Int.eq_ofNat_of_zero_le b1
   rw [if_pos ⟨b1, by omega⟩]
   have hbx : (aheadR f.blocks)[bn]? = some (ahdG f bn) := behF_get (by simp [aheadR]; omega)
   have hal : (aheadR f.blocks).length = f.blocks.length := by simp [aheadR]
   rw [Int.toNat_natCast]
   generalize ahdG f bn = l at hbx
   generalize aheadR f.blocks = al at hbx k97 hal
   refine J28 ?_;refine J136 ?_;refine cl k97 ?_;refine J0 ?_;refine J18 ?_;refine J4 ?_;refine J41 ?_;refine J3 ?_
   exact ao_end (q_ret2 rfl rfl rfl)
 ·rw [aheadD, if_neg hck]
  generalize checkR f = e at k95 hck
  have kneq : (e != 0) = true := by simpa using hck
  refine w_seq_region_g ?_
  refine J40 ?_;refine J19 ?_;refine J3 ?_
  refine ao_end (w_ghost (ghost_fr [(0, encFlow f, 26)] eH (l := [(1, I b), (2, .pt (encFlow f))]) eH) (w_assoc (w_seq_region ?_)))
  refine J28 ?_;refine cl k95 ?_;refine J3 ?_
  refine ao_end (w_assoc (w_seq_region ?_))
  refine J0 ?_;refine J61 ?_
  refine ao_end (w_seq_if rfl (fun _ => ?_) fun h => (by cases h))
  refine w_assoc (w_seq_region ?_)
  refine J0 ?_;refine J19 ?_;refine J3 ?_
  exact ao_end (w_seq_ret (q_ret2 rfl rfl rfl))
end Go.Proofs.Tryz.K
end
section
open Go Go.Abs Go.Proofs Go.Argus
namespace Go.Abs
section
variable {P : Program} {env : Env} {m : Mem} {nx : Nat} {x y : Operand} {t p : TypeId} {n n' : Int}
theorem e_mulK (hx : (opd env x).core = .s (.int .i64 n)) (hy : (opd env y).core = .s (.int .i64 n')) {r : Int} (hd : n * n' = r /\ -9223372036854775808 <= r /\ r <= 9223372036854775807) : Ef P (.binOp .mul t x y p) env m nx ⟨IntKind.i64 = IntKind.i64, .s (.int .i64 r), [], [], 0⟩ := by
 obtain ⟨rfl, h⟩ := hd
 have := e_mulw (P := P) (m := m) (nx := nx) (t := t) (p := p) hx hy
 rwa [i64_in _ h] at this
variable {Y : YSpec} {rf : Bool} {Q : Exit -> St -> Prop} {st : St} {id id2 i1 : Nat} {rc : Array Oper} {body : Code} {α : Type} {cf : List (Nat × Nat)} {u : Nat}
theorem w_whileD [YMono Y] (hi : drawInfo rc = some cf) (S : α -> St) (J : α -> Prop) (μ : α -> Nat) (x₀ : α) (h0 : st = S x₀) (hJ : J x₀)
  (h : ∀ x, J x -> AOps P Y rc true cf (endQ fun s => ∃ g, opd s.env (.tmp u) = .s (.bool g) /\ (g = true -> AW P Y rf body (bodyQ id2 id (NextS P S J μ x) Q) s) /\ (g = false -> Q .normal s)) rc.toList (S x) []) :
  AW P Y rf (.block id (.loop (.seq (.seq (.region i1 rc true) (.cond (.tmp u) .skip (.exit id))) (.block id2 body)))) Q st := by
 refine w_loopJ (Q := blockQ id Q) S J μ x₀ h0 hJ fun x hx => ?_
 refine AW_mono _ (Q := seqQ (NextS P S J μ x) (blockQ id Q)) (fun e st' hq => by
  cases e with
  | normal =>
   obtain ⟨x', h1, h2, h3⟩ := hq
   exact ⟨S x', x', h1, rfl, h2, h3⟩
  | _ => exact hq) ?_
 refine w_assoc (w_draw (rf := rf) (id := i1) hi (AOps.endq (h x hx) fun s hs => ?_))
 obtain ⟨g, h1, h2, h3⟩ := hs
 refine ⟨s, .refl s, w_seq_if h1 (fun hgt => ?_) fun hgf => ?_⟩
 ·exact w_seq_skip (block_of (h2 hgt))
 ·refine w_seq_exit ?_
  simp only [seqQ, blockQ, if_true]
  exact h3 hgf
end
end Go.Abs
namespace Go.Argus
def SortedI (l : List Int) : Prop := ∀ (i j : Nat) x y, i <= j -> l[i]? = some x -> l[j]? = some y -> x <= y
end Go.Argus
namespace Go.Proofs.Tryz.K
set_option maxRecDepth 10000
theorem k251 {l : List Int} {a b : Nat} (hs : SortedI l) (hab : a <= b) (hb : b < l.length) : PCall prog 251 [encInts l, I a, I b, .pt [I 0]] (.tup [I a, I b]) := by
 refine pcall_of mixed ok251 (by rw [nt251]; rfl) (.cons (tr_ints _) (.cons (.s _) (.cons (.s _) (.cons (.pt (.cons (.s _) .nil)) .nil)))) (.tup (.cons (.s _) (.cons (.s _) .nil))) ?_
 rw [rs251, sk251]
 have ha : l[a]? = some l[a] := List.getElem?_eq_getElem oG
 have hb' : l[b]? = some l[b] := List.getElem?_eq_getElem hb
 have hxy := hs a b _ _ hab ha hb'
 generalize l[a] = x at ha hxy
 generalize l[b] = y at hb' hxy
 have k184 := k184 (a := y) (b := x)
 have e : decide (y < x) = false := by simp; omega
 rw [e] at k184
 clear e
 refine ws ?_;refine J3 ?_;refine J3 ?_
 refine ao_end (w_assoc (w_seq_draw di_r251_1 ?_))
 refine J15 ?_;refine J0 ?_;refine J18 ?_;refine J4 ?_;refine J15 ?_;refine J0 ?_;refine J18 ?_;refine J4 ?_;refine cl k184 ?_
 refine ao_endc (by simp [apartT]) (w_seq_if rfl (fun h => (by cases h)) fun _ => w_seq_skip (w_seq_region ?_))
 refine J0 ?_;refine J0 ?_;refine J3 ?_;refine J3 ?_
 exact ao_end (q_ret2 rfl rfl rfl)
theorem k226 {l : List Int} {a b c : Nat} (hs : SortedI l) (hab : a <= b) (hbc : b <= c) (hc : c < l.length) : PCall prog 226 [encInts l, I a, I b, I c, .pt [I 0]] (I b) := by
 refine pcall_of mixed ok226 (by rw [nt226]; rfl) (.cons (tr_ints _) (.cons (.s _) (.cons (.s _) (.cons (.s _) (.cons (.pt (.cons (.s _) .nil)) .nil))))) (.s _) ?_
 rw [rs226, sk226]
 have ka := k251 hs hbc hc
 have k251 := k251 hs hab oG
 have kb := k251
 refine ws ?_;refine J3 ?_;refine er ?_;refine J15 ?_;refine J0 ?_;refine J0 ?_;refine J29 ?_;refine cl k251 ?_;refine J26 ?_;refine J30 ?_;refine J30 ?_;refine J3 ?_;refine J3 ?_;refine er ?_
 have k251 := ka
 refine J15 ?_;refine J0 ?_;refine J0 ?_;refine J29 ?_;refine cl k251 ?_;refine J26 ?_;refine J30 ?_;refine J30 ?_;refine J3 ?_;refine J3 ?_;refine er ?_
 have k251 := kb
 refine J15 ?_;refine J0 ?_;refine J0 ?_;refine J29 ?_;refine cl k251 ?_;refine J26 ?_;refine J30 ?_;refine J30 ?_;refine J3 ?_;refine J3 ?_;refine er ?_;refine J0 ?_;refine J3 ?_
 exact ao_end (q_ret1 rfl rfl)
theorem k225 {l : List Int} {a : Nat} (hs : SortedI l) (h0 : 0 < a) (hc : a + 1 < l.length) (hn : l.length <= 100000) : PCall prog 225 [encInts l, I a, .pt [I 0]] (I a) := by
 refine pcall_of mixed ok225 (by rw [nt225]; rfl) (.cons (tr_ints _) (.cons (.s _) (.cons (.pt (.cons (.s _) .nil)) .nil))) (.s _) ?_
 rw [rs225, sk225]
 have k226 : PCall prog 226 [encInts l, I ((a : Int) - 1), I a, I ((a : Int) + 1), .pt [I 0]] (I a) := by
  have := k226 (a := a - 1) (b := a) (c := a + 1) hs oG oG hc
  rwa [show ((a - 1 : Nat) : Int) = (a : Int) - 1 by omega, show ((a + 1 : Nat) : Int) = (a : Int) + 1 by omega] at this
 refine ws ?_;refine J3 ?_;refine er ?_;refine J15 ?_;refine J0 ?_;refine J55 ?_;refine J0 ?_;refine J0 ?_;refine J11 ?_;refine J29 ?_;refine cl k226 ?_;refine J3 ?_
 exact ao_end (q_ret1 rfl rfl)
theorem k181 {l : List Int} {n : Nat} (hs : SortedI l) (hn : l.length = n) (h12 : 12 < n) (hl : n <= 100000) : ∃ p : Int, PCall prog 181 [encInts l, I 0, I n] (.tup [I p, I 1]) := by
 obtain ⟨q, hq⟩ : ∃ q, n / 4 = q := ⟨_, rfl⟩
 have hq1 : 3 <= q := by omega
 have hq2 : 4 * q <= n := by omega
 have kquo : IntKind.i64.wrap (((n : Int) - 0).tdiv 4) = (q : Int) := by
  rw [Int.sub_zero, Int.tdiv_eq_ediv_of_nonneg oG, show (n : Int) / 4 = q by omega]
  exact i64_in _ oG
 refine ⟨(2 * q : Nat), ?_⟩
 refine pcall_of mixed ok181 (by rw [nt181]; rfl) (.cons (tr_ints _) (.cons (.s _) (.cons (.s _) .nil))) (.tup (.cons (.s _) (.cons (.s _) .nil))) ?_
 rw [rs181, sk181]
 refine ws ?_;refine J3 ?_;refine J3 ?_;refine er ?_;refine J0 ?_;refine J0 ?_;refine J55 ?_;refine J3 ?_
 refine ao_end (w_seq_region_g ?_)
 refine J23 ?_
 refine ao_end (w_ghost (ghost_fr [(0, [I 0], 3)] eH (l := [(0, encInts l), (1, I 0), (8, I ((n : Int) - 0)), (9, .pt [I 0])]) eH) (w_seq_region ?_))
 refine J0 ?_;refine J0 ?_;refine J78 ?_
 refine ao_p (e_mulK rfl rfl (r := ((q : Nat) : Int)) oG) (by repeat' (first | exact trivial | exact rfl | refine And.intro ?_ ?_)) rfl ?_
 refine J11 ?_;refine J3 ?_;refine er ?_;refine J0 ?_;refine J0 ?_;refine J78 ?_
 refine ao_p (e_mulK rfl rfl (r := ((2 * q : Nat) : Int)) oG) (by repeat' (first | exact trivial | exact rfl | refine And.intro ?_ ?_)) rfl ?_
 refine J11 ?_;refine J3 ?_;refine er ?_;refine J0 ?_;refine J0 ?_;refine J78 ?_
 refine ao_p (e_mulK rfl rfl (r := ((3 * q : Nat) : Int)) oG) (by repeat' (first | exact trivial | exact rfl | refine And.intro ?_ ?_)) rfl ?_
 refine J11 ?_;refine J3 ?_
 refine ao_end (w_assoc (w_seq_region ?_))
 clear kquo
 have k226 : ∀ a b c : Int, a = q -> b = (2 * q : Nat) -> c = (3 * q : Nat) -> PCall prog 226 [encInts l, I a, I b, I c, .pt [I 0]] (I ((2 * q : Nat) : Int)) := fun a b c e1 e2 e3 => by
  subst e1 e2 e3
  exact k226 hs oG oG oG
 have k225a : ∀ a : Nat, 0 < a -> a + 1 < n -> PCall prog 225 [encInts l, I (0 + (a : Int)), .pt [I 0]] (I a) := fun a h0 h1 => by
  rw [Int.zero_add]
  exact k225 hs h0 oG oG
 have kgeq : decide ((8 : Int) <= (n : Int) - 0) = true := by simp; omega
 refine J0 ?_;refine J89 ?_
 refine ao_end (w_seq_if rfl (fun _ => w_assoc (w_assoc (w_seq_region ?_))) fun h => (by cases h))
 clear kgeq
 by_cases h50 : 50 <= n
 ·have kgeq : decide ((50 : Int) <= (n : Int) - 0) = true := by simp; omega
  refine J0 ?_;refine J89 ?_
  refine ao_end (w_seq_if rfl (fun _ => w_assoc (w_seq_region ?_)) fun h => (by cases h))
  clear kgeq
  have k225 := k225a q oG oG
  refine J15 ?_;refine J0 ?_;refine cl k225 ?_;refine J3 ?_
  refine ao_end (w_assoc (w_seq_region ?_))
  have k225 := k225a (2 * q) oG oG
  refine J15 ?_;refine J0 ?_;refine cl k225 ?_;refine J3 ?_;refine er ?_
  have k225 := k225a (3 * q) oG oG
  refine J15 ?_;refine J0 ?_;refine cl k225 ?_;refine J3 ?_;refine er ?_
  have k226 := k226 _ _ _ rfl rfl rfl
  refine J15 ?_;refine J0 ?_;refine J0 ?_;refine J0 ?_;refine cl k226 ?_;refine J3 ?_;refine er ?_;refine J4 ?_
  refine ao_end (w_block (w_seq_region ?_))
  refine J8 ?_;refine J1 ?_
  refine ao_end (w_if rfl (fun _ => w_seq_region ?_) fun h => (by cases h))
  refine J0 ?_;refine J3 ?_;refine J3 ?_
  exact ao_end (w_ret (j_block (q_ret2 rfl rfl rfl)))
 ·have kgeq : decide ((50 : Int) <= (n : Int) - 0) = false := by simp; omega
  refine J0 ?_;refine J89 ?_
  refine ao_end (w_seq_if rfl (fun h => (by cases h)) fun _ => w_seq_skip (w_seq_region ?_))
  clear kgeq
  have k226 := k226 (0 + (q : Nat)) (0 + (2 * q : Nat)) (0 + (3 * q : Nat)) oG oG oG
  refine J15 ?_;refine J0 ?_;refine J0 ?_;refine J0 ?_;refine cl k226 ?_;refine J3 ?_;refine er ?_;refine J4 ?_
  refine ao_end (w_block (w_seq_region ?_))
  refine J8 ?_;refine J1 ?_
  refine ao_end (w_if rfl (fun _ => w_seq_region ?_) fun h => (by cases h))
  refine J0 ?_;refine J3 ?_;refine J3 ?_
  exact ao_end (w_ret (j_block (q_ret2 rfl rfl rfl)))
theorem k183 {l : List Int} {n : Nat} (hs : SortedI l) (hn : l.length = n) (h1 : 0 < n) (hl : n <= 100000) : PCall prog 183 [encInts l, I 0, I n] (B true) := by
 refine pcall_of mixed ok183 (by rw [nt183]; rfl) (.cons (tr_ints _) (.cons (.s _) (.cons (.s _) .nil))) (.s _) ?_
 rw [rs183, sk183]
 refine ws ?_;refine J1 ?_;refine er ?_;refine J0 ?_;refine J11 ?_;refine J3 ?_
 refine ao_end (w_assoc (w_seq_region_g ?_))
 refine J3 ?_
 refine ao_end (w_then (fun _ => False) (w_for (α := Unit) (fun _ => ⟨envL [(0, encInts l), (1, I 0), (2, I n), (7, I ((1 : Nat) : Int)), (8, I 0)], fun _ => none, 0⟩) (fun _ => True) (fun _ => 0) () (ghost_of eH) trivial ?_) fun s h => h.elim)
 intro _ _
 refine J0 ?_;refine J17 ?_
 refine ao_end ⟨_, rfl, fun _ => ?_, fun h => (by cases h)⟩
 refine w_cut_g (fun s => Ghost prog s ⟨envL [(2, I n), (7, I n)], fun _ => none, 0⟩) (w_whileD di_r183_5 (α := Nat) (fun k => ⟨envL [(14, B true), (13, I 0), (0, encInts l), (1, I 0), (2, I n), (7, I k), (8, I 0)], fun _ => none, 0⟩) (fun k => 1 <= k /\ k <= n) (fun k => n - k) 1 rfl ⟨Nat.le_refl _, h1⟩ ?_) ?_
 ·rintro k ⟨hk1, hk⟩
  by_cases hlt : k < n
  ·have klss : decide ((k : Int) < (n : Int)) = true := by simpa using hlt
   have ksub : (k : Int) - 1 = ((k - 1 : Nat) : Int) /\ -9223372036854775808 <= ((k - 1 : Nat) : Int) /\ ((k - 1 : Nat) : Int) <= 9223372036854775807 := by omega
   have ha : l[k]? = some l[k] := List.getElem?_eq_getElem oG
   have hb : l[k - 1]? = some l[k - 1] := List.getElem?_eq_getElem oG
   have hxy := hs (k - 1) k _ _ oG hb ha
   generalize l[k] = x at ha hxy
   generalize l[k - 1] = y at hb hxy
   have k184 := k184 (a := x) (b := y)
   have e : decide (x < y) = false := by simp; omega
   rw [e] at k184
   clear e
   refine J0 ?_;refine J0 ?_;refine J161 ?_;refine J2 ?_;refine J47 ?_;refine J10 ?_;refine J53 ?_;refine J6 ?_;refine J47 ?_;refine J10 ?_;refine J145 ?_;refine J53 ?_;refine J6 ?_;refine gc k184 ?_;refine J33 ?_;refine J21 ?_
   refine ao_endc (by simp [apartT]) ⟨_, rfl, fun h => ?_, fun h => (by cases h)⟩
   refine w_regB2 ?_
   refine J0 ?_;refine J11 ?_;refine J3 ?_
   refine ao_end (next_of (k + 1) (ghost_of eH) ⟨by omega, by omega⟩ oG)
  ·have klss : decide ((k : Int) < (n : Int)) = false := by simpa using hlt
   have : k = n := by omega
   subst this
   refine J0 ?_;refine J0 ?_;refine J161 ?_;refine J2 ?_;refine z fun _ _ => ?_;refine z fun _ _ => ?_;refine z fun _ _ => ?_;refine z fun _ _ => ?_;refine z fun _ _ => ?_;refine z fun _ _ => ?_;refine z fun _ _ => ?_;refine z fun _ _ => ?_;refine z fun _ _ => ?_;refine z fun _ _ => ?_;refine z fun _ _ => ?_;refine J16 ?_
   refine ao_endc (by simp [apartT]) ⟨_, rfl, fun h => (by cases h), fun h => ?_⟩
   exact ghost_of eH
 ·rintro s hg
  refine ⟨_, hg, w_assoc (w_seq_region ?_)⟩
  have keql : ((n : Int) == n) = true := by simp
  refine J0 ?_;refine J0 ?_;refine J50 ?_
  refine ao_end (w_seq_if rfl (fun h => ?_) fun h => (by cases h))
  refine w_assoc (w_seq_region ?_)
  refine J1 ?_
  exact ao_end (w_seq_ret (j_body (j_seq (q_ret1 rfl rfl))))
end Go.Proofs.Tryz.K
end
section
open Go Go.Abs Go.Proofs Go.Argus
namespace Go.Argus
theorem insJ_id {l : List Int} {k : Nat} (h : ¬ l.getD (k + 1) 0 < l.getD k 0) : insJ l (k + 1) = l := by rw [insJ, if_neg h]
theorem sortK_id {l : List Int} (h : SortedI l) : ∀ k, k < l.length -> sortK l k = l
 | 0, _ => rfl
 | k + 1, hk => by
  rw [sortK, sortK_id h k oG]
  refine insJ_id fun hlt => ?_
  have ha : l[k + 1]? = some l[k + 1] := List.getElem?_eq_getElem hk
  have hb : l[k]? = some l[k] := List.getElem?_eq_getElem oG
  have := h k (k + 1) _ _ oG hb ha
  rw [List.getD_eq_getElem?_getD, List.getD_eq_getElem?_getD, ha, hb] at hlt
  simp only [Option.getD_some] at hlt
  omega
theorem sortI_id {l : List Int} (h : SortedI l) : sortI l = l := by
 unfold sortI
 cases l with
 | nil => rfl
 | cons a l => exact sortK_id h _ (by simp)
end Go.Argus
namespace Go.Proofs.Tryz.K
set_option maxRecDepth 10000
noncomputable def chk152 (n : Nat) : Bool := match pureE prog cx0 (evC prog cx0 100) 152 [.s (.int .u64 (IntKind.u64.wrap (n : Int)))] with
 | some (.inl (.s (.int .i64 r))) => r != 0
 | _ => false
theorem chk152_ok : (List.range 600).all (fun n => chk152 (n + 1)) = true := by kernel_rfl
theorem k152s {n : Nat} (h0 : 0 < n) (hn : n <= 600) : ∃ r : Int, r ≠ 0 /\ PCall prog 152 [.s (.int .u64 (IntKind.u64.wrap (n : Int)))] (I r) := by
 have h := List.all_eq_true.1 chk152_ok (n - 1) (List.mem_range.2 oG)
 rw [show n - 1 + 1 = n by omega] at h
 unfold chk152 at h
 split at h
 ·rename_i r hr
  exact ⟨r, by simpa using h, pcall_ev cx0_ok 100 rfl hr⟩
 ·cases h
theorem k151s {m : Mem} {nx i n : Nat} {l : List Int} {lim : Int} (hlim : lim ≠ 0) (hm : m i = some (.cells (l.map I) 3)) (hs : SortedI l) (hl : l.length = n) (hn : 12 < n) (hn1 : n <= 100000) :
  ACalls prog 151 [.rs i 0 n, I 0, I n, I lim] m nx (fun r m' nx' => r = .tup [] /\ nx' = nx /\ m' = m) := by
 refine acall_of mixed ok151 (by rw [nt151]; rfl) ?_
 rw [rs151, sk151]
 obtain ⟨p, k181⟩ := k181 hs hl hn hn1
 have k183 := k183 hs hl oG hn1
 have hsn : Sns prog [i] m [.rs i 0 n, I 0, I n] [encInts l, I 0, I n] := ⟨by rw [encInts, hl]; exact sn_rs hm (by simp) (by rw [c3, List.drop_zero, Nat.mul_one, List.take_of_length_le (by simp [hl])]) (.map fun _ => .s _), sn_tr (.s _), sn_tr (.s _), trivial⟩
 refine ws ?_;refine J1 ?_
 refine ao_end (w_seq_region_g ?_)
 refine J1 ?_
 refine ao_end ⟨_, ghost_of (l := [(0, .rs i 0 n), (1, I 0), (2, I n), (3, I lim), (8, B true), (9, B true)]) eH, w_block (AW_loop (fun s => s = ⟨envL [(0, .rs i 0 n), (1, I 0), (2, I n), (3, I lim), (8, B true), (9, B true)], m, nx⟩) (fun _ => 0) rfl fun s hs => ?_)⟩
 subst hs
 refine w_block (w_seq_region ?_)
 refine J0 ?_;refine J0 ?_;refine J55 ?_;refine J3 ?_
 refine ao_end (w_assoc (w_seq_region ?_))
 refine J0 ?_;refine J135 ?_
 refine ao_end (w_seq_if rfl (fun h => ?_) fun h => w_seq_skip (w_assoc (w_seq_region ?_)))
 ·have : (n : Int) - 0 <= 12 := by simpa using h
  omega
 have keql : (lim == 0) = false := by simpa using hlim
 refine J0 ?_;refine J50 ?_
 refine ao_end (w_seq_if rfl (fun h => (by cases h)) fun _ => w_seq_skip (w_assoc (w_seq_region ?_)))
 clear keql
 refine J2 ?_;refine J32 ?_
 refine ao_end (w_seq_if rfl (fun h => (by cases h)) fun _ => w_seq_skip (w_seq_region ?_))
 refine J12 ?_;refine J0 ?_;refine J0 ?_
 refine ao_sc k181 rfl hsn rfl (by repeat' (first | exact trivial | exact rfl | refine And.intro ?_ ?_)) ?_
 refine J26 ?_;refine J30 ?_;refine J30 ?_;refine J3 ?_;refine J3 ?_
 refine ao_end (w_assoc (w_seq_region ?_))
 refine J0 ?_;refine J8 ?_
 refine ao_end (w_seq_if rfl (fun h => (by cases h)) fun _ => w_seq_skip (w_assoc (w_seq_region ?_)))
 refine J2 ?_;refine J2 ?_;refine J27 ?_;refine J21 ?_;refine J2 ?_;refine J10 ?_;refine J22 ?_;refine J21 ?_
 refine ao_end (w_seq_if rfl (fun _ => w_assoc (w_seq_region ?_)) fun h => (by cases h))
 refine J12 ?_;refine J0 ?_;refine J0 ?_
 refine ao_sc k183 rfl hsn rfl (by repeat' (first | exact trivial | exact rfl | refine And.intro ?_ ?_)) ?_
 refine ao_end (w_seq_if rfl (fun _ => w_seq_ret ?_) fun h => (by cases h))
 exact j_block (j_seq (j_block (q_ret0 ⟨rfl, rfl, rfl⟩)))
theorem k89s {m : Mem} {nx i n : Nat} {l : List Int} (hi : i < nx) (hm : m i = some (.cells (l.map I) 3)) (hs : SortedI l) (hl : l.length = n) (hn : n <= 600) :
  ACalls prog 89 [.rs i 0 n] m nx (fun r m' nx' => r = .tup [] /\ nx' = nx /\ m' = m) := by
 by_cases h12 : n <= 12
 ·refine (k89 hi hm hl h12).mono ?_
  rintro r m' nx' ⟨h1, h2, h3⟩
  refine ⟨h1, h2, ?_⟩
  rw [h3, sortI_id hs]
  funext j
  simp only [up]
  split
  ·rename_i e; rw [e, hm]
  ·rfl
 refine acall_of mixed ok89 (by rw [nt89]; rfl) ?_
 rw [rs89, sk89]
 obtain ⟨lim, hlim, k152⟩ := k152s (n := n) oG hn
 have hrow := hm
 refine ws ?_;refine J12 ?_;refine J105 ?_;refine J3 ?_
 refine ao_end (w_regE ?_)
 refine J12 ?_;refine J0 ?_;refine J0 ?_
 refine ao_p (e_conv rfl V.h) ak V.h ?_
 refine cl k152 ?_
 refine ao_ac (k151s hlim hm hs hl oG oG) rfl (by repeat' (first | exact trivial | exact rfl | refine And.intro ?_ ?_)) fun r m' nx' hp => ?_
 obtain ⟨rfl, rfl, rfl⟩ := hp
 exact ao_end (q_end0 ⟨rfl, rfl, rfl⟩)
end Go.Proofs.Tryz.K
end
section
namespace Go.Argus
open Go Go.Abs
def addF (b : Int) (L : Nat -> List Int) (x : Nat) : Nat -> List Int := up L x (L x ++ [b])
def climbF (par : List Int) (stop b : Int) : Nat -> (Nat -> List Int) -> Int -> (Nat -> List Int)
 | 0, L, _ => L
 | k + 1, L, x => if x ≠ -1 /\ x ≠ stop then climbF par stop b k (addF b L x.toNat) (stP par x) else L
def frA (cnt : List Bool) (par : List Int) (n : Nat) (b : Int) (L : Nat -> List Int) (a : Int) : Nat -> List Int :=
 if cnt.getD a.toNat false = true then climbF par (stP par b) b (n + 1) L a else L
def frB (cnt : List Bool) (par : List Int) (ahd : Nat -> List Int) (n : Nat) (L : Nat -> List Int) (b : Int) : Nat -> List Int := (ahd b.toNat).foldl (frA cnt par n b) L
def fr0 (cnt : List Bool) (par : List Int) (ahd : Nat -> List Int) (n : Nat) : Nat -> List Int := (allI cnt n).foldl (frB cnt par ahd n) fun _ => []
def frontR (cnt : List Bool) (par : List Int) (ahd : Nat -> List Int) (n : Nat) : List (List Int) := (List.range n).map fun i => compactR (fr0 cnt par ahd n i)
theorem addF_eq (b : Int) (L : Nat -> List Int) (x : Nat) : addF b L x x = L x ++ [b] := by simp [addF, up]
theorem addF_ne (b : Int) (L : Nat -> List Int) {x i : Nat} (h : i ≠ x) : addF b L x i = L i := by simp [addF, up, h]
section
variable {beh ahd : Nat -> List Int} {n : Nat} (h : ParG beh ahd n)
include h
def Climbed (N : Nat -> Nat) (stop x : Int) (i : Nat) : Prop := 0 <= x /\ Anc N i x.toNat /\ ¬ (0 <= stop /\ Anc N i stop.toNat)
theorem climb_ok {b stop : Int} (hst : stop = -1 \/ ∃ s : Nat, stop = s /\ inRch beh n s) : ∀ (k q : Nat) (x : Int) (L : Nat -> List Int), upTo beh n q x -> q <= k ->
  (∀ s : Nat, stop = s -> 0 <= x -> Anc (upN beh ahd n) s x.toNat) -> ∀ i,
  (climbF (parentsR beh ahd n) stop b k L x i = L i /\ ¬ Climbed (upN beh ahd n) stop x i) \/
  (climbF (parentsR beh ahd n) stop b k L x i = L i ++ [b] /\ Climbed (upN beh ahd n) stop x i /\ inRch beh n i /\ plN beh n i < q)
 | 0, q, x, L, hx, hq, _, i => by
  rcases hx with rfl | ⟨m, rfl, _, hm⟩
  ·exact .inl ⟨rfl, fun hc => by have := hc.1; omega⟩
  ·omega
 | k + 1, q, x, L, hx, hq, hs, i => by
  have ht := up_tree h
  rw [climbF]
  by_cases hc : x ≠ -1 /\ x ≠ stop
  ·rw [if_pos hc]
   obtain ⟨m, rfl, rm, hm⟩ := hx.resolve_left hc.1
   rw [Int.toNat_natCast]
   have hms : ¬ (0 <= stop /\ Anc (upN beh ahd n) m stop.toNat) := fun ⟨h0, ha⟩ => by
    obtain ⟨s, rfl, rs⟩ := hst.resolve_left oG
    rw [Int.toNat_natCast] at ha
    have h1 := (ht.low rm (hs s rfl oG)).2
    have h2 := (ht.low rs ha).2
    rcases h1 with h1 | h1
    ·exact hc.2 (by rw [h1])
    ·rcases h2 with h2 | h2
     ·exact hc.2 (by rw [h2])
     ·omega
   have hx' : upTo beh n (plN beh n m) (stP (parentsR beh ahd n) m) /\ (∀ j, Anc (upN beh ahd n) j m ↔ j = m \/ (0 <= stP (parentsR beh ahd n) m /\ Anc (upN beh ahd n) j (stP (parentsR beh ahd n) m).toNat)) := by
    by_cases hz : m = 0
    ·subst hz
     refine ⟨.inl (par_zero h), fun j => ?_⟩
     rw [par_zero h]
     refine ⟨fun ha => .inl (ha.zero ht.top rfl), fun ha => ?_⟩
     rcases ha with rfl | ⟨h0, _⟩
     ·exact .refl _
     ·omega
    ·obtain ⟨p1, p2, p3⟩ := par_up h rm hz
     rw [p1]
     refine ⟨.inr ⟨_, rfl, p2, p3⟩, fun j => ?_⟩
     rw [Int.toNat_natCast]
     refine ⟨fun ha => ?_, fun ha => ?_⟩
     ·rcases ha.inv with e | ha
      ·exact .inl e
      ·exact .inr ⟨by omega, ha⟩
     ·rcases ha with rfl | ⟨_, ha⟩
      ·exact .refl _
      ·exact .up ha
   obtain ⟨u1, u2⟩ := hx'
   have hs' : ∀ s : Nat, stop = s -> 0 <= stP (parentsR beh ahd n) m -> Anc (upN beh ahd n) s (stP (parentsR beh ahd n) m).toNat := fun s e h0 => by
    have := hs s e oG
    rw [Int.toNat_natCast] at this
    rcases (u2 s).1 this with e2 | ⟨_, ha⟩
    ·exact absurd (by rw [e, e2]) hc.2
    ·exact ha
   have hC : ∀ j, Climbed (upN beh ahd n) stop (m : Int) j ↔ (j = m \/ Climbed (upN beh ahd n) stop (stP (parentsR beh ahd n) m) j) := fun j => by
    unfold Climbed
    rw [Int.toNat_natCast, u2 j]
    constructor
    ·rintro ⟨_, e | ⟨h0, ha⟩, hn⟩
     ·exact .inl e
     ·exact .inr ⟨h0, ha, hn⟩
    ·rintro (rfl | ⟨h0, ha, hn⟩)
     ·exact ⟨by omega, .inl rfl, hms⟩
     ·exact ⟨by omega, .inr ⟨h0, ha⟩, hn⟩
   rcases climb_ok hst k (plN beh n m) (stP (parentsR beh ahd n) m) (addF b L m) u1 oG hs' i with ⟨h1, h2⟩ | ⟨h1, h2, h3, h4⟩
   ·by_cases e : i = m
    ·subst e
     refine .inr ⟨by rw [h1, addF_eq], (hC i).2 (.inl rfl), rm, hm⟩
    ·refine .inl ⟨by rw [h1, addF_ne _ _ e], fun hc' => ?_⟩
     rcases (hC i).1 hc' with e' | hc'
     ·exact e e'
     ·exact h2 hc'
   ·have e : i ≠ m := fun e => by subst e; omega
    exact .inr ⟨by rw [h1, addF_ne _ _ e], (hC i).2 (.inr h2), h3, by omega⟩
  ·rw [if_neg hc]
   refine .inl ⟨rfl, fun ⟨h0, ha, hn⟩ => ?_⟩
   have e : x = stop := Classical.byContradiction fun hne => hc ⟨by omega, hne⟩
   exact hn (by rw [<- e]; exact ⟨h0, ha⟩)
def FrontP (beh : Nat -> List Int) (n i b : Nat) : Prop := ∃ a, edgeN beh a b /\ inRch beh n a /\ DomN beh i a /\ (i = b \/ ¬ DomN beh i b)
theorem climbed_iff {a b i : Nat} (ra : inRch beh n a) (rb : inRch beh n b) (e : edgeN beh a b) : Climbed (upN beh ahd n) (stP (parentsR beh ahd n) b) (a : Int) i ↔ (DomN beh i a /\ (i = b \/ ¬ DomN beh i b)) := by
 have ht := up_tree h
 unfold Climbed
 rw [Int.toNat_natCast, anc_dom h ra]
 have key : (¬ (0 <= stP (parentsR beh ahd n) b /\ Anc (upN beh ahd n) i (stP (parentsR beh ahd n) b).toNat)) ↔ (i = b \/ ¬ DomN beh i b) := by
  rw [<- anc_dom h rb]
  by_cases hz : b = 0
  ·subst hz
   rw [par_zero h]
   refine ⟨fun _ => ?_, fun _ hn => by omega⟩
   by_cases ei : i = 0
   ·exact .inl ei
   ·exact .inr fun ha => ei (ha.zero ht.top rfl)
  ·obtain ⟨p1, p2, p3⟩ := par_up h rb hz
   rw [p1, Int.toNat_natCast]
   constructor
   ·intro hn
    by_cases ei : i = b
    ·exact .inl ei
    ·refine .inr fun ha => ?_
     rcases ha.inv with e' | ha
     ·exact ei e'
     ·exact hn ⟨by omega, ha⟩
   ·rintro hn ⟨_, ha⟩
    rcases hn with rfl | hn
    ·rcases (ht.low p2 ha).2 with e' | e'
     ·rw [<- e'] at p3; omega
     ·omega
    ·exact hn (.up ha)
 rw [key]
 exact ⟨fun ⟨_, x, y⟩ => ⟨x, y⟩, fun ⟨x, y⟩ => ⟨by omega, x, y⟩⟩
theorem frA_ok {a b : Nat} (rb : inRch beh n b) (e : edgeN beh a b) (L : Nat -> List Int) (i : Nat) :
  (frA (reachR beh n (-1)) (parentsR beh ahd n) n b L a i = L i /\ ¬ (inRch beh n a /\ DomN beh i a /\ (i = b \/ ¬ DomN beh i b))) \/
  (frA (reachR beh n (-1)) (parentsR beh ahd n) n b L a i = L i ++ [(b : Int)] /\ inRch beh n a /\ DomN beh i a /\ (i = b \/ ¬ DomN beh i b)) := by
 unfold frA
 rw [Int.toNat_natCast]
 by_cases ra : (reachR beh n (-1)).getD a false = true
 ·rw [if_pos ra]
  have ra' : inRch beh n a := ra
  have hpl := plN_lt h ra'
  have hol := ord_le h
  have hst : stP (parentsR beh ahd n) b = -1 \/ ∃ s : Nat, stP (parentsR beh ahd n) b = s /\ inRch beh n s := by
   by_cases hz : b = 0
   ·subst hz; exact .inl (par_zero h)
   ·obtain ⟨p1, p2, _⟩ := par_up h rb hz
    exact .inr ⟨_, p1, p2⟩
  have hanc : ∀ s : Nat, stP (parentsR beh ahd n) b = s -> 0 <= (a : Int) -> Anc (upN beh ahd n) s (a : Int).toNat := fun s es _ => by
   rw [Int.toNat_natCast]
   by_cases hz : b = 0
   ·subst hz; rw [par_zero h] at es; omega
   ·obtain ⟨p1, _, _⟩ := par_up h rb hz
    have : s = upN beh ahd n b := by omega
    subst this
    exact (fin_fix h).2 b rb hz a e ra'
  rcases climb_ok h (b := (b : Int)) hst (n + 1) (n + 1) (a : Int) L (.inr ⟨a, rfl, ra', by omega⟩) (Nat.le_refl _) hanc i with ⟨h1, h2⟩ | ⟨h1, h2, _⟩
  ·exact .inl ⟨h1, fun ⟨_, hc⟩ => h2 ((climbed_iff h ra' rb e).2 hc)⟩
  ·exact .inr ⟨h1, ra', (climbed_iff h ra' rb e).1 h2⟩
 ·rw [if_neg ra]
  exact .inl ⟨rfl, fun hc => ra hc.1⟩
theorem frB_ok {b : Nat} (rb : inRch beh n b) (L : Nat -> List Int) (i : Nat) : ∀ l : List Int, (∀ a ∈ l, a ∈ ahd b) ->
  ∃ c, c <= l.length /\ l.foldl (frA (reachR beh n (-1)) (parentsR beh ahd n) n b) L i = L i ++ List.replicate c (b : Int) /\
   (0 < c ↔ ∃ a : Nat, (a : Int) ∈ l /\ inRch beh n a /\ DomN beh i a /\ (i = b \/ ¬ DomN beh i b)) := fun l => by
 induction l using rev_ind with
 | h0 => exact fun _ => ⟨0, Nat.le_refl _, by simp, ⟨fun h => absurd h (Nat.lt_irrefl 0), fun ⟨a, ha, _⟩ => by simp at ha⟩⟩
 | h1 l a ih =>
  intro hl
  obtain ⟨c, h1, h2, h3⟩ := ih fun a h => hl a (by simp [h])
  have ha := (h.fro b a).1 (hl a (by simp))
  obtain ⟨an, rfl⟩ := Int.eq_ofNat_of_zero_le ha.1
  have he : edgeN beh an b := by simpa [edgeN] using ha.2.2
  rw [List.foldl_append]
  show ∃ c, _ /\ frA _ _ _ _ (l.foldl _ L) (an : Int) i = _ /\ _
  rcases frA_ok h rb he (l.foldl (frA (reachR beh n (-1)) (parentsR beh ahd n) n b) L) i with ⟨e1, e2⟩ | ⟨e1, e2⟩
  ·refine ⟨c, by simp; omega, by rw [e1, h2], h3.trans ⟨fun ⟨a, ha, r⟩ => ⟨a, by simp [ha], r⟩, fun ⟨a, ha, r⟩ => ?_⟩⟩
   rw [List.mem_append, List.mem_singleton] at ha
   rcases ha with ha | ha
   ·exact ⟨a, ha, r⟩
   ·have : a = an := by omega
    subst this
    exact absurd r e2
  ·refine ⟨c + 1, by simp; omega, by rw [e1, h2, List.replicate_succ', List.append_assoc], ⟨fun _ => ⟨an, by simp, e2⟩, fun _ => by omega⟩⟩
theorem fr0_ok (hal : ∀ b, (ahd b).length <= n) (i : Nat) : ∀ k, k <= n -> let l := (allI (reachR beh n (-1)) k).foldl (frB (reachR beh n (-1)) (parentsR beh ahd n) ahd n) (fun _ => []) i
  SortedI l /\ l.length <= k * n /\ (∀ x ∈ l, 0 <= x /\ x < k) /\ ∀ b : Nat, b < k -> ((b : Int) ∈ l ↔ inRch beh n b /\ FrontP beh n i b)
 | 0, _ => ⟨fun i j x y _ hx => by simp [allI] at hx, by simp [allI], fun x hx => by simp [allI] at hx, fun b hb => absurd hb (Nat.not_lt_zero _)⟩
 | k + 1, hk => by
  obtain ⟨h1, h2, h3, h4⟩ := fr0_ok hal i k oG
  simp only
  rw [allI_succ]
  by_cases hc : (reachR beh n (-1)).getD k false = true
  ·rw [if_pos hc, List.foldl_append]
   show SortedI (frB _ _ _ _ _ (k : Int) i) /\ (frB _ _ _ _ _ (k : Int) i).length <= _ /\ (∀ x ∈ frB _ _ _ _ _ (k : Int) i, _) /\ ∀ b : Nat, _ -> ((b : Int) ∈ frB _ _ _ _ _ (k : Int) i ↔ _)
   generalize (allI (reachR beh n (-1)) k).foldl (frB (reachR beh n (-1)) (parentsR beh ahd n) ahd n) (fun _ => []) = L at h1 h2 h3 h4
   obtain ⟨c, c1, c2, c3⟩ := frB_ok h (b := k) hc L i (ahd k) fun a ha => ha
   have e : frB (reachR beh n (-1)) (parentsR beh ahd n) ahd n L (k : Int) i = L i ++ List.replicate c (k : Int) := by
    unfold frB
    rw [Int.toNat_natCast]
    exact c2
   rw [e]
   have hcn := hal k
   have hkn : (k + 1) * n = k * n + n := Nat.succ_mul k n
   have hF : (0 < c) ↔ FrontP beh n i k := c3.trans ⟨fun ⟨a, ha, r, d⟩ => ⟨a, (ahd_edge h r).1 ha, r, d⟩, fun ⟨a, ha, r, d⟩ => ⟨a, (ahd_edge h r).2 ha, r, d⟩⟩
   refine ⟨fun p q x y hpq hx hy => ?_, by rw [List.length_append, List.length_replicate]; omega, fun x hx => ?_, fun b hb => ?_⟩
   ·rcases Nat.lt_or_ge q (L i).length with g | g
    ·rw [List.getElem?_append_left oG] at hx hy
     exact h1 p q x y hpq hx hy
    ·rw [List.getElem?_append_right g, List.getElem?_replicate] at hy
     split at hy
     ·cases hy
      rcases Nat.lt_or_ge p (L i).length with g' | g'
      ·rw [List.getElem?_append_left g'] at hx
       have := (h3 x (List.mem_of_getElem? hx)).2
       omega
      ·rw [List.getElem?_append_right g', List.getElem?_replicate] at hx
       split at hx
       ·cases hx; exact Int.le_refl _
       ·cases hx
     ·cases hy
   ·rw [List.mem_append, List.mem_replicate] at hx
    rcases hx with hx | ⟨_, rfl⟩
    ·have := h3 x hx; omega
    ·omega
   ·rw [List.mem_append, List.mem_replicate]
    rcases Nat.lt_or_ge b k with g | g
    ·rw [h4 b g]
     refine ⟨fun x => x.resolve_right fun y => by omega, .inl⟩
    ·have : b = k := by omega
     subst this
     constructor
     ·rintro (hx | ⟨hx, _⟩)
      ·have := (h3 _ hx).2; omega
      ·exact ⟨hc, hF.1 oG⟩
     ·rintro ⟨_, hf⟩
      have := hF.2 hf
      exact .inr ⟨by omega, rfl⟩
  ·rw [if_neg hc]
   refine ⟨h1, by rw [Nat.succ_mul]; omega, fun x hx => by have := h3 x hx; omega, fun b hb => ?_⟩
   rcases Nat.lt_or_ge b k with g | g
   ·exact h4 b g
   ·have : b = k := by omega
    subst this
    refine ⟨fun hx => by have := (h3 _ hx).2; omega, fun ⟨hr, _⟩ => absurd hr hc⟩
theorem front_mem (hal : ∀ b, (ahd b).length <= n) {i b : Nat} (hi : i < n) : (b : Int) ∈ (frontR (reachR beh n (-1)) (parentsR beh ahd n) ahd n).getD i [] ↔ inRch beh n b /\ FrontP beh n i b := by
 have hrl := reach_len (w := -1) h.to h.pos
 obtain ⟨_, _, h3, h4⟩ := fr0_ok h hal i n (Nat.le_refl _)
 have e : (frontR (reachR beh n (-1)) (parentsR beh ahd n) ahd n).getD i [] = compactR (fr0 (reachR beh n (-1)) (parentsR beh ahd n) ahd n i) := by
  unfold frontR
  rw [List.getD_eq_getElem?_getD, List.getElem?_map, List.getElem?_range hi]; rfl
 rw [e, compactR, mem_ddK (Nat.le_refl _), List.take_length]
 have e2 : fr0 (reachR beh n (-1)) (parentsR beh ahd n) ahd n = (allI (reachR beh n (-1)) n).foldl (frB (reachR beh n (-1)) (parentsR beh ahd n) ahd n) fun _ => [] := rfl
 rw [e2]
 rcases Nat.lt_or_ge b n with g | g
 ·exact h4 b g
 ·refine ⟨fun hx => by have := (h3 _ hx).2; omega, fun ⟨hr, _⟩ => ?_⟩
  have := inR_lt h hr
  omega
end
end Go.Argus
end
section
namespace Go.Argus
open Go Go.Abs
def ButJ (l : List Int) (j k : Nat) : Prop := (∀ p q, p < q -> q <= k -> p ≠ j -> q ≠ j -> l.getD p 0 <= l.getD q 0) /\ ∀ q, j < q -> q <= k -> l.getD j 0 <= l.getD q 0
def UpTo (l : List Int) (k : Nat) : Prop := ∀ p q, p <= q -> q <= k -> l.getD p 0 <= l.getD q 0
theorem getD_swap {l : List Int} {j : Nat} (h : j + 1 < l.length) (i : Nat) : (swapAt l j).getD i 0 = if i = j then l.getD (j + 1) 0 else if i = j + 1 then l.getD j 0 else l.getD i 0 := by
 unfold swapAt
 simp only [List.getD_eq_getElem?_getD, List.getElem?_set, List.length_set]
 by_cases e : j = i
 ·subst e
  rw [if_pos rfl, if_pos rfl, if_pos oG]
  rfl
 ·rw [if_neg e, if_neg (show ¬ i = j from fun h => e h.symm)]
  by_cases e2 : j + 1 = i
  ·subst e2
   rw [if_pos rfl, if_pos rfl, if_pos h]
   rfl
  ·rw [if_neg e2, if_neg (show ¬ i = j + 1 from fun h => e2 h.symm)]
theorem insJ_up {k : Nat} : ∀ {j : Nat} {l : List Int}, j <= k -> k < l.length -> ButJ l j k -> UpTo (insJ l j) k
 | 0, l, _, _, h => fun p q hpq hq => by
  rw [insJ]
  rcases Nat.lt_or_ge p q with g | g
  ·by_cases hp : p = 0
   ·subst hp; exact h.2 q g hq
   ·exact h.1 p q g hq hp oG
  ·have : p = q := by omega
   subst this; exact Int.le_refl _
 | j + 1, l, hj, hk, h => by
  rw [insJ]
  split
  ·rename_i hlt
   have hs := getD_swap (l := l) (j := j) oG
   refine insJ_up oG (by simpa using hk) ⟨fun p q hpq hq hp hqj => ?_, fun q hq hqk => ?_⟩
   ·rw [hs, hs, if_neg hp, if_neg hqj]
    by_cases e1 : p = j + 1
    ·rw [if_pos e1, if_neg oG]
     exact h.1 j q oG hq oG oG
    ·rw [if_neg e1]
     by_cases e2 : q = j + 1
     ·rw [if_pos e2]
      exact h.1 p j oG oG e1 oG
     ·rw [if_neg e2]
      exact h.1 p q hpq hq e1 e2
   ·rw [hs, hs, if_pos rfl, if_neg oG]
    by_cases e2 : q = j + 1
    ·rw [if_pos e2]; omega
    ·rw [if_neg e2]
     exact h.2 q oG hqk
  ·rename_i hge
   intro p q hpq hq
   rcases Nat.lt_or_ge p q with g | g
   ·by_cases e1 : p = j + 1
    ·subst e1; exact h.2 q g hq
    ·by_cases e2 : q = j + 1
     ·subst e2
      by_cases e3 : p = j
      ·subst e3; omega
      ·have := h.1 p j oG oG oG oG
       omega
     ·exact h.1 p q g hq e1 e2
   ·have : p = q := by omega
    subst this; exact Int.le_refl _
theorem insJ_out {i : Nat} : ∀ {j : Nat} {l : List Int}, j < i -> j < l.length -> (insJ l j).getD i 0 = l.getD i 0
 | 0, l, _, _ => rfl
 | j + 1, l, h, hl => by
  rw [insJ]
  split
  ·rw [insJ_out oG (by simp; omega), getD_swap oG, if_neg oG, if_neg oG]
  ·rfl
theorem sortK_up {l : List Int} : ∀ k, k < l.length -> UpTo (sortK l k) k /\ ∀ i, k < i -> (sortK l k).getD i 0 = l.getD i 0
 | 0, _ => ⟨fun p q hpq hq => by
   have : p = q := by omega
   subst this; exact Int.le_refl _, fun _ _ => rfl⟩
 | k + 1, hk => by
  obtain ⟨h1, h2⟩ := sortK_up (l := l) k oG
  rw [sortK]
  refine ⟨insJ_up (Nat.le_refl _) (by simpa using hk) ⟨fun p q hpq hq hp hq' => h1 p q oG oG, fun q hq hq' => by omega⟩, fun i hi => ?_⟩
  rw [insJ_out hi (by simp; omega)]
  exact h2 i oG
theorem sortI_sorted (l : List Int) : SortedI (sortI l) := fun i j x y hij hx hy => by
 obtain ⟨hj, ey⟩ := List.getElem?_eq_some_iff.1 hy
 have hl : (sortI l).length = l.length := len_sortI l
 have h := (sortK_up (l := l) (l.length - 1) oG).1 i j hij oG
 have e : sortK l (l.length - 1) = sortI l := rfl
 rw [e, List.getD_eq_getElem?_getD, List.getD_eq_getElem?_getD, hx, hy] at h
 exact h
theorem dd_asc {d : List Int} (hs : SortedI d) : ∀ t, t <= d.length -> (ddK d t).Pairwise (· < ·) /\ (0 < t -> ∀ x ∈ ddK d t, x <= d.getD (t - 1) 0)
 | 0, _ => ⟨by simp [ddK], fun h => absurd h (Nat.lt_irrefl 0)⟩
 | t + 1, ht => by
  obtain ⟨h1, h2⟩ := dd_asc hs t oG
  have hg : ∀ i, i < d.length -> d[i]? = some (d.getD i 0) := fun i hi => by
   have := List.getElem?_eq_getElem hi
   rw [List.getD_eq_getElem?_getD, this]; rfl
  have hle : ∀ x ∈ ddK d t, x <= d.getD t 0 := fun x hx => by
   have h0 : 0 < t := by
    cases t with
    | zero => simp [ddK] at hx
    | succ t => omega
   have a := h2 h0 x hx
   have b := hs (t - 1) t _ _ oG (hg _ oG) (hg _ oG)
   omega
  rw [ddK]
  split
  ·rw [List.append_nil]
   exact ⟨h1, fun _ x hx => by rw [Nat.add_sub_cancel]; exact hle x hx⟩
  ·rename_i hne
   refine ⟨?_, fun _ x hx => ?_⟩
   ·rw [List.pairwise_append]
    refine ⟨h1, by simp, fun x hx y hy => ?_⟩
    rw [List.mem_singleton] at hy
    subst hy
    have h0 : 0 < t := by
     cases t with
     | zero => simp [ddK] at hx
     | succ t => omega
    have a := h2 h0 x hx
    have b := hs (t - 1) t _ _ oG (hg _ oG) (hg _ oG)
    have c : d.getD t 0 ≠ d.getD (t - 1) 0 := fun e => hne ⟨by omega, e⟩
    omega
   ·rw [Nat.add_sub_cancel]
    rw [List.mem_append, List.mem_singleton] at hx
    rcases hx with hx | hx
    ·exact hle x hx
    ·rw [hx]; exact Int.le_refl _
theorem compact_asc {d : List Int} (hs : SortedI d) : (compactR d).Pairwise (· < ·) := (dd_asc hs _ (Nat.le_refl _)).1
theorem nextR_asc (x : End) : (Go.Proofs.Tryz.K.nextR x).Pairwise (· < ·) := compact_asc (sortI_sorted _)
theorem aheadT_asc {b : Nat} : ∀ (l : List Int) (L : Nat -> List Int), l.Pairwise (· < ·) -> (∀ t ∈ l, 0 <= t) -> (∀ i, (L i).Pairwise (· < ·) /\ ∀ x ∈ L i, x < (b : Int)) ->
  ∀ i, (l.foldl (aheadT b) L i).Pairwise (· < ·) /\ (∀ x ∈ l.foldl (aheadT b) L i, x < (b : Int) + 1) := fun l => by
 have key : ∀ (l : List Int) (L : Nat -> List Int), l.Pairwise (· < ·) -> (∀ t ∈ l, 0 <= t) -> ∀ i, l.foldl (aheadT b) L i = L i ++ (if (i : Int) ∈ l then [(b : Int)] else []) := fun l => by
  induction l with
  | nil => intro L _ _ i; simp
  | cons t l ih =>
   intro L hp h0 i
   rw [List.pairwise_cons] at hp
   have ht := h0 t (by simp)
   obtain ⟨tn, rfl⟩ := Int.eq_ofNat_of_zero_le ht
   rw [List.foldl_cons, ih _ hp.2 (fun t h => h0 t (by simp [h]))]
   unfold aheadT
   simp only [Int.toNat_natCast, up]
   by_cases e : i = tn
   ·subst e
    rw [if_pos rfl, if_neg (fun h => by have := hp.1 _ h; omega), if_pos (by simp), List.append_nil]
   ·rw [if_neg e]
    congr 1
    have : ¬ (i : Int) = tn := by omega
    simp [this]
 intro L hp h0 hL i
 rw [key l L hp h0 i]
 obtain ⟨h1, h2⟩ := hL i
 split
 ·refine ⟨?_, fun x hx => ?_⟩
  ·rw [List.pairwise_append]
   exact ⟨h1, by simp, fun x hx y hy => by rw [List.mem_singleton] at hy; rw [hy]; exact h2 x hx⟩
  ·rw [List.mem_append, List.mem_singleton] at hx
   rcases hx with hx | hx
   ·have := h2 x hx; omega
   ·omega
 ·rw [List.append_nil]
  exact ⟨h1, fun x hx => by have := h2 x hx; omega⟩
theorem aheadL_asc {bs : List Block} (h0 : ∀ b ∈ bs, ∀ t ∈ Go.Proofs.Tryz.K.nextR b.fin, 0 <= t) : ∀ k i, (aheadL bs k i).Pairwise (· < ·) /\ ∀ x ∈ aheadL bs k i, x < (k : Int)
 | 0, i => by simp [aheadL]
 | k + 1, i => by
  have ih := aheadL_asc h0 k
  have e : aheadL bs (k + 1) = aheadB bs (aheadL bs k) k := by rw [aheadL, List.range_succ, List.foldl_append]; rfl
  rw [e]
  unfold aheadB
  cases hx : bs[k]? with
  | none => exact ⟨(ih i).1, fun x hx => by have := (ih i).2 x hx; omega⟩
  | some b =>
   obtain ⟨h1, h2⟩ := aheadT_asc (b := k) (Go.Proofs.Tryz.K.nextR b.fin) (aheadL bs k) (nextR_asc _) (h0 b (List.mem_of_getElem? hx)) ih i
   exact ⟨h1, fun x hx => by have := h2 x hx; omega⟩
theorem asc_len : ∀ {l : List Int} {a k : Nat}, l.Pairwise (· < ·) -> (∀ x ∈ l, (a : Int) <= x /\ x < (k : Int)) -> l.length <= k - a
 | [], _, _, _, _ => Nat.zero_le _
 | x :: l, a, k, hp, h => by
  rw [List.pairwise_cons] at hp
  have hx := h x (by simp)
  obtain ⟨xn, rfl⟩ := Int.eq_ofNat_of_zero_le (show 0 <= x by omega)
  have := asc_len (l := l) (a := xn + 1) (k := k) hp.2 fun y hy => by
   have := hp.1 y hy
   have := h y (by simp [hy])
   omega
  rw [List.length_cons]
  omega
end Go.Argus
end
section
open Go Go.Abs Go.Proofs Go.Argus
namespace Go.Argus
theorem ahdG_le {f : Flow} (h : FlowOk f) (b : Nat) : (ahdG f b).length <= f.blocks.length := by
 rcases Nat.lt_or_ge b f.blocks.length with g | g
 ·rw [ahdG_eq g]
  have h0 : ∀ x ∈ f.blocks, ∀ t ∈ Go.Proofs.Tryz.K.nextR x.fin, 0 <= t := fun x hx t ht => by
   obtain ⟨k, hk⟩ := List.getElem?_of_mem hx
   exact (Go.Proofs.Tryz.K.beh_in h k t (by rw [behR_get hk]; exact ht)).1
  obtain ⟨h1, h2⟩ := aheadL_asc h0 f.blocks.length b
  exact asc_len (a := 0) h1 fun x hx => ⟨by
   obtain ⟨p, rfl, _⟩ := mem_aheadL.1 hx
   omega, h2 x hx⟩
 ·rw [ahdG_out g]; simp
def zL (l : List Int) : D := if l = [] then .z else encInts l
theorem tr_zL (l : List Int) : Tr (zL l) := by
 unfold zL
 split
 ·exact .z
 ·exact tr_ints l
def frontG (f : Flow) : List (List Int) := frontR (reachR (behG f) f.blocks.length (-1)) (parentsR (behG f) (ahdG f) f.blocks.length) (ahdG f) f.blocks.length
def frontD (f : Flow) : D := if checkR f = 0 then .tup [.sl ((frontG f).map zL) f.blocks.length, I 0] else .tup [.z, I (checkR f)]
theorem tr_front (f : Flow) : Tr (frontD f) := by
 unfold frontD
 split
 ·refine .tup (.cons (.sl fun a ha => ?_) (.cons (.s _) .nil))
  obtain ⟨l, _, rfl⟩ := List.mem_map.1 ha
  exact tr_zL l
 ·exact .tup (.cons .z (.cons (.s _) .nil))
def frL (F : Nat -> List Int) (n : Nat) : List (List Int) := (List.range n).map fun i => compactR (F i)
def mixC (ρ : Nat -> Nat) (F : Nat -> List Int) (k n : Nat) : List D := (List.range n).map fun i => if i < k then zL (compactR (F i)) else jc (ρ i) ((F i).map I)
@[simp] theorem len_mixC (ρ : Nat -> Nat) (F : Nat -> List Int) (k n : Nat) : (mixC ρ F k n).length = n := by simp [mixC]
theorem mix_drop {ρ : Nat -> Nat} {F : Nat -> List Int} {k n : Nat} (h : k < n) : (mixC ρ F k n).drop k = jc (ρ k) ((F k).map I) :: (mixC ρ F k n).drop (k + 1) := by
 rw [List.drop_eq_getElem_cons (by simpa using h)]
 congr 1
 simp [mixC]
theorem mix_set {ρ : Nat -> Nat} {F : Nat -> List Int} {k n : Nat} (h : k < n) : mixC ρ F (k + 1) n = (mixC ρ F k n).set k (zL (compactR (F k))) := by
 refine List.ext_getElem (by simp) fun i h1 h2 => ?_
 rw [List.getElem_set]
 simp only [mixC, List.getElem_map, List.getElem_range]
 by_cases e : k = i
 ·subst e; simp
 ·rw [if_neg e]
  by_cases e2 : i < k
  ·rw [if_pos e2, if_pos oG]
  ·rw [if_neg e2, if_neg oG]
theorem mix_end {ρ : Nat -> Nat} {F : Nat -> List Int} {n : Nat} : mixC ρ F n n = (frL F n).map zL := by
 unfold mixC frL
 rw [List.map_map]
 exact List.map_congr_left fun i hi => by rw [if_pos (by simpa using hi)]; rfl
structure Fr2 (n : Nat) (F : Nat -> List Int) (ρ : Nat -> Nat) (k : Nat) (m : Mem) (nx : Nat) : Prop where
 nx5 : 5 <= nx
 m4 : m 4 = some (.cells [.rs 3 0 n] 28)
 row : m 3 = some (.cells (mixC ρ F k n) 27)
 fut : ∀ i, k <= i -> i < n -> (F i).map I ≠ [] -> m (ρ i) = some (.cells ((F i).map I) 3) /\ ρ i < nx /\ ρ i ≠ 3 /\ ρ i ≠ 4
 inj : ∀ i j, k <= i -> k <= j -> i < n -> j < n -> (F i).map I ≠ [] -> (F j).map I ≠ [] -> ρ i = ρ j -> i = j
end Go.Argus
namespace Go.Proofs.Tryz.K
set_option maxRecDepth 10000
theorem k89z : PCall prog 89 [.z] (.tup []) := pcall_ev cx0_ok 100 rfl (by kernel_rfl)
theorem k90z : PCall prog 90 [.z] .z := pcall_ev cx0_ok 100 rfl (by kernel_rfl)
theorem k39_err {f : Flow} (hck : checkR f ≠ 0) : PCall prog 39 [.agg (encFlow f)] (frontD f) := by
 have k51 := k51_err hck
 refine pcall_of mixed ok39 (by rw [nt39]; rfl) (.cons (.agg (trs_flow f)) .nil) (tr_front f) ?_
 rw [frontD, if_neg hck]
 generalize checkR f = e at k51 hck
 have kneq : (e != 0) = true := by simpa using hck
 rw [rs39, sk39]
 refine w_seq_region_g ?_
 refine J40 ?_;refine J19 ?_;refine J3 ?_
 refine ao_end (w_ghost (ghost_fr [(0, encFlow f, 26)] eH (l := [(1, .pt (encFlow f))]) eH) (w_seq_region ?_))
 refine J28 ?_;refine cl k51 ?_;refine J26 ?_;refine J111 ?_;refine J30 ?_;refine J23 ?_
 refine ao_w (e_store1 (d := .s (.pointer none)) (cs' := [_]) rfl rfl rfl rfl rfl) ak (p_store V.h V.h (by first | (simp; done) | exact ⟨rfl, Nat.le_of_ble_eq_true rfl⟩ | (simp; omega)) rfl) ?_
 refine J3 ?_
 refine ao_end (w_assoc (w_seq_region ?_))
 refine J0 ?_;refine J61 ?_
 refine ao_end (w_seq_if rfl (fun _ => ?_) fun h => (by cases h))
 refine w_assoc (w_seq_region ?_)
 refine J0 ?_;refine J19 ?_;refine J3 ?_
 exact ao_end (w_seq_ret (q_ret2 rfl rfl rfl))
structure FrS (n B : Nat) (L : Nat -> List Int) (m : Mem) (nx : Nat) : Prop where
 nx5 : 5 <= nx
 m4 : m 4 = some (.cells [.rs 3 0 n] 28)
 jag : ∃ ρ, Jag m nx 3 n 27 3 ρ (fun i => (L i).map I) /\ ∀ i, i < n -> (L i).map I ≠ [] -> ρ i ≠ 4
 len : ∀ i, (L i).length <= B
set_option maxHeartbeats 2000000 in
theorem k39_ok {f : Flow} (hck : checkR f = 0) (h24 : f.blocks.length <= 24) : PCall prog 39 [.agg (encFlow f)] (frontD f) := by
 have k51 := k51_ok hck
 have hf : formedB f = true := by
  unfold checkR at hck
  split at hck
  ·assumption
  ·cases hck
 have hok := flowOk hf
 have hg := parG hok
 refine pcall_of mixed ok39 (by rw [nt39]; rfl) (.cons (.agg (trs_flow f)) .nil) (tr_front f) ?_
 rw [frontD, if_pos hck]
 obtain ⟨n, hn⟩ : ∃ n, f.blocks.length = n := ⟨_, rfl⟩
 have hgr : graphR f = encGraph f (behR f) (aheadR f.blocks) (encBools (reachR (behG f) f.blocks.length (-1))) := rfl
 have k60 := k60f hok (c := encBools (reachR (behG f) f.blocks.length (-1))) (.sl (.map fun _ => .s _)) rfl
 have s61 := s61 (f := f) (beh := behR f) (ahd := aheadR f.blocks) (cnt := reachR (behG f) f.blocks.length (-1)) (by rw [reach_len hg.to hg.pos]; omega)
 have hrl := reach_len (w := -1) hg.to hg.pos
 have hpl := parents_len hg
 have hfG : frontG f = frontR (reachR (behG f) f.blocks.length (-1)) (parentsR (behG f) (ahdG f) f.blocks.length) (ahdG f) f.blocks.length := rfl
 have hup : ∀ (b : Nat), inRch (behG f) f.blocks.length b -> upTo (behG f) f.blocks.length f.blocks.length b := fun b hb => .inr ⟨b, rfl, hb, by have := plN_lt hg hb; have := ord_le hg; omega⟩
 have hups := upTo_step hg
 have hax : ∀ b, b < f.blocks.length -> (aheadR f.blocks)[b]? = some (ahdG f b) := fun b hb => behF_get (by simp [aheadR]; omega)
 have hal : ∀ b, b < f.blocks.length -> (ahdG f b).length <= 24 := fun b hb => Nat.le_trans (ahdG_le hok b) h24
 have har : ∀ b, ∀ a ∈ ahdG f b, 0 <= a /\ a.toNat < f.blocks.length := fun b a ha => by have := (hg.fro b a).1 ha; exact ⟨this.1, this.2.1⟩
 have hcr : ∀ b : Nat, (reachR (behG f) f.blocks.length (-1)).getD b false = true -> inRch (behG f) f.blocks.length b := fun b h => h
 have hsrt : ∀ i, SortedI (fr0 (reachR (behG f) f.blocks.length (-1)) (parentsR (behG f) (ahdG f) f.blocks.length) (ahdG f) f.blocks.length i) := fun i => (fr0_ok hg (ahdG_le hok) i _ (Nat.le_refl _)).1
 have hln : ∀ i, (fr0 (reachR (behG f) f.blocks.length (-1)) (parentsR (behG f) (ahdG f) f.blocks.length) (ahdG f) f.blocks.length i).length <= 600 := fun i => Nat.le_trans (fr0_ok hg (ahdG_le hok) i _ (Nat.le_refl _)).2.1 (Nat.le_trans (Nat.mul_le_mul h24 h24) (by decide))
 rw [hgr] at k51
 rw [hrl] at s61
 rw [hfG]
 clear hfG
 rw [rs39, sk39]
 generalize hal' : aheadR f.blocks = AL at k51 k60 s61 hax
 generalize behR f = BL at k51 k60 s61
 generalize parentsR (behG f) (ahdG f) f.blocks.length = par at k60 hpl hups hsrt hln ⊢
 generalize reachR (behG f) f.blocks.length (-1) = cnt at k51 k60 s61 hrl hcr hsrt hln ⊢
 generalize ahdG f = ahd at hax hal har hsrt hln ⊢
 generalize inRch (behG f) f.blocks.length = R at hup hcr
 rw [hn] at hrl hpl hups hax hal har hup s61 h24 hsrt hln ⊢
 refine w_seq_region_g ?_
 refine J40 ?_;refine J19 ?_;refine J3 ?_
 refine ao_end (w_ghost (ghost_fr [(0, encFlow f, 26)] eH (l := [(1, .pt (encFlow f))]) eH) (w_seq_region_g ?_))
 refine J28 ?_;refine cl k51 ?_;refine J26 ?_;refine J112 ?_;refine J30 ?_;refine J23 ?_
 refine ao_w (e_store1 (d := .pt _) (cs' := [_]) rfl rfl rfl rfl rfl) ak (p_store V.h V.h (by first | (simp; done) | exact ⟨rfl, Nat.le_of_ble_eq_true rfl⟩ | (simp; omega)) rfl) ?_
 refine J3 ?_
 refine ao_end (w_ghost (ghost_fr [(1, [.pt (encGraph f BL AL (encBools cnt))], 79)] eH (l := [(4, .pt [.pt (encGraph f BL AL (encBools cnt))]), (5, I 0)]) eH) (w_assoc (w_seq_region ?_)))
 refine J0 ?_;refine J34 ?_
 refine ao_end (w_seq_if rfl (fun h => (by cases h)) fun _ => w_seq_skip (w_seq_region_g ?_))
 refine J4 ?_;refine cl k60 ?_;refine J23 ?_
 refine ao_w (e_store1 (d := .sl _ _) (cs' := [_]) rfl rfl rfl rfl rfl) ak (p_store V.h V.h (by first | (simp; done) | exact ⟨rfl, Nat.le_of_ble_eq_true rfl⟩ | (simp; omega)) rfl) ?_
 refine ao_end (w_ghost (ghost_fr [(2, [encInts par], 27)] eH (l := [(4, .pt [.pt (encGraph f BL AL (encBools cnt))]), (6, .pt [encInts par])]) eH) (w_seq_region_g ?_))
 have hn' : ((f.blocks.length : Nat) : Int).toNat = n := hn
 refine J4 ?_;refine J43 ?_;refine J5 ?_;refine J5 ?_;refine J4 ?_;refine J13 ?_;refine J124 ?_;refine J23 ?_;refine J162 ?_
 refine ao_end (w_ghost (ghost_st (l := [(4, .pt [.pt (encGraph f BL AL (encBools cnt))]), (6, .pt [encInts par]), (7, .rp 4 0)]) (ml := [(3, .cells (List.replicate n .z) 27), (4, .cells [.rs 3 0 n] 28)]) eH ⟨?_, ?_, trivial⟩) ?_)
 ·exact congrArg (fun c => some (Row.cells c 27)) ((congrArg (fun k => replD k [D.z]) hn').trans (replD_z n))
 ·exact congrArg (fun k => some (Row.cells [D.rs 3 0 k] 28)) hn'
 have hfr0 : fr0 cnt par ahd n = (allI cnt n).foldl (frB cnt par ahd n) fun _ => [] := rfl
 have hfrR : frontR cnt par ahd n = frL (fr0 cnt par ahd n) n := rfl
 rw [hfrR]
 clear hfrR
 generalize fr0 cnt par ahd n = F at hsrt hln hfr0 ⊢
 have hxn : (allI cnt n).length <= n := by
  unfold allI
  rw [List.length_map]
  exact Nat.le_trans (List.length_filter_le _ _) (by simp)
 have hxm : ∀ (k : Nat) x, (allI cnt n)[k]? = some x -> ∃ b : Nat, x = b /\ b < n /\ cnt.getD b false = true := fun k x hx => by
  have := List.mem_of_getElem? hx
  unfold allI at this
  obtain ⟨b, hb, rfl⟩ := List.mem_map.1 this
  rw [List.mem_filter, List.mem_range] at hb
  exact ⟨b, rfl, hb.1, hb.2⟩
 generalize allI cnt n = xs at s61 hfr0 hxn hxm
 refine w_cut_g (fun s => ∃ m nx, Ghost prog s ⟨envL [(7, .rp 4 0)], m, nx⟩ /\ FrS n 20000 F m nx) (w_seq_region ?_) fun s hs => ?_
 ·refine J4 ?_;refine J65 ?_
  refine ao_end (w_block ?_)
  refine ⟨rfl, trivial, 61, _, [], xs.map (fun n => [I n]), fun k m nx => FrS n (800 * k) ((xs.take k).foldl (frB cnt par ahd n) fun _ => []) m nx, rfl, s61, ?_, ?_, ?_, ?_⟩
  ·intro y hy
   obtain ⟨n, _, rfl⟩ := List.mem_map.1 hy
   exact ⟨rfl, .cons (.s _) .nil⟩
  ·exact ⟨Nat.le_refl _, rfl, ⟨fun _ => 0, jag_init (show 3 < 5 by decide) rfl, fun _ _ h => absurd rfl h⟩, fun _ => Nat.le_refl _⟩
  ·rintro k m nx y hy hI
   simp only [List.getElem?_map, Option.map_eq_some_iff] at hy
   obtain ⟨b, hb, rfl⟩ := hy
   obtain ⟨bn, rfl, hbn, hcb⟩ := hxm k b hb
   have hk : k < xs.length := (List.getElem?_eq_some_iff.1 hb).1
   have hstep : (xs.take (k + 1)).foldl (frB cnt par ahd n) (fun _ => []) = frB cnt par ahd n ((xs.take k).foldl (frB cnt par ahd n) fun _ => []) bn := foldl_take hb
   generalize (xs.take k).foldl (frB cnt par ahd n) (fun _ => []) = L at hI hstep
   have hfB : frB cnt par ahd n L (bn : Int) = (ahd bn).foldl (frA cnt par n bn) L := rfl
   rw [hfB] at hstep
   clear hfB
   have hstep : ∀ m nx, FrS n (800 * (k + 1)) ((ahd bn).foldl (frA cnt par n bn) L) m nx -> FrS n (800 * (k + 1)) ((xs.take (k + 1)).foldl (frB cnt par ahd n) fun _ => []) m nx := fun m nx h => by rw [hstep]; exact h
   have hax := hax bn hbn
   have hal := hal bn hbn
   have har := har bn
   generalize ahd bn = l at hax hal har hstep
   refine w_regE ?_
   refine J3 ?_
   refine ao_end (show AW _ _ _ _ _ _ from w_block (w_seq_region_g ?_))
   refine J4 ?_;refine J43 ?_;refine J5 ?_;refine J4 ?_;refine J0 ?_;refine J18 ?_;refine J4 ?_;refine J13 ?_;refine J0 ?_
   have hpb : par[bn]? = some (stP par bn) := by
    have := List.getElem?_eq_getElem (show bn < par.length by omega)
    rw [this]; simp [stP, List.getD_eq_getElem?_getD, this]
   have hfA : ∀ (L : Nat -> List Int) (an : Nat), frA cnt par n (bn : Int) L (an : Int) = if cnt.getD an false = true then climbF par (stP par bn) bn (n + 1) L an else L := fun L an => rfl
   generalize stP par bn = pb at hpb hfA
   refine ao_end (w_range (α := Nat × Mem × Nat)
    (fun j => ⟨envL [(4, .pt [.pt (encGraph f BL AL (encBools cnt))]), (6, .pt [encInts par]), (7, .rp 4 0), (8, I bn), (39, encInts l), (40, I l.length), (41, I j.1)], j.2.1, j.2.2⟩)
    (fun j => j.1 <= l.length /\ FrS n (800 * k + 30 * j.1) ((l.take j.1).foldl (frA cnt par n bn) L) j.2.1 j.2.2) (fun j => l.length - j.1) (0, m, nx)
    (ghost_of eH) ⟨Nat.zero_le _, hI⟩ ?_)
   clear hI
   rintro ⟨j, m, nx⟩ ⟨hj, hI⟩
   dsimp only at hj hI ⊢
   have hnx : ∀ a, l[j]? = some a -> (l.take (j + 1)).foldl (frA cnt par n bn) L = frA cnt par n bn ((l.take j).foldl (frA cnt par n bn) L) a := fun a ha => foldl_take ha
   have hlst : j = l.length -> (l.take j).foldl (frA cnt par n bn) L = l.foldl (frA cnt par n bn) L := fun e => by rw [e, List.take_length]
   generalize (l.take j).foldl (frA cnt par n bn) L = L0 at hI hnx hlst
   refine J17 ?_
   refine ao_end ⟨_, rfl, fun h => ?_, fun h => ?_⟩
   ·have hjl : j < l.length := by simpa using h
    have hxa : l[j]? = some l[j] := List.getElem?_eq_getElem hjl
    have har := har _ (List.getElem_mem hjl)
    generalize l[j] = a at hxa har
    obtain ⟨an, rfl⟩ := Int.eq_ofNat_of_zero_le har.1
    have han : an < n := har.2
    have hnx := hnx _ hxa
    rw [hfA] at hnx
    obtain ⟨R', hR'⟩ : ∃ R', (l.take (j + 1)).foldl (frA cnt par n bn) L = R' := ⟨_, rfl⟩
    have hfin : ∀ m nx, FrS n (800 * k + 30 * (j + 1)) R' m nx -> FrS n (800 * k + 30 * (j + 1)) ((l.take (j + 1)).foldl (frA cnt par n bn) L) m nx := fun m nx h => by rw [hR']; exact h
    rw [hR'] at hnx
    clear hR'
    have hca : cnt[an]? = some (cnt.getD an false) := by
     have := List.getElem?_eq_getElem (show an < cnt.length by omega)
     rw [List.getD_eq_getElem?_getD, this]; rfl
    have hup : cnt.getD an false = true -> upTo (behG f) n (n + 1) an := fun hc => (hup an (hcr an hc)).imp id fun ⟨m, e, r, p⟩ => ⟨m, e, r, by omega⟩
    generalize cnt.getD an false = ca at hca hnx hup
    refine ws ?_;refine J18 ?_;refine J4 ?_;refine J3 ?_
    refine ao_end (w_seq_region_g ?_)
    refine J0 ?_;refine J3 ?_
    refine ao_end (w_for (α := Nat × (Nat -> List Int) × Int × Mem × Nat)
     (fun s => ⟨envL [(4, .pt [.pt (encGraph f BL AL (encBools cnt))]), (6, .pt [encInts par]), (7, .rp 4 0), (8, I bn), (10, I an), (11, I s.2.2.1), (39, encInts l), (40, I l.length), (41, I j)], s.2.2.2.1, s.2.2.2.2⟩)
     (fun s => s.1 <= n + 1 /\ FrS n (800 * k + 30 * j + (n + 1 - s.1)) s.2.1 s.2.2.2.1 s.2.2.2.2 /\ (ca = true -> R' = climbF par pb bn s.1 s.2.1 s.2.2.1 /\ upTo (behG f) n s.1 s.2.2.1) /\ (ca = false -> R' = s.2.1)) (fun s => s.1) (n + 1, L0, an, m, nx)
     (ghost_of eH) ⟨Nat.le_refl _, by rw [Nat.sub_self]; exact hI, fun hc => ⟨by rw [hnx, if_pos hc], hup hc⟩, fun hc => by rw [hnx, hc]; rfl⟩ ?_)
    clear hI hnx hup hlst
    rintro ⟨kk, L', x, m, nx⟩ ⟨hkk, hI, hc1, hc0⟩
    dsimp only at hkk hI hc1 hc0 ⊢
    refine J4 ?_;refine J43 ?_;refine J5 ?_;refine J4 ?_;refine J0 ?_;refine J18 ?_;refine J4 ?_;refine J2 ?_;refine J10 ?_;refine J39 ?_;refine J9 ?_;refine J2 ?_;refine J10 ?_;refine J6 ?_;refine J10 ?_;refine J53 ?_;refine J6 ?_;refine J39 ?_;refine J9 ?_
    refine ao_end ⟨_, rfl, fun h => ?_, fun h => ?_⟩
    ·obtain ⟨rfl, hx1, hx2⟩ : ca = true /\ x ≠ -1 /\ x ≠ pb := by revert h; cases ca <;> simp
     obtain ⟨hR, hU⟩ := hc1 rfl
     obtain ⟨xn, kk, rfl, hxn', rfl, hU'⟩ := hups _ _ hU hx1
     rw [climbF, if_pos ⟨hx1, hx2⟩, Int.toNat_natCast] at hR
     have hxl : xn < n := by omega
     have hpx : par[xn]? = some (stP par xn) := by
      have := List.getElem?_eq_getElem (show xn < par.length by omega)
      rw [this]; simp [stP, List.getD_eq_getElem?_getD, this]
     generalize stP par xn = px at hpx hR hU'
     have ⟨hnx5, hrow2, ⟨ρ, hJ, hρ⟩, hlen⟩ := hI
     have hrow := hJ.row
     have hjl := hJ.jlt
     have hL := hlen xn
     have hLm : (fun a => (addF bn L' xn a).map I) = up (fun a => (L' a).map I) xn ((L' xn ++ [(bn : Int)]).map I) := map_up
     have hlen' : ∀ i, (addF (bn : Int) L' xn i).length <= 800 * k + 30 * j + (n + 1 - kk) := fun i => by
      by_cases e : i = xn
      ·subst e; rw [addF_eq, List.length_append, List.length_singleton]; omega
      ·rw [addF_ne _ _ e]; have := hlen i; omega
     have hρ' : ∀ a, a < n -> (addF (bn : Int) L' xn a).map I ≠ [] -> up ρ xn (nx + 1) a ≠ 4 := fun a ha hne => by
      simp only [up]
      split
      ·omega
      ·rename_i hai
       refine hρ a ha ?_
       rw [addF_ne _ _ hai] at hne
       exact hne
     obtain ⟨cs, kd⟩ := drop_jag (ρ := ρ) (L := fun i => (L' i).map I) hxl
     refine w_drawB di_r39_14 ?_
     by_cases hz : L' xn = []
     ·have hjc : jc (ρ xn) ((L' xn).map I) = .z := by rw [hz]; rfl
      rw [hjc] at kd
      refine J84 ?_;refine J0 ?_;refine J84 ?_;refine J0 ?_;refine J70 ?_;refine J80 ?_;refine J0 ?_;refine J37 ?_;refine J104 ?_;refine J157 ?_;refine J158 ?_
      refine ao_endc (by simp [apartT]; omega) ?_
      refine J4 ?_;refine J0 ?_;refine J18 ?_;refine J4 ?_;refine J3 ?_
      refine ao_end (next_of (kk, addF bn L' xn, px, up (up (up m nx (some (.cells [I bn] 3))) (nx + 1) (some (.cells [I bn] 3))) 3 (some (.cells ((jagC ρ (fun i => (L' i).map I) n).set xn (.rs (nx + 1) 0 1)) 27)), nx + 2) (ghost_of eH) ⟨by dsimp only; omega, ⟨by dsimp only; omega, ?_, ⟨up ρ xn (nx + 1), ?_, hρ'⟩, hlen'⟩, fun _ => ⟨hR, hU'⟩, fun h => Bool.noConfusion h⟩ (by dsimp only; omega))
      ·dsimp only
       exact mskip oG (mskip oG (mskip oG hrow2))
      dsimp only
      rw [hLm]
      refine hJ.upd hxl (by simp) oG oG ?_ ?_ (fun q hq hqj _ => ?_)
      ·rw [hz]; exact up_same _ _ _
      ·rw [hz]; exact mskip oG (up_same _ _ _)
      ·exact mskip oG (mskip oG (mskip oG rfl))
     ·have hne : (L' xn).map I ≠ [] := by simpa using hz
      have hjc : jc (ρ xn) ((L' xn).map I) = .rs (ρ xn) 0 (L' xn).length := by rw [jc_ne hne, List.length_map]
      rw [hjc] at kd
      have hrow3 := hJ.row' xn hxl hne
      have hρn := hJ.lt xn hxl hne
      have hρ2 := hJ.ne xn hxl hne
      have hρ4 := hρ xn hxl hne
      refine J84 ?_;refine J0 ?_;refine J84 ?_;refine J0 ?_;refine J70 ?_;refine J80 ?_;refine J0 ?_;refine J37 ?_
      refine ao_m (e_appR rfl (mskip oG hrow3) rfl V.h V.h (cells_rs (up_same _ _ _) rfl) rfl) ak ⟨V.h, rfl, (by first | omega | exact Nat.le_of_ble_eq_true rfl | (simp; done) | (simp; omega)), (by decide), (by first | rfl | (simp; done) | (simp; omega)), (by unfold maxLen; first | omega | (simp; omega)), (by rw [b3]; first | omega | (simp; omega)), (by first | (simp; done) | (simp; omega))⟩ ?_
      refine J159 ?_;refine J160 ?_
      refine ao_endc (by simp [apartT]; omega) ?_
      refine J4 ?_;refine J0 ?_;refine J18 ?_;refine J4 ?_;refine J3 ?_
      refine ao_end (next_of (kk, addF bn L' xn, px, up (up (up (up m nx (some (.cells [I bn] 3))) (ρ xn) none) (nx + 1) (some (.cells ((L' xn).map I ++ [I bn]) 3))) 3 (some (.cells ((jagC ρ (fun i => (L' i).map I) n).set xn (.rs (nx + 1) 0 ((L' xn).length + 1))) 27)), nx + 2) (ghost_of eH) ⟨by dsimp only; omega, ⟨by dsimp only; omega, ?_, ⟨up ρ xn (nx + 1), ?_, hρ'⟩, hlen'⟩, fun _ => ⟨hR, hU'⟩, fun h => Bool.noConfusion h⟩ (by dsimp only; omega))
      ·dsimp only
       exact mskip oG (mskip oG (mskip oG (mskip oG hrow2)))
      dsimp only
      rw [hLm]
      refine hJ.upd hxl (by simp) oG oG ?_ ?_ (fun q hq hqj hqi => ?_)
      ·rw [List.length_map, List.length_append]; exact up_same _ _ _
      ·rw [List.map_append]; exact mskip oG (up_same _ _ _)
      ·have := hqi hne
       exact mskip oG (mskip oG (mskip oG (mskip oG rfl)))
    ·have hR : R' = L' := by
      cases ca with
      | false => exact hc0 rfl
      | true =>
       obtain ⟨h1, h2⟩ := hc1 rfl
       rw [h1]
       have hx : ¬ (x ≠ -1 /\ x ≠ pb) := by simpa using h
       cases kk with
       | zero => rfl
       | succ kk => rw [climbF, if_neg hx]
     subst hR
     show AOps _ _ _ _ _ _ _ _ _
     refine J11 ?_;refine J0 ?_
     refine ao_end (next_of (j + 1, m, nx) (ghost_of eH) ⟨by dsimp only; omega, hfin _ _ ⟨hI.nx5, hI.m4, hI.jag, fun i => Nat.le_trans (hI.len i) oG⟩⟩ (by dsimp only; omega))
   ·have hge : ¬ j < l.length := by simpa using h
    have e := hlst oG
    subst e
    exact hstep _ _ ⟨hI.nx5, hI.m4, hI.jag, fun i => Nat.le_trans (hI.len i) oG⟩
  ·rintro m nx hI
   rw [List.length_map, List.take_length, <- hfr0] at hI
   exact ⟨m, nx, ghost_of eH, hI.nx5, hI.m4, hI.jag, fun i => Nat.le_trans (hI.len i) oG⟩
 obtain ⟨m, nx, hg1, hI⟩ := hs
 obtain ⟨hnx5, hm4, ⟨ρ, hJ, hρ⟩, _⟩ := hI
 have h0 : Fr2 n F ρ 0 m nx := ⟨hnx5, hm4, hJ.row.trans (by unfold jagC mixC; simp), fun i _ hi hne => ⟨hJ.row' i hi hne, hJ.lt i hi hne, hJ.ne i hi hne, hρ i hi hne⟩, fun i k _ _ => hJ.inj i k⟩
 clear hJ hρ s61 hfr0 hxm hxn hup hups hcr hax hal har k51 k60
 refine ⟨_, hg1, w_assoc (w_seq_region_g ?_)⟩
 have hrow := hm4
 have hrow2 := h0.row
 refine J42 ?_
 refine ao_p (e_lenR rfl hrow2) ak V.h ?_
 refine J0 ?_
 refine ao_end (w_then (fun s => ∃ m nx, Ghost prog s ⟨envL [(7, .rp 4 0)], m, nx⟩ /\ m 3 = some (.cells ((frL F n).map zL) 27) /\ m 4 = some (.cells [.rs 3 0 n] 28)) (w_range (α := Nat × Mem × Nat)
  (fun k => ⟨envL [(7, .rp 4 0), (81, I n), (82, I k.1)], k.2.1, k.2.2⟩) (fun k => k.1 <= n /\ Fr2 n F ρ k.1 k.2.1 k.2.2) (fun k => n - k.1) (0, m, nx) (ghost_of eH) ⟨Nat.zero_le _, h0⟩ ?_) ?_)
 ·clear h0 hrow hrow2 hm4 hnx5 hg1
  rintro ⟨k, m, nx⟩ ⟨hk, hI⟩
  dsimp only at hk hI ⊢
  refine J17 ?_
  refine ao_end ⟨_, rfl, fun h => ?_, fun h => ?_⟩
  ·have hlt : k < n := by simpa using h
   have ⟨hnx5, hrow, hrow2, hfut, hinj⟩ := hI
   have hmd := mix_drop (ρ := ρ) (F := F) hlt
   have hln := hln k
   have hsrt := hsrt k
   refine ws ?_;refine J0 ?_;refine J3 ?_;refine er ?_
   by_cases hz : F k = []
   ·have hjc : jc (ρ k) ((F k).map I) = .z := by rw [hz]; rfl
    rw [hjc] at hmd
    have kd := hmd
    have k89 := k89z
    have k90 := k90z
    refine J42 ?_;refine J0 ?_;refine J76 ?_;refine J82 ?_;refine cl k89 ?_
    refine ao_end (w_drawB di_r39_20 ?_)
    refine J42 ?_;refine J0 ?_;refine J42 ?_;refine J0 ?_;refine J76 ?_;refine J82 ?_;refine cl k90 ?_;refine J76 ?_
    refine ao_w (e_store1 (d := .z) (cs' := _) rfl rfl hrow2 rfl rfl) ak (p_store V.h V.h (by first | (simp; done) | exact ⟨rfl, Nat.le_of_ble_eq_true rfl⟩ | (simp; omega)) rfl) ?_
    refine ao_endc (by simp [apartT]) ?_
    refine J11 ?_;refine J0 ?_
    refine ao_end (next_of (k + 1, up m 3 (some (.cells ((mixC ρ F k n).set k .z) 27)), nx) (ghost_of eH) ⟨by dsimp only; omega, hnx5, ?_, ?_, ?_, fun i j hi hj => hinj i j (by dsimp only at hi; omega) (by dsimp only at hj; omega)⟩ (by dsimp only; omega))
    ·dsimp only
     rw [up_ne _ _ oG]; exact hrow
    ·dsimp only
     rw [up_same, mix_set hlt, hz]; rfl
    ·intro i hi hin hne
     dsimp only at hi ⊢
     obtain ⟨a, b, c, d⟩ := hfut i oG hin hne
     exact ⟨by rw [up_ne _ _ c]; exact a, b, c, d⟩
   ·have hne : (F k).map I ≠ [] := by simpa using hz
    have hjc : jc (ρ k) ((F k).map I) = .rs (ρ k) 0 (F k).length := by rw [jc_ne hne, List.length_map]
    rw [hjc] at hmd
    have kd := hmd
    obtain ⟨hrow3, hρn, hρ3, hρ4⟩ := hfut k (Nat.le_refl _) hlt hne
    refine J42 ?_;refine J0 ?_;refine J76 ?_;refine J82 ?_
    refine ao_ac (k89s hρn hrow3 hsrt rfl hln) rfl (by repeat' (first | exact trivial | exact rfl | refine And.intro ?_ ?_)) fun r m' nx' hp => ?_
    obtain ⟨rfl, rfl, rfl⟩ := hp
    refine ao_end (w_drawB di_r39_20 ?_)
    refine J42 ?_;refine J0 ?_;refine J42 ?_;refine J0 ?_;refine J76 ?_;refine J82 ?_
    refine ao_uc (r := .rs (ρ k) 0 (compactR (F k)).length) (ups := [(ρ k, some (.cells (compC (F k) (F k).length) 3))]) (rds := [ρ k]) (fun m2 nx2 hm2 => ?_) ?_ rfl (by repeat' (first | exact trivial | exact rfl | refine And.intro ?_ ?_)) ?_
    ·have e := hm2 (ρ k) (by simp) fun e => absurd (hrow3.symm.trans e) (by simp)
     have e := e.trans hrow3
     refine acall_lt e ok90.he fun hlt2 => (k90e hlt2 e rfl oG).mono ?_
     rintro r m' nx' ⟨h1, h2, h3⟩
     exact ⟨h2, h3, h1⟩
    ·intro i hi
     simp at hi
     subst hi
     exact ⟨by simp, fun e => absurd (hrow3.symm.trans e) (by simp)⟩
    show AOps _ _ _ _ _ _ _ ⟨up _ 96 _, up _ (ρ k) (some (.cells (compC (F k) (F k).length) 3)), _⟩ _
    refine ao_p (e_idxRi rfl rfl (mskip oG hrow2) V.h V.h) ak ⟨V.h, by omega⟩ ?_
    refine ao_w (e_store1 (d := .rs _ _ _) (cs' := _) rfl rfl (mskip oG hrow2) rfl rfl) ak (p_store V.h V.h (by first | (simp; done) | exact ⟨rfl, Nat.le_of_ble_eq_true rfl⟩ | (simp; omega)) rfl) ?_
    refine ao_endc (by simp [apartT]; omega) ?_
    refine J11 ?_;refine J0 ?_
    have hcs : (compC (F k) (F k).length).take ((compactR (F k)).length * 1) = (compactR (F k)).map I := by
     rw [compC, Nat.mul_one, List.take_append_of_le_length (by simp), List.take_of_length_le (by simp)]
    have hcz : zL (compactR (F k)) = encInts (compactR (F k)) := by
     unfold zL
     rw [if_neg fun e => ?_]
     obtain ⟨x, hx⟩ := List.exists_mem_of_ne_nil _ hz
     have := (mem_ddK (d := F k) (x := x) (Nat.le_refl _)).2 (by rw [List.take_length]; exact hx)
     have e : ddK (F k) (F k).length = [] := e
     rw [e] at this
     simp at this
    generalize compC (F k) (F k).length = cs at hcs
    refine ao_end (next_of (k + 1, fun j => if j = ρ k then none else (up (up _ (ρ k) (some (.cells cs 3))) 3 (some (.cells ((mixC ρ F k n).set k (.rs (ρ k) 0 (compactR (F k)).length)) 27)) j).map (Row.sub (fz0 (ρ k) cs (prog.cellsOf 3))), _) (ghost_fzm (i := ρ k) (e := 3) (cs := cs) (l := [(7, .rp 4 0), (81, I n), (82, I ((k + 1 : Nat) : Int))]) (mskip hρ3 (up_same _ _ _)) ⟨fz_rp_ne oG, rfl, rfl, trivial⟩) ⟨by dsimp only; omega, hnx5, ?_, ?_, ?_, fun i j hi hj => hinj i j (by dsimp only at hi; omega) (by dsimp only at hj; omega)⟩ (by dsimp only; omega))
    ·dsimp only
     rw [if_neg oG, up_ne _ _ oG, up_ne _ _ oG, hrow]
     refine congrArg some (InertR.cells (X := fun p => p = ρ k) (fun d hd => ?_) _ _ _ rfl)
     rw [List.mem_singleton] at hd
     subst hd
     exact .rs oG
    ·dsimp only
     rw [if_neg oG, up_same]
     show some (Row.cells (List.map _ _) 27) = _
     rw [mix_set hlt, hcz]
     refine congrArg (fun c => some (Row.cells c 27)) (List.ext_getElem (by simp) fun i h1 h2 => ?_)
     rw [List.getElem_map, List.getElem_set, List.getElem_set]
     by_cases e : k = i
     ·rw [if_pos e, if_pos e, c3, fz_rs, List.drop_zero, hcs]
     ·rw [if_neg e, if_neg e]
      simp only [mixC, List.getElem_map, List.getElem_range]
      split
      ·unfold zL
       split <;> rfl
      ·by_cases ei : (F i).map I = []
       ·have : jc (ρ i) ((F i).map I) = .z := by rw [ei]; rfl
        rw [this]; rfl
       ·rw [jc_ne ei]
        have hin : i < n := by simpa using h2
        exact sub_rs_ne fun e' => e (hinj k i (Nat.le_refl _) oG hlt hin hne ei e'.symm)
    ·intro i hi hin hne'
     dsimp only at hi ⊢
     obtain ⟨a, b, c, d⟩ := hfut i oG hin hne'
     have hik : ρ i ≠ ρ k := fun e' => by
      have := hinj i k oG (Nat.le_refl _) hin hlt hne' hne e'
      omega
     refine ⟨?_, b, c, d⟩
     rw [if_neg hik, up_ne _ _ c, up_ne _ _ hik, a]
     exact congrArg some (InertR.allS (X := fun p => p = ρ k) .map _ _ _ rfl)
  ·have hge : ¬ k < n := by simpa using h
   have : k = n := by omega
   subst this
   exact ⟨m, nx, ghost_of eH, hI.row.trans (by rw [mix_end]), hI.m4⟩
 ·rintro s ⟨m, nx, hg2, h3, h4⟩
  refine ⟨_, hg2.trans (ghost_fzk (i := 3) (e := 27) (cs := (frL F n).map zL) (l := [(7, .rp 4 0)]) (ml := [(4, .cells [.sl ((frL F n).map zL) n] 28)]) h3 ⟨fz_rp_ne oG, trivial⟩ ⟨?_, trivial⟩), w_seq_region ?_⟩
  ·dsimp only
   rw [if_neg oG, h4]
   show some (Row.cells [sub _ (.rs 3 0 n)] 28) = _
   rw [sub_rs_eq (by rw [c27]; simp [frL])]
  refine J46 ?_;refine J41 ?_;refine J3 ?_
  exact ao_end (q_ret2 rfl rfl rfl)
end Go.Proofs.Tryz.K
end
section
open Go Go.Abs Go.Proofs Go.Argus
namespace Go.Argus
def someR (f : Flow) (a : Nat) (l : List Int) : Bool := l.any fun c => domR (behG f) (ahdG f) f.blocks.length a c.toNat
theorem someR_snoc (f : Flow) (a : Nat) (l : List Int) (c : Int) : someR f a (l ++ [c]) = (if someR f a l = true then true else domR (behG f) (ahdG f) f.blocks.length a c.toNat) := by
 unfold someR
 rw [List.any_append]
 cases l.any fun c => domR (behG f) (ahdG f) f.blocks.length a c.toNat <;> simp
theorem fronts_law {f : Flow} (hok : FlowOk f) {a b : Nat} (ha : a < f.blocks.length) :
  hasL ((frontG f).getD a []) b = (if someR f a (ahdG f b) = true then (if ((a : Int) == b) = true then true else !domR (behG f) (ahdG f) f.blocks.length a b) else false) := by
 have h := parG hok
 have ht := up_tree h
 have hm := front_mem h (ahdG_le hok) (i := a) (b := b) ha
 have e1 : hasL ((frontG f).getD a []) b = true ↔ inRch (behG f) f.blocks.length b /\ FrontP (behG f) f.blocks.length a b := hasL_iff.trans hm
 have e2 : someR f a (ahdG f b) = true ↔ ∃ p, edgeN (behG f) p b /\ inRch (behG f) f.blocks.length p /\ DomN (behG f) a p := by
  unfold someR
  rw [List.any_eq_true]
  constructor
  ·rintro ⟨c, hc, hd⟩
   obtain ⟨q1, q2, q3⟩ := (domR_ok h).1 hd
   have := (h.fro b c).1 hc
   exact ⟨c.toNat, this.2.2, q2, q3⟩
  ·rintro ⟨p, hp, rp, dp⟩
   have ra : inRch (behG f) f.blocks.length a := (ht.low rp ((anc_dom h rp).2 dp)).1
   exact ⟨p, (ahd_edge h rp).2 hp, (domR_ok h).2 ⟨ra, rp, dp⟩⟩
 have e3 : ∀ p, edgeN (behG f) p b -> inRch (behG f) f.blocks.length p -> DomN (behG f) a p -> (domR (behG f) (ahdG f) f.blocks.length a b = true ↔ DomN (behG f) a b) /\ inRch (behG f) f.blocks.length b := fun p hp rp dp => by
  have ra : inRch (behG f) f.blocks.length a := (ht.low rp ((anc_dom h rp).2 dp)).1
  have rb := (grn h).next p b hp rp
  exact ⟨(domR_ok h).trans ⟨fun x => x.2.2, fun x => ⟨ra, rb, x⟩⟩, rb⟩
 by_cases hs : someR f a (ahdG f b) = true
 ·rw [if_pos hs]
  obtain ⟨p, hp, rp, dp⟩ := e2.1 hs
  obtain ⟨d1, rb⟩ := e3 p hp rp dp
  by_cases hab : a = b
  ·have : ((a : Int) == b) = true := by simp [hab]
   rw [if_pos this]
   exact e1.2 ⟨rb, p, hp, rp, dp, .inl hab⟩
  ·have : ¬ ((a : Int) == b) = true := by simp; omega
   rw [if_neg this]
   cases hd : domR (behG f) (ahdG f) f.blocks.length a b with
   | true =>
    refine Bool.eq_false_iff.2 fun hx => ?_
    obtain ⟨_, q, _, _, _, hq⟩ := e1.1 hx
    rcases hq with hq | hq
    ·exact hab hq
    ·exact hq (d1.1 hd)
   | false =>
    exact e1.2 ⟨rb, p, hp, rp, dp, .inr fun hx => by have := d1.2 hx; rw [hd] at this; cases this⟩
 ·rw [if_neg hs]
  refine Bool.eq_false_iff.2 fun hx => ?_
  obtain ⟨_, q, hq, rq, dq, _⟩ := e1.1 hx
  exact hs (e2.2 ⟨q, hq, rq, dq⟩)
end Go.Argus
namespace Go.Proofs.Tryz.K
set_option maxRecDepth 10000
theorem k30z {l : List Int} {v : Int} : PCall prog 30 [zL l, I v] (B (hasL l v)) := by
 unfold zL
 split
 ·rename_i e
  subst e
  exact pcall_weak (k := 3) (k30 (l := []) (v := v)) (by simp [eqLs, eqW, encInts, eqV]) (.cons .z (.cons (.s _) .nil))
 ·exact k30
theorem k11_err {f : Flow} {a b : Int} (k17 : PCall prog 17 [] (B true)) (hck : checkR f ≠ 0) : PCall prog 11 [.agg (encFlow f), I a, I b] (B true) := by
 have k15 := k15 (f := f)
 have htr : ∀ x ∈ [D.agg (encFlow f), I a, I b], Tr x := .cons (.agg (trs_flow f)) (.cons (.s _) (.cons (.s _) .nil))
 refine pcall_of mixed ok11 (by rw [nt11]; rfl) htr (Tr.s _) ?_
 have k39 := k39_err hck
 have k46 := k46 (f := f) (b := b)
 have k37 := k37 (f := f) (a := a) (b := b)
 rw [frontD, if_neg hck] at k39
 rw [aheadD, if_neg hck] at k46
 rw [domD, if_neg hck] at k37
 generalize checkR f = e at *
 have kneq : (e != 0) = true := by simpa using hck
 rw [rs11, sk11]
 refine w_seq_region_g ?_
 refine J40 ?_;refine J1 ?_
 refine ao_end (w_ghost (ghost_fr [(0, encFlow f, 26)] eH (l := [(1, I a), (2, I b), (3, .pt (encFlow f))]) eH) (w_assoc (w_seq_region ?_)))
 refine J28 ?_;refine cl k15 ?_;refine J32 ?_
 refine ao_end (w_seq_if rfl (fun h => ?_) fun h => w_seq_skip (w_seq_region ?_))
 ·refine w_assoc (w_seq_region ?_)
  refine cl k17 ?_;refine J1 ?_
  exact ao_end (w_seq_ret (q_ret1 rfl rfl))
 refine J28 ?_;refine cl k39 ?_;refine J26 ?_;refine J85 ?_;refine J30 ?_;refine J19 ?_;refine J3 ?_;refine er ?_;refine J28 ?_;refine J0 ?_;refine cl k46 ?_;refine J26 ?_;refine J85 ?_;refine J30 ?_;refine J19 ?_;refine J3 ?_;refine er ?_;refine J28 ?_;refine J0 ?_;refine J0 ?_;refine cl k37 ?_;refine J26 ?_;refine J45 ?_;refine J30 ?_;refine J1 ?_;refine J3 ?_
 refine ao_end (w_assoc (w_seq_region ?_))
 refine J0 ?_;refine J61 ?_;refine J2 ?_;refine z fun _ _ => ?_;refine z fun _ _ => ?_;refine J21 ?_;refine J2 ?_;refine z fun _ _ => ?_;refine z fun _ _ => ?_;refine J21 ?_
 refine ao_end (w_seq_if rfl (fun h => ?_) fun h => (by cases h))
 refine w_assoc (w_seq_region ?_)
 refine cl k17 ?_;refine J1 ?_
 exact ao_end (w_seq_ret (q_ret1 rfl rfl))
set_option maxHeartbeats 1000000 in
theorem k11_ok {f : Flow} {a b : Int} (k17 : PCall prog 17 [] (B true)) (hck : checkR f = 0) : PCall prog 11 [.agg (encFlow f), I a, I b] (B true) := by
 have k15 := k15 (f := f)
 have htr : ∀ x ∈ [D.agg (encFlow f), I a, I b], Tr x := .cons (.agg (trs_flow f)) (.cons (.s _) (.cons (.s _) .nil))
 refine pcall_of mixed ok11 (by rw [nt11]; rfl) htr (Tr.s _) ?_
 have hf : formedB f = true := by
  unfold checkR at hck
  split at hck
  ·assumption
  ·cases hck
 have hok := flowOk hf
 rw [rs11, sk11]
 refine w_seq_region_g ?_
 refine J40 ?_;refine J1 ?_
 refine ao_end (w_ghost (ghost_fr [(0, encFlow f, 26)] eH (l := [(1, I a), (2, I b), (3, .pt (encFlow f))]) eH) (w_assoc (w_seq_region ?_)))
 refine J28 ?_;refine cl k15 ?_;refine J32 ?_
 refine ao_end (w_seq_if rfl (fun h => ?_) fun h => w_seq_skip (w_seq_region ?_))
 ·refine w_assoc (w_seq_region ?_)
  refine cl k17 ?_;refine J1 ?_
  exact ao_end (w_seq_ret (q_ret1 rfl rfl))
 have hfew : fewB f = true := by
  revert h
  cases fewB f <;> simp
 have hn24 : f.blocks.length <= 24 := by
  have := few1_le hfew
  have := hok.lim
  omega
 clear h k15
 have k39 := k39_ok hck hn24
 have k46 := k46 (f := f) (b := b)
 have k37g := fun b => k37 (f := f) (a := a) (b := b)
 rw [frontD, if_pos hck] at k39
 have hfl : (frontG f).length = f.blocks.length := by simp [frontG, frontR]
 rw [<- hfl] at k39
 rw [aheadD, if_pos hck] at k46
 simp only [domD, if_pos hck] at k37g
 refine J28 ?_;refine cl k39 ?_;refine J26 ?_;refine J67 ?_;refine J30 ?_;refine J41 ?_;refine J3 ?_;refine er ?_
 by_cases hin : 0 <= a /\ a < f.blocks.length /\ 0 <= b /\ b < f.blocks.length
 ·obtain ⟨a1, a2, b1, b2⟩ := hin
  obtain ⟨an, rfl⟩ := Int.eq_ofNat_of_zero_le a1
  obtain ⟨bn, rfl⟩ := Int.eq_ofNat_of_zero_le b1
  have k37 := k37g bn
  rw [if_pos ⟨a1, a2, b1, b2⟩] at k37
  rw [if_pos ⟨b1, b2⟩] at k46
  have hlaw := fronts_law hok (a := an) (b := bn) oG
  rw [Int.toNat_natCast] at k46
  rw [Int.toNat_natCast, Int.toNat_natCast] at k37
  have hg := parG hok
  have hld : ∀ c ∈ ahdG f bn, PCall prog 37 [.agg (encFlow f), I an, I c] (.tup [B (domR (behG f) (ahdG f) f.blocks.length an c.toNat), I 0]) := fun c hc => by
   have := (hg.fro bn c).1 hc
   have h := k37g c
   rw [if_pos ⟨a1, a2, this.1, by omega⟩, Int.toNat_natCast] at h
   exact h
  have hfx : (frontG f)[an]? = some ((frontG f).getD an []) := by
   have := List.getElem?_eq_getElem (show an < (frontG f).length by omega)
   rw [List.getD_eq_getElem?_getD, this]; rfl
  have k30 := k30z (l := (frontG f).getD an []) (v := (bn : Int))
  have hll := ahdG_le hok bn
  have hsn := someR_snoc f an
  have hs0 : someR f an [] = false := rfl
  clear k37g
  generalize domR (behG f) (ahdG f) f.blocks.length an bn = ov at k37 hlaw
  generalize hasL ((frontG f).getD an []) bn = has at k30 hlaw
  generalize (frontG f).getD an [] = fd at hfx k30
  generalize frontG f = fl at hfx k39 hfl
  generalize ahdG f bn = l at k46 hld hlaw hll
  refine J28 ?_;refine J0 ?_;refine cl k46 ?_;refine J26 ?_;refine J67 ?_;refine J30 ?_;refine J41 ?_;refine J3 ?_;refine er ?_;refine J28 ?_;refine J0 ?_;refine J0 ?_;refine cl k37 ?_;refine J26 ?_;refine J45 ?_;refine J30 ?_;refine J1 ?_;refine J3 ?_
  refine ao_end (w_assoc (w_seq_region ?_))
  refine J0 ?_;refine J34 ?_;refine J2 ?_;refine J10 ?_;refine J39 ?_;refine J16 ?_;refine J2 ?_;refine J10 ?_;refine J39 ?_;refine J16 ?_
  refine ao_end (w_seq_if rfl (fun h => (by cases h)) fun _ => w_seq_skip (w_seq_region ?_))
  refine J1 ?_
  refine ao_end (w_assoc (w_seq_region_g ?_))
  refine J3 ?_
  refine ao_end (w_then (fun s => Ghost prog s ⟨envL [(1, I an), (2, I bn), (7, .sl (fl.map zL) fl.length), (11, B ov), (13, B (someR f an l))], fun _ => none, 1⟩) (w_for (α := Nat)
   (fun j => ⟨envL [(1, I an), (2, I bn), (3, .pt (encFlow f)), (7, .sl (fl.map zL) fl.length), (9, encInts l), (11, B ov), (13, B (someR f an (l.take j))), (14, I j)], fun _ => none, 1⟩)
   (fun j => j <= l.length) (fun j => l.length - j) 0 (ghost_of eH) (Nat.zero_le _) ?_) ?_)
  ·intro j hj
   refine J0 ?_;refine J15 ?_;refine J13 ?_;refine J17 ?_
   refine ao_end ⟨_, rfl, fun h => ?_, fun h => ?_⟩
   ·have hjl : j < l.length := by simpa using h
    have hcx : l[j]? = some l[j] := List.getElem?_eq_getElem hjl
    have k37 := hld _ (List.getElem_mem hjl)
    have hst : someR f an (l.take (j + 1)) = (if someR f an (l.take j) = true then true else domR (behG f) (ahdG f) f.blocks.length an l[j].toNat) := by
     rw [List.take_add_one, hcx]
     exact hsn (l.take j) l[j]
    generalize l[j] = c at hcx k37 hst
    generalize domR (behG f) (ahdG f) f.blocks.length an c.toNat = d at k37 hst
    generalize someR f an (l.take j) = so at hst
    refine w_seq_draw di_r11_12 ?_
    refine J28 ?_;refine J0 ?_;refine J15 ?_;refine J0 ?_;refine J18 ?_;refine J4 ?_;refine cl k37 ?_;refine J26 ?_;refine J45 ?_;refine J30 ?_;refine J1 ?_;refine J3 ?_
    refine ao_endc (by simp [apartT]) (w_assoc (w_seq_region ?_))
    refine J0 ?_;refine J34 ?_
    refine ao_end (w_seq_if rfl (fun h => (by cases h)) fun _ => w_seq_skip (w_regB2 ?_))
    refine J2 ?_;refine J2 ?_;refine J27 ?_;refine J9 ?_;refine J1 ?_
    refine ao_end ?_
    refine J0 ?_;refine J11 ?_;refine J3 ?_
    refine ao_end (next_of (j + 1) (ghost_of ⟨rfl, rfl, rfl, rfl, rfl, rfl, ?_, rfl, trivial⟩) oG oG)
    rw [hst]; rfl
   ·have hge : ¬ j < l.length := by simpa using h
    have : j = l.length := by omega
    subst this
    refine ghost_of ⟨rfl, rfl, rfl, rfl, ?_, trivial⟩
    rw [List.take_length]; rfl
  ·rintro s hg
   refine ⟨_, hg, w_seq_region ?_⟩
   clear hld hsn hs0
   generalize someR f an l = so at hlaw
   generalize hab : ((an : Int) == bn) = ab at hlaw
   have keql := hab
   have hE : (has == (if so = true then (if ab = true then true else !ov) else false)) = true := by rw [hlaw]; simp
   clear hlaw
   refine cl k17 ?_;refine J2 ?_;refine J47 ?_;refine J10 ?_;refine J53 ?_;refine J6 ?_;refine J10 ?_;refine gc k30 ?_;refine J27 ?_;refine J27 ?_;refine J10 ?_;refine J10 ?_;refine J138 ?_;refine J27 ?_;refine J27 ?_;refine J33 ?_;refine J64 ?_;refine J64 ?_
   refine ao_g rfl rfl (e_beql rfl rfl) (fun hc => ⟨ak, V.h⟩) ?_
   refine J21 ?_;refine J1 ?_
   refine ao_end (q_ret1 rfl ?_)
   exact congrArg B hE
 ·have k37 := k37g b
  rw [if_neg hin] at k37
  clear k37g
  have hk : ∃ (d : D) (e : Int), PCall prog 46 [.agg (encFlow f), I b] (.tup [d, I e]) /\ (d = .z \/ ∃ l, d = encInts l) := by
   split at k46
   ·exact ⟨_, 0, k46, .inr ⟨_, rfl⟩⟩
   ·exact ⟨_, 1, k46, .inl rfl⟩
  clear k46
  obtain ⟨d, e, k46, hd⟩ := hk
  rcases hd with rfl | ⟨l, rfl⟩
  ·refine J28 ?_;refine J0 ?_;refine cl k46 ?_;refine J26 ?_;refine J85 ?_;refine J30 ?_;refine J19 ?_;refine J3 ?_;refine er ?_;refine J28 ?_;refine J0 ?_;refine J0 ?_;refine cl k37 ?_;refine J26 ?_;refine J45 ?_;refine J30 ?_;refine J1 ?_;refine J3 ?_
   refine ao_end (w_assoc (w_seq_region ?_))
   refine J0 ?_;refine J34 ?_;refine J2 ?_;refine J10 ?_;refine J39 ?_;refine J16 ?_;refine J2 ?_;refine J10 ?_;refine J39 ?_;refine J9 ?_
   refine ao_end (w_seq_if rfl (fun h => ?_) fun h => absurd h (by simp))
   refine w_assoc (w_seq_region ?_)
   refine cl k17 ?_;refine J1 ?_
   exact ao_end (w_seq_ret (q_ret1 rfl rfl))
  ·refine J28 ?_;refine J0 ?_;refine cl k46 ?_;refine J26 ?_;refine J67 ?_;refine J30 ?_;refine J41 ?_;refine J3 ?_;refine er ?_;refine J28 ?_;refine J0 ?_;refine J0 ?_;refine cl k37 ?_;refine J26 ?_;refine J45 ?_;refine J30 ?_;refine J1 ?_;refine J3 ?_
   refine ao_end (w_assoc (w_seq_region ?_))
   refine J0 ?_;refine J34 ?_;refine J2 ?_;refine J10 ?_;refine J39 ?_;refine J16 ?_;refine J2 ?_;refine J10 ?_;refine J39 ?_;refine J9 ?_
   refine ao_end (w_seq_if rfl (fun h => ?_) fun h => absurd h (by simp))
   refine w_assoc (w_seq_region ?_)
   refine cl k17 ?_;refine J1 ?_
   exact ao_end (w_seq_ret (q_ret1 rfl rfl))
theorem k11 {f : Flow} {a b : Int} (k17 : PCall prog 17 [] (B true)) : PCall prog 11 [.agg (encFlow f), I a, I b] (B true) := by
 by_cases h : checkR f = 0
 ·exact k11_ok k17 h
 ·exact k11_err k17 h
end Go.Proofs.Tryz.K
end
section
open Go Go.Abs Go.Proofs Go.Argus
namespace Go.Proofs.Tryz.K
set_option maxRecDepth 100000
def frontS : D := .sl [.z, .sl [I 1] 1, .sl [I 1] 1, .z, .sl [I 1] 1] 5
theorem front_sum : frontD sumF = .tup [frontS, I 0] := by kernel_rfl
theorem sum39g : PCall prog 39 [.agg (encFlow sumF)] (.tup [frontS, I 0]) := front_sum ▸ k39_ok sum_check (by decide)
noncomputable def cx3 : Ctx := ⟨fun f => tabT.get f, iterT [(61, [.pt sumG], sumAll)], knownT [(51, [.agg (encFlow sumF)], .tup [.pt sumG, I 0]), (65, [.pt sumG], .tup [sumIn, sumOut]), (39, [.agg (encFlow sumF)], .tup [frontS, I 0])]⟩
theorem cx3_ok : cx3.Ok prog := ⟨mixed, tab_ok, fun _ _ _ _ h => iterT_ok (fun x hx => by
  simp only [List.mem_singleton] at hx
  subst hx
  refine ⟨sum61, fun y hy d hd => ?_⟩
  simp only [sumAll, List.mem_cons, List.not_mem_nil, or_false] at hy
  rcases hy with rfl | rfl | rfl | rfl | rfl <;> (simp only [List.mem_singleton] at hd; subst hd; exact .s _)) h,
 fun _ _ _ h => knownT_ok (fun x hx => by
  simp only [List.mem_cons, List.not_mem_nil, or_false] at hx
  rcases hx with rfl | rfl | rfl
  ·exact sum51
  ·exact sum65
  ·exact sum39g) h⟩
theorem k17g : PCall prog 17 [] (B true) := pcall_ev cx3_ok 1000 rfl (by kernel_rfl)
theorem domFronts {f : Flow} {a b : Int} : PCall prog 11 [.agg (encFlow f), I a, I b] (B true) := k11 k17g
end Go.Proofs.Tryz.K
end
section
namespace Go.Proofs.YtonoegleildfnaaGreat
open Go.Abs Go.Argus
theorem ownK : ownKnob Tryz.prog.godebug = none := by kernel_rfl
theorem laidOut : laidOutB Tryz.prog = true := by kernel_rfl
theorem boolT : Tryz.prog.underlying 4 = some .bool := by kernel_rfl
theorem frontsRead : (Tryz.f11.params.toList.all fun t => Tryz.prog.readableRec t && decide (t < Tryz.prog.types.size)) = true := by kernel_rfl
theorem frontsRes : Tryz.f11.resultTypes = #[4] := by kernel_rfl
theorem frontsSh : shTs Tryz.prog 8 Tryz.f11.params.toList = some [flowSh, i64Sh, i64Sh] := by kernel_rfl
theorem frontsSize : Tryz.f11.params.size = 3 := by kernel_rfl
theorem frontsArgs (ds : List D) (h : ArgsOf [flowSh, i64Sh, i64Sh] ds) : PCall Tryz.prog 11 ds (.s (.bool true)) := by
 cases h with
 | cons x h => cases h with
  | cons b h => cases h with
   | cons r h => cases h with
    | nil =>
     rw [enc_flow]
     exact Tryz.K.domFronts
set_option maxRecDepth 100000 in
theorem frontsLifted (os : Os) (started : os.Started) (H : Type) (enc : TypeId × Value -> H) :
  ReturnsInHanded {} Tryz.checked os 11 .any (Rows.domFrontsSpec.pre6 enc Tryz.prog Tryz.f11 Rows.domFrontsRow.domain false) (Rows.domFrontsSpec.post enc Tryz.prog Tryz.f11 false true false false) := by
 refine returnsInHanded_of_change (C := Tryz.checked) ownK started (by kernel_rfl) Tryz.func11
  (ChangeSpec.witness6 (enc := enc) (C := Tryz.checked) false ⟨#[], #[.agg #[.string ⟨#[]⟩, .bool false, .int .i64 0, .int .u8 0, .slice none 0 0, .slice none 0 0, .slice none 0 0, .slice none 0 0], .int .i64 0, .int .i64 0], []⟩ 8 (by kernel_rfl) (by kernel_rfl) (by kernel_rfl) (by kernel_rfl)) ?_
 intro W base args ds gs before hval hW _ _
 refine law_contract (C := Tryz.checked) rfl (fun ds h => ?_) laidOut frontsRead frontsRes boolT frontsSh frontsArgs W base args ds gs before hval hW
 rw [frontsSize] at h
 match ds, h with
 | [d1, d2, d3], _ => rfl
theorem domFronts_holds : Rows.DomFrontsSaid :=
 OpenClaim.holds_of_wide 11 Tryz.f11 rfl rfl rfl rfl rfl rfl rfl ⟨rfl, rfl, rfl, rfl, rfl⟩ rfl rfl rfl rfl rfl (by kernel_rfl) Tryz.func11 (by kernel_rfl)
  (of_decide_eq_true (by kernel_rfl)) (by unfold Func.isWrapper; rw [if_neg (of_decide_eq_false (by kernel_rfl))]; exact ⟨rfl, rfl⟩)
  (fun os started H enc _ => frontsLifted os started H enc)
#print axioms domFronts_holds
end Go.Proofs.YtonoegleildfnaaGreat
end
