/- DomCuts: for every flow and two blocks the law answers true, and its arguments read as before. No condition. -/
import Derived.Test.YtonoegleildfnaaGreatCuts5
import Derived.Test.YtonoegleildfnaaGreatRows
section
open Go Go.Abs Go.Proofs Go.Argus
namespace Go.Proofs.Tryz.K
set_option maxRecDepth 10000
theorem k12_err {f : Flow} {a b : Int} (k17 : PCall prog 17 [] (B true)) (hck : checkR f ≠ 0) : PCall prog 12 [.agg (encFlow f), I a, I b] (B true) := by
 have k15 := k15 (f := f)
 have htr : ∀ x ∈ [D.agg (encFlow f), I a, I b], Tr x := .cons (.agg (trs_flow f)) (.cons (.s _) (.cons (.s _) .nil))
 refine pcall_of mixed ok12 (by rw [nt12]; rfl) htr (Tr.s _) ?_
 have k47 := k47 (f := f)
 have k37 := k37 (f := f) (a := a) (b := b)
 rw [plainD, if_neg hck] at k47
 rw [domD, if_neg hck] at k37
 generalize checkR f = e at *
 have kneq : (e != 0) = true := by simpa using hck
 rw [rs12, sk12]
 refine w_seq_region_g ?_
 refine J43 ?_;refine J1 ?_
 refine ao_end (w_ghost (ghost_fr [(0, encFlow f, 26)] eH (l := [(1, I a), (2, I b), (3, .pt (encFlow f))]) eH) (w_assoc (w_seq_region ?_)))
 refine J29 ?_;refine cl k15 ?_;refine J32 ?_
 refine ao_end (w_seq_if rfl (fun h => ?_) fun h => w_seq_skip (w_seq_region ?_))
 ·refine w_assoc (w_seq_region ?_)
  refine cl k17 ?_;refine J1 ?_
  exact ao_end (w_seq_ret (q_ret1 rfl rfl))
 refine J29 ?_;refine cl k47 ?_;refine J28 ?_;refine J39 ?_;refine J34 ?_;refine J1 ?_;refine J3 ?_;refine er ?_;refine J29 ?_;refine J0 ?_;refine J0 ?_;refine cl k37 ?_;refine J28 ?_;refine J39 ?_;refine J34 ?_;refine J1 ?_;refine J3 ?_
 refine ao_end (w_assoc (w_seq_region ?_))
 refine J0 ?_;refine J65 ?_;refine J2 ?_;refine z fun _ _ => ?_;refine z fun _ _ => ?_;refine J19 ?_;refine J2 ?_;refine z fun _ _ => ?_;refine z fun _ _ => ?_;refine J19 ?_;refine J2 ?_;refine z fun _ _ => ?_;refine z fun _ _ => ?_;refine z fun _ _ => ?_;refine J19 ?_
 refine ao_end (w_seq_if rfl (fun h => ?_) fun h => (by cases h))
 refine w_assoc (w_seq_region ?_)
 refine cl k17 ?_;refine J1 ?_
 exact ao_end (w_seq_ret (q_ret1 rfl rfl))
set_option maxHeartbeats 1000000 in
theorem k12_ok {f : Flow} {a b : Int} (k17 : PCall prog 17 [] (B true)) (hck : checkR f = 0) : PCall prog 12 [.agg (encFlow f), I a, I b] (B true) := by
 have k15 := k15 (f := f)
 have htr : ∀ x ∈ [D.agg (encFlow f), I a, I b], Tr x := .cons (.agg (trs_flow f)) (.cons (.s _) (.cons (.s _) .nil))
 refine pcall_of mixed ok12 (by rw [nt12]; rfl) htr (Tr.s _) ?_
 have hf : formedB f = true := by
  unfold checkR at hck
  split at hck
  ·assumption
  ·cases hck
 have hok := flowOk hf
 have hlim := hok.lim
 rw [rs12, sk12]
 refine w_seq_region_g ?_
 refine J43 ?_;refine J1 ?_
 refine ao_end (w_ghost (ghost_fr [(0, encFlow f, 26)] eH (l := [(1, I a), (2, I b), (3, .pt (encFlow f))]) eH) (w_assoc (w_seq_region ?_)))
 refine J29 ?_;refine cl k15 ?_;refine J32 ?_
 refine ao_end (w_seq_if rfl (fun h => ?_) fun h => w_seq_skip (w_seq_region ?_))
 ·refine w_assoc (w_seq_region ?_)
  refine cl k17 ?_;refine J1 ?_
  exact ao_end (w_seq_ret (q_ret1 rfl rfl))
 clear h k15
 have k47 := k47 (f := f)
 have k37 := k37 (f := f) (a := a) (b := b)
 have k31f := k31 (f := f)
 rw [plainD, if_pos hck] at k47
 rw [domD, if_pos hck] at k37
 rw [reachD, if_pos hck] at k31f
 by_cases hin : 0 <= a /\ a < f.blocks.length /\ 0 <= b /\ b < f.blocks.length
 ·rw [if_pos hin] at k37
  obtain ⟨a1, a2, b1, b2⟩ := hin
  obtain ⟨an, rfl⟩ := Int.eq_ofNat_of_zero_le a1
  obtain ⟨bn, rfl⟩ := Int.eq_ofNat_of_zero_le b1
  have a3 : an < f.blocks.length := by omega
  have b3 : bn < f.blocks.length := by omega
  rw [Int.toNat_natCast, Int.toNat_natCast] at k37
  cases hp : plainR f with
  | false =>
   rw [hp] at k47
   generalize domR (behG f) (ahdG f) f.blocks.length an bn = d at k37
   refine J29 ?_;refine cl k47 ?_;refine J28 ?_;refine J39 ?_;refine J34 ?_;refine J1 ?_;refine J3 ?_;refine er ?_;refine J29 ?_;refine J0 ?_;refine J0 ?_;refine cl k37 ?_;refine J28 ?_;refine J39 ?_;refine J34 ?_;refine J1 ?_;refine J3 ?_
   refine ao_end (w_assoc (w_seq_region ?_))
   refine J0 ?_;refine J35 ?_;refine J2 ?_;refine J10 ?_;refine J46 ?_;refine J13 ?_;refine J2 ?_;refine J27 ?_;refine J33 ?_;refine J13 ?_;refine J2 ?_;refine z fun _ _ => ?_;refine z fun _ _ => ?_;refine z fun _ _ => ?_;refine J19 ?_
   refine ao_end (w_seq_if rfl (fun h => ?_) fun h => (by cases h))
   refine w_assoc (w_seq_region ?_)
   refine cl k17 ?_;refine J1 ?_
   exact ao_end (w_seq_ret (q_ret1 rfl rfl))
  | true =>
   rw [hp] at k47
   by_cases hab : an = bn
   ·have keql : ((an : Int) == (bn : Int)) = true := by simp [hab]
    generalize domR (behG f) (ahdG f) f.blocks.length an bn = d at k37
    refine J29 ?_;refine cl k47 ?_;refine J28 ?_;refine J39 ?_;refine J34 ?_;refine J1 ?_;refine J3 ?_;refine er ?_;refine J29 ?_;refine J0 ?_;refine J0 ?_;refine cl k37 ?_;refine J28 ?_;refine J39 ?_;refine J34 ?_;refine J1 ?_;refine J3 ?_
    refine ao_end (w_assoc (w_seq_region ?_))
    refine J0 ?_;refine J35 ?_;refine J2 ?_;refine J10 ?_;refine J46 ?_;refine J13 ?_;refine J2 ?_;refine J27 ?_;refine J33 ?_;refine J13 ?_;refine J2 ?_;refine J10 ?_;refine J10 ?_;refine J112 ?_;refine J13 ?_
    refine ao_end (w_seq_if rfl (fun h => ?_) fun h => (by cases h))
    refine w_assoc (w_seq_region ?_)
    refine cl k17 ?_;refine J1 ?_
    exact ao_end (w_seq_ret (q_ret1 rfl rfl))
   ·have keql : ((an : Int) == (bn : Int)) = false := by simp; omega
    have hlaw := cuts_law hck hp a3 hab
    have k31c := k31_cut hck hp a3
    have hRl := reach_len (w := -1) (beh_in hok) hok.pos
    have hCl := reach_len (w := -1) (beh_in (flowOk (cut_formed hf hp a3))) (by rw [cut_len]; exact hok.pos)
    rw [cut_len] at hCl
    generalize hR : reachR (behG f) f.blocks.length (-1) = R at hlaw k31f
    generalize hC : reachR (behG (cutF f an)) f.blocks.length (-1) = C at hlaw k31c
    have hRl : R.length = f.blocks.length := hR ▸ hRl
    have hCl : C.length = f.blocks.length := hC ▸ hCl
    have kra : R[an]? = some (R.getD an false) := by
     have h := List.getElem?_eq_getElem (show an < R.length by omega)
     rw [getD_some h]; exact h
    have krb : R[bn]? = some (R.getD bn false) := by
     have h := List.getElem?_eq_getElem (show bn < R.length by omega)
     rw [getD_some h]; exact h
    have kcb : C[bn]? = some (C.getD bn false) := by
     have h := List.getElem?_eq_getElem (show bn < C.length by omega)
     rw [getD_some h]; exact h
    clear hR hC
    generalize domR (behG f) (ahdG f) f.blocks.length an bn = d at k37 hlaw
    generalize R.getD an false = ra at hlaw kra
    generalize R.getD bn false = rb at hlaw krb
    generalize C.getD bn false = cb at hlaw kcb
    refine J29 ?_;refine cl k47 ?_;refine J28 ?_;refine J39 ?_;refine J34 ?_;refine J1 ?_;refine J3 ?_;refine er ?_;refine J29 ?_;refine J0 ?_;refine J0 ?_;refine cl k37 ?_;refine J28 ?_;refine J39 ?_;refine J34 ?_;refine J1 ?_;refine J3 ?_
    refine ao_end (w_assoc (w_seq_region ?_))
    refine J0 ?_;refine J35 ?_;refine J2 ?_;refine J10 ?_;refine J46 ?_;refine J13 ?_;refine J2 ?_;refine J27 ?_;refine J33 ?_;refine J13 ?_;refine J2 ?_;refine J10 ?_;refine J10 ?_;refine J112 ?_;refine J13 ?_
    refine ao_end (w_seq_if rfl (fun h => (by cases h)) fun _ => w_seq_skip_g (w_ghost (ghost_of (l := [(1, I an), (2, I bn), (3, .pt (encFlow f)), (9, B d)]) eH) (w_seq_region ?_)))
    have k31 := k31f
    refine J29 ?_;refine cl k31 ?_;refine J28 ?_;refine J70 ?_;refine J34 ?_;refine J44 ?_;refine J3 ?_;refine er ?_;refine J29 ?_;refine J24 ?_
    refine ao_w (e_storeA (cs' := encFlow _) rfl rfl rfl rfl) ak (p_store V.h V.h (by first | (simp; done) | exact ⟨rfl, Nat.le_of_ble_eq_true rfl⟩ | (simp; omega)) (by rfl)) ?_
    refine ao_end (w_seq_region_g ?_)
    have hlb := len_blks f.blocks
    have kapp : (f.blocks.flatMap encBlock).take (f.blocks.length * 16) = f.blocks.flatMap encBlock := List.take_of_length_le (by rw [hlb]; exact Nat.le_refl _)
    refine ao_a (e_buildSl V.h V.h V.h rfl rfl) ak ⟨rfl, by decide, V.h, by decide⟩ ?_
    refine J5 ?_;refine J4 ?_
    refine ao_m (e_appR rfl rfl rfl V.h V.h (cells_sl kapp) rfl) ak ⟨V.h, rfl, (by first | omega | exact Nat.le_of_ble_eq_true rfl | (simp; done) | (simp; omega)), (by decide), (by first | rfl | (simp; done) | (simp; omega)), (by unfold maxLen; first | omega | (simp; omega)), (by rw [b72]; first | omega | (simp; omega)), (by first | (simp; done) | (simp; omega))⟩ ?_
    refine J14 ?_;refine J133 ?_
    refine ao_end (w_ghost (ghost_st (l := [(1, I an), (2, I bn), (9, B d), (11, .sl (R.map B) R.length), (12, I 0), (13, .rp 1 0)]) (ml := [(1, .cells (cutRow f (.rs 3 0 f.blocks.length)) 26), (3, .cells (f.blocks.flatMap encBlock) 72)]) eH ⟨?_, rfl, trivial⟩) (w_seq_region_g ?_))
    ·exact congrArg (fun k => some (Row.cells (cutRow f (.rs 3 0 k)) 26)) (Nat.zero_add _)
    refine J14 ?_;refine J26 ?_;refine J0 ?_
    refine ao_p (e_build2 (cs := cutC) u69 pl69 z69 rfl rfl) (by repeat' (first | exact trivial | exact rfl | refine And.intro ?_ ?_)) ⟨t69, ub69⟩ ?_
    refine ao_p (e_idxR rfl rfl rfl e24 c72) (by repeat' (first | exact trivial | exact rfl | refine And.intro ?_ ?_)) ⟨sl24, by omega, by omega⟩ ?_
    refine ao_p (e_faddrR rfl rfl f72_1) (by repeat' (first | exact trivial | exact rfl | refine And.intro ?_ ?_)) (p_pos c69) ?_
    refine ao_w (e_storeA (cs' := cutCs f an) rfl rfl rfl (congrArg (fun k => splice (f.blocks.flatMap encBlock) (k + 1) cutC) (Nat.zero_add _))) (by repeat' (first | exact trivial | exact rfl | refine And.intro ?_ ?_)) (p_store t69 c69 ⟨rfl, by rw [hlb]; simp only [Int.toNat_natCast]; omega⟩ rfl) ?_
    refine ao_end (w_ghost (ghost_fr [(3, cutCs f an, 72), (1, cutD f an, 26)] ⟨rfl, ?_, trivial⟩ (l := [(1, I an), (2, I bn), (9, B d), (11, .sl (R.map B) R.length), (12, I 0), (13, .pt (cutD f an))]) eH) (w_seq_region ?_))
    ·have hlc : (cutCs f an).length = f.blocks.length * 16 := len_cut a3
     have h := sub_rs_eq (i := 3) (sz := 16) hlc
     rw [<- c72] at h
     exact congrArg (fun x => some (Row.cells (cutRow f x) 26)) h
    have k31 := k31c
    refine ao_p (e_loadA (vs := cutD f an) rfl a26 c26 rfl) (by repeat' (first | exact trivial | exact rfl | refine And.intro ?_ ?_)) (p_loadA t26 c26 (Nat.le_refl 8)) ?_
    refine cl k31 ?_;refine J28 ?_;refine J70 ?_;refine J34 ?_;refine J44 ?_;refine J3 ?_
    refine ao_end (w_assoc (w_seq_region ?_))
    refine J0 ?_;refine J35 ?_;refine J2 ?_;refine J10 ?_;refine J46 ?_;refine J13 ?_
    refine ao_end (w_seq_if rfl (fun h => (by cases h)) fun _ => w_seq_skip (w_seq_region ?_))
    refine cl k17 ?_;refine J2 ?_;refine J27 ?_;refine J47 ?_;refine J10 ?_;refine J55 ?_;refine J6 ?_;refine J27 ?_;refine J47 ?_;refine J10 ?_;refine J55 ?_;refine J6 ?_;refine J63 ?_;refine J27 ?_;refine J47 ?_;refine J10 ?_;refine J55 ?_;refine J6 ?_;refine J33 ?_;refine J63 ?_
    refine ao_g rfl rfl (e_beql rfl rfl) (fun hc => ⟨ak, V.h⟩) ?_
    refine J19 ?_;refine J1 ?_
    refine ao_end (q_ret1 rfl ?_)
    subst hlaw
    cases ra <;> cases rb <;> cases cb <;> rfl
 ·rw [if_neg hin] at k37
  cases plainR f <;>
  ·refine J29 ?_;refine cl k47 ?_;refine J28 ?_;refine J39 ?_;refine J34 ?_;refine J1 ?_;refine J3 ?_;refine er ?_;refine J29 ?_;refine J0 ?_;refine J0 ?_;refine cl k37 ?_;refine J28 ?_;refine J39 ?_;refine J34 ?_;refine J1 ?_;refine J3 ?_
   refine ao_end (w_assoc (w_seq_region ?_))
   refine J0 ?_;refine J35 ?_;refine J2 ?_;refine J10 ?_;refine J46 ?_;refine J13 ?_;refine J2 ?_;refine z fun _ _ => ?_;refine z fun _ _ => ?_;refine J19 ?_;refine J2 ?_;refine z fun _ _ => ?_;refine z fun _ _ => ?_;refine z fun _ _ => ?_;refine J19 ?_
   refine ao_end (w_seq_if rfl (fun h => ?_) fun h => (by cases h))
   refine w_assoc (w_seq_region ?_)
   refine cl k17 ?_;refine J1 ?_
   exact ao_end (w_seq_ret (q_ret1 rfl rfl))
theorem k12 {f : Flow} {a b : Int} (k17 : PCall prog 17 [] (B true)) : PCall prog 12 [.agg (encFlow f), I a, I b] (B true) := by
 by_cases h : checkR f = 0
 ·exact k12_ok k17 h
 ·exact k12_err k17 h
end Go.Proofs.Tryz.K
end
section
open Go Go.Abs Go.Proofs Go.Argus
namespace Go.Proofs.Tryz.K
theorem domCuts {f : Flow} {a b : Int} : PCall prog 12 [.agg (encFlow f), I a, I b] (B true) := k12 k17
end Go.Proofs.Tryz.K
end
section
namespace Go.Proofs.YtonoegleildfnaaGreat
open Go.Abs Go.Argus
theorem ownK : ownKnob Tryz.prog.godebug = none := by kernel_rfl
theorem laidOut : laidOutB Tryz.prog = true := by kernel_rfl
theorem boolT : Tryz.prog.underlying 4 = some .bool := by kernel_rfl
theorem cutsRead : (Tryz.f12.params.toList.all fun t => Tryz.prog.readableRec t && decide (t < Tryz.prog.types.size)) = true := by kernel_rfl
theorem cutsRes : Tryz.f12.resultTypes = #[4] := by kernel_rfl
theorem cutsSh : shTs Tryz.prog 8 Tryz.f12.params.toList = some [flowSh, i64Sh, i64Sh] := by kernel_rfl
theorem cutsSize : Tryz.f12.params.size = 3 := by kernel_rfl
theorem cutsArgs (ds : List D) (h : ArgsOf [flowSh, i64Sh, i64Sh] ds) : PCall Tryz.prog 12 ds (.s (.bool true)) := by
 cases h with
 | cons x _ h => cases h with
  | cons b _ h => cases h with
   | cons r _ h => cases h with
    | nil =>
     rw [enc_flow]
     exact Tryz.K.domCuts
set_option maxRecDepth 100000 in
theorem cutsLifted (os : Os) (started : os.Started) (H : Type) (enc : TypeId × Value -> H) :
  ReturnsInHanded {} Tryz.checked os 12 .any (Rows.domCutsSpec.pre6 enc Tryz.prog Tryz.f12 Rows.domCutsRow.domain false) (Rows.domCutsSpec.post enc Tryz.prog Tryz.f12 false true false false) := by
 refine returnsInHanded_of_change (C := Tryz.checked) ownK started (by kernel_rfl) Tryz.func12
  (ChangeSpec.witness6 (enc := enc) (C := Tryz.checked) false ⟨#[], #[.agg #[.string ⟨#[]⟩, .bool false, .int .i64 0, .int .u8 0, .slice none 0 0, .slice none 0 0, .slice none 0 0, .slice none 0 0], .int .i64 0, .int .i64 0], []⟩ 8 (by kernel_rfl) (by kernel_rfl) (by kernel_rfl) (by kernel_rfl)) ?_
 intro W base args ds gs before hval hW _ _
 refine law_contract (C := Tryz.checked) rfl (fun ds h => ?_) laidOut cutsRead cutsRes boolT cutsSh cutsArgs W base args ds gs before hval hW
 rw [cutsSize] at h
 match ds, h with
 | [d1, d2, d3], _ => rfl
theorem domCuts_holds : Rows.DomCutsSaid :=
 OpenClaim.holds_of_wide 12 Tryz.f12 rfl rfl rfl rfl rfl rfl rfl ⟨rfl, rfl, rfl, rfl, rfl⟩ rfl rfl rfl rfl rfl (by kernel_rfl) Tryz.func12 (by kernel_rfl)
  (of_decide_eq_true (by kernel_rfl)) (by unfold Func.isWrapper; rw [if_neg (of_decide_eq_false (by kernel_rfl))]; exact ⟨rfl, rfl⟩)
  (fun os started H enc _ => cutsLifted os started H enc)
#print axioms domCuts_holds
end Go.Proofs.YtonoegleildfnaaGreat
end
