/- Part 4 of the proof; the last part says what is proved. -/
import Derived.Test.YtonoegleildfnaaGreatCuts3
section
open Go Go.Abs Go.Proofs Go.Argus
namespace Go.Proofs.Tryz.K
set_option maxRecDepth 10000
def J195 (f : Flow) (x : Argus.End) (s : St) : Prop := ∃ cells n, Ghost prog s ⟨envL [(2, .pt (encCode P0 Q0 f)), (3, .pt (encEnd x)), (5, .rp 2 0), (6, B (endOk f x).1)], up (fun _ => none) 2 (some (.cells cells 69)), n⟩ /\ cells.length = 15 /\ ∀ m, Sns prog [2] m cells (encEnd (endOk f x).2)
theorem vR {l : List Int} {r : Int} : valuesR l [r] = valueR l r := by simp [valuesR]
theorem j195 {f : Flow} {x r : Argus.End} {env : Env} {m : Mem} {nx : Nat} {cells : List D} {ok : Bool} (hr : endOk f x = (ok, r)) (he : EnvHas [(2, .pt (encCode P0 Q0 f)), (3, .pt (encEnd x)), (5, .rp 2 0), (6, B ok)] env) (hm : m 2 = some (.cells cells 69)) (hl : cells.length = 15)
  (hs : ∀ m, Sns prog [2] m cells (encEnd r)) : J195 f x ⟨env, m, nx⟩ := by
 refine ⟨cells, nx, ?_, hl, ?_⟩
 ·rw [hr]; exact ghost_to he (mem_keep hm)
 ·rw [hr]; exact hs
set_option maxHeartbeats 4000000 in
theorem k195 {f : Flow} {x : Argus.End} : PCall prog 195 [codeD f, .agg (encEnd x)] (B (endedB f x)) := by
 have htr : ∀ a ∈ [codeD f, .agg (encEnd x)], Tr a := .cons (tr_code tr_P0 tr_Q0 f) (.cons (.agg (trs_end x)) .nil)
 have k233 := @k233 P0 Q0 f tr_P0 tr_Q0 rfl rfl
 have k234 := @k234 P0 Q0 f tr_P0 tr_Q0 rfl rfl
 have k237 := @k237 P0 Q0 f tr_P0 tr_Q0 rfl rfl
 have k235 := @k235 P0 Q0 f tr_P0 tr_Q0 rfl rfl
 have k236 := @k236 P0 Q0 f tr_P0 tr_Q0 rfl rfl
 refine pcall_of mixed ok195 (by rw [nt195]; rfl) htr (Tr.s _) ?_
 rw [rs195, sk195]
 refine w_seq_region_g ?_
 refine J60 ?_;refine J68 ?_;refine J1 ?_
 refine ao_end (w_ghost (ghost_fr [(0, encCode P0 Q0 f, 133), (1, encEnd x, 69)] eH (l := [(2, .pt (encCode P0 Q0 f)), (3, .pt (encEnd x))]) eH) (w_seq_region ?_))
 refine J72 ?_;refine J24 ?_
 refine ao_w (e_storeA (cs' := encEnd _) rfl rfl rfl rfl) ak (p_store V.h V.h (by first | (simp; done) | exact ⟨rfl, Nat.le_of_ble_eq_true rfl⟩ | (simp; omega)) (by rfl)) ?_
 refine J1 ?_;refine er ?_;refine J14 ?_;refine J25 ?_
 refine ao_end ?_
 refine w_cut_g (J195 f x) (w_seq_region ?_) fun s hs => ?_
 ·refine J5 ?_;refine J4 ?_
  refine ao_end (w_block (w_seq_region ?_))
  refine J8 ?_;refine J1 ?_
  refine ao_end (w_if rfl (fun h => ?_) fun h => ?_)
  ·have h : x.kind = 1 := by simpa using h
   refine w_regBJ ?_
   refine J48 ?_;refine J5 ?_;refine J4 ?_;refine cl k233 ?_;refine J1 ?_;refine J14 ?_;refine J25 ?_
   refine ao_end ?_
   exact j195 (r := { x with kind := 0, to := 0 }) (by simp [endOk, h, eqb, ib, Bool.and_assoc, blockR]) ⟨rfl, rfl, rfl, rfl, trivial⟩ rfl rfl (fun m => by repeat' (first | exact trivial | exact sn_tr (Tr.s _) | exact sn_tr (tr_ints _) | exact sn_tr (tr_whens _) | exact sn_z | refine And.intro ?_ ?_))
  have h1 : ¬ x.kind = 1 := by simpa using h
  clear h
  refine ws ?_;refine J8 ?_;refine J1 ?_
  refine ao_end (w_if rfl (fun h => ?_) fun h => ?_)
  ·have h : x.kind = 2 := by simpa using h
   refine w_regBJ ?_
   refine J48 ?_;refine J5 ?_;refine J4 ?_;refine cl k234 ?_;refine J8 ?_;refine J2 ?_;refine J22 ?_;refine J7 ?_;refine J6 ?_;refine gc k233 ?_;refine J9 ?_;refine J2 ?_;refine J22 ?_;refine J7 ?_;refine J6 ?_;refine gc k233 ?_;refine J9 ?_;refine J1 ?_;refine J14 ?_;refine J25 ?_;refine J14 ?_;refine J25 ?_;refine J14 ?_;refine J25 ?_
   refine ao_end ?_
   exact j195 (r := { x with kind := 0, a := 0, to := 0, els := 0 }) (by simp [endOk, h, eqb, ib, Bool.and_assoc, blockR]) ⟨rfl, rfl, rfl, rfl, trivial⟩ rfl rfl (fun m => by repeat' (first | exact trivial | exact sn_tr (Tr.s _) | exact sn_tr (tr_ints _) | exact sn_tr (tr_whens _) | exact sn_z | refine And.intro ?_ ?_))
  have h2 : ¬ x.kind = 2 := by simpa using h
  clear h
  refine ws ?_;refine J8 ?_;refine J1 ?_
  refine ao_end (w_if rfl (fun h => ?_) fun h => ?_)
  ·have h : x.kind = 3 := by simpa using h
   refine ws ?_;refine J5 ?_;refine J4 ?_;refine J8 ?_;refine J1 ?_;refine J14 ?_;refine J25 ?_;refine er ?_;refine J5 ?_;refine J5 ?_;refine J4 ?_;refine J35 ?_;refine J2 ?_;refine J7 ?_;refine J7 ?_;refine J6 ?_;refine J33 ?_;refine J9 ?_
   refine ao_end (w_if rfl (fun hr => ?_) fun hr => ?_)
   ·have hr : f.result ≠ 0 /\ f.iter = false := by simpa [bne, ib] using hr
    refine w_regBJd di_r195_11 ?_
    refine J48 ?_;refine J5 ?_;refine J4 ?_;refine cl k234 ?_;refine J5 ?_;refine J5 ?_;refine J4 ?_;refine J8 ?_;refine J1 ?_
    refine ao_endc (by simp [apartT]) ?_
    exact j195 (r := { x with kind := 0, a := 0 }) (by simp [endOk, h, eqb, ib, Bool.and_assoc, hr.1, hr.2]) ⟨rfl, rfl, rfl, rfl, trivial⟩ rfl rfl (fun m => by repeat' (first | exact trivial | exact sn_tr (Tr.s _) | exact sn_tr (tr_ints _) | exact sn_tr (tr_whens _) | exact sn_z | refine And.intro ?_ ?_))
   ·have hr : ¬ (f.result ≠ 0 /\ f.iter = false) := by simpa [bne, ib] using hr
    refine w_skipBJ ?_
    exact j195 (r := { x with kind := 0, a := 0 }) (by simp only [endOk, h]; simp only [if_neg hr]; simp [eqb, ib]) ⟨rfl, rfl, rfl, rfl, trivial⟩ rfl rfl (fun m => by repeat' (first | exact trivial | exact sn_tr (Tr.s _) | exact sn_tr (tr_ints _) | exact sn_tr (tr_whens _) | exact sn_z | refine And.intro ?_ ?_))
  have h3 : ¬ x.kind = 3 := by simpa using h
  clear h
  refine ws ?_;refine J8 ?_;refine J1 ?_
  refine ao_end (w_if rfl (fun h => ?_) fun h => ?_)
  ·have h : x.kind = 4 := by simpa using h
   refine w_regBJ ?_
   refine J5 ?_;refine J4 ?_;refine cl k194 ?_;refine J1 ?_;refine J14 ?_;refine J83 ?_
   refine ao_end ?_
   exact j195 (r := { x with kind := 0, name := .empty }) (by simp [endOk, h, eqb, ib, Bool.and_assoc]) ⟨rfl, rfl, rfl, rfl, trivial⟩ rfl rfl (fun m => by repeat' (first | exact trivial | exact sn_tr (Tr.s _) | exact sn_tr (tr_ints _) | exact sn_tr (tr_whens _) | exact sn_z | refine And.intro ?_ ?_))
  have h4 : ¬ x.kind = 4 := by simpa using h
  clear h
  refine ws ?_;refine J8 ?_;refine J1 ?_
  refine ao_end (w_if rfl (fun h => ?_) fun h => ?_)
  ·have h : x.kind = 5 := by simpa using h
   refine ws ?_
   have kg : gotD prog 131 true (lookD (.int .u8 x.ins.op) (imOf triesT)) = .tup [.agg (encShape ((shapeAt triesT x.ins.op).getD noShape)), .s (.bool (shapeAt triesT x.ins.op).isSome)] := got_im rfl _ _ (by rw [ml131]; unfold zeroD; rw [a205, z205]; rfl)
   have kg2 := keys_im (P := prog) (kt := 5) u5 triesT
   refine J5 ?_;refine J4 ?_;refine J5 ?_;refine J5 ?_;refine J4 ?_
   refine ao_p (e_lookupI rfl rfl V.h kg) ak ⟨V.h, by kernel_rfl, kg2⟩ ?_
   refine J28 ?_
   refine ao_p (e_extract (v := .agg (encShape _)) rfl rfl) ak (by first | decide | simp) ?_
   refine J39 ?_;refine J24 ?_
   refine ao_w (e_storeA (cs' := encShape _) rfl rfl rfl rfl) ak (p_store V.h V.h (by first | (simp; done) | exact ⟨rfl, Nat.le_of_ble_eq_true rfl⟩ | (simp; omega)) (by rfl)) ?_
   refine J1 ?_;refine er ?_;refine J2 ?_;refine J2 ?_;refine J22 ?_;refine J7 ?_
   refine ao_g rfl rfl (e_loadA (vs := encIns _) rfl V.h V.h rfl) (fun hc => ⟨ak, (p_loadA V.h V.h (by simp))⟩) ?_
   refine ao_g rfl rfl (e_loadRA (vs := encShape _) rfl rfl V.h V.h rfl) (fun hc => ⟨ak, (p_loadRA V.h V.h (by first | (simp; done) | omega | exact Nat.le_of_ble_eq_true rfl))⟩) ?_
   refine gc k235 ?_;refine J9 ?_;refine J2 ?_;refine J22 ?_;refine J7 ?_;refine J6 ?_;refine gc k233 ?_;refine J9 ?_;refine J2 ?_;refine J22 ?_;refine J73 ?_;refine gc k236 ?_;refine J9 ?_;refine J1 ?_
   refine ao_end (w_regBJ ?_)
   refine J36 ?_;refine J14 ?_
   refine ao_w (e_storeA rfl rfl rfl rfl) ak (p_store V.h V.h (by first | (simp; done) | exact ⟨rfl, Nat.le_of_ble_eq_true rfl⟩ | (simp; omega)) (by rfl)) ?_
   refine J14 ?_;refine J25 ?_;refine J14 ?_;refine J50 ?_;refine J14 ?_;refine J25 ?_
   refine ao_end ?_
   exact j195 (r := { x with kind := 0, ins := noIns0, to := 0, whens := [], others := -1 }) (by simp [endOk, h, eqb, ib, Bool.and_assoc, blockR]) ⟨rfl, rfl, rfl, rfl, trivial⟩ rfl rfl (fun m => by repeat' (first | exact trivial | exact sn_tr (Tr.s _) | exact sn_tr (tr_ints _) | exact sn_tr (tr_whens _) | exact sn_z | refine And.intro ?_ ?_))
  have h5 : ¬ x.kind = 5 := by simpa using h
  clear h
  refine ws ?_;refine J8 ?_;refine J1 ?_
  refine ao_end (w_if rfl (fun h => ?_) fun h => ?_)
  ·have h : x.kind = 6 := by simpa using h
   refine ws ?_
   have k190 := k190 (s := x.name)
   have k237' := k237 (l := [x.a])
   have k237 := k237 (l := x.args)
   have ks237' : ∀ {m : Mem}, m 3 = some (.cells [I x.a] 3) -> Sns prog [3] m [codeD f, .rs 3 0 1] [codeD f, encInts [x.a]] := fun hm => ⟨sn_tr (tr_code tr_P0 tr_Q0 f), sn_rs hm (by simp) (by rw [c3]; rfl) (.cons (.s _) .nil), trivial⟩
   cases g1 : isFlow x.name with
   | false =>
    rw [g1] at k190
    refine J5 ?_;refine J4 ?_;refine cl k190 ?_;refine J2 ?_;refine J7 ?_;refine J6 ?_;refine J30 ?_;refine J93 ?_;refine J13 ?_;refine J2 ?_;refine J22 ?_;refine J7 ?_;refine J6 ?_;refine gc k237 ?_;refine J13 ?_;refine J2 ?_;refine J7 ?_;refine J6 ?_;refine J20 ?_;refine J27 ?_;refine J22 ?_;refine J7 ?_;refine J6 ?_;refine z fun _ _ => ?_;refine z fun _ _ => ?_;refine z fun _ _ => ?_;refine J13 ?_;refine J2 ?_;refine J22 ?_;refine J7 ?_;refine J6 ?_;refine gc k233 ?_;refine J13 ?_;refine J2 ?_;refine J22 ?_;refine J73 ?_;refine gc k236 ?_;refine J13 ?_;refine J1 ?_
    refine ao_end (w_regBJ ?_)
    refine J14 ?_;refine J83 ?_;refine J14 ?_;refine J50 ?_;refine J14 ?_;refine J25 ?_;refine J14 ?_;refine J25 ?_;refine J14 ?_;refine J50 ?_;refine J14 ?_;refine J25 ?_
    refine ao_end ?_
    exact j195 (r := { x with kind := 0, name := .empty, args := [], a := 0, to := 0, whens := [], others := -1 }) (by simp [endOk, h, eqb, ib, Bool.and_assoc, blockR, g1]) ⟨rfl, rfl, rfl, rfl, trivial⟩ rfl rfl (fun m => by repeat' (first | exact trivial | exact sn_tr (Tr.s _) | exact sn_tr (tr_ints _) | exact sn_tr (tr_whens _) | exact sn_z | refine And.intro ?_ ?_))
   | true =>
    rw [g1] at k190
    by_cases g2 : (x.args.length : Int) <= 6
    rotate_left
    ·have kleq : decide ((x.args.length : Int) <= 6) = false := by simpa using g2
     refine J5 ?_;refine J4 ?_;refine cl k190 ?_;refine J2 ?_;refine J7 ?_;refine J6 ?_;refine J30 ?_;refine J111 ?_;refine J19 ?_;refine J2 ?_;refine J22 ?_;refine J7 ?_;refine J6 ?_;refine gc k237 ?_;refine J13 ?_;refine J2 ?_;refine J7 ?_;refine J6 ?_;refine J20 ?_;refine J27 ?_;refine J22 ?_;refine J7 ?_;refine J6 ?_;refine z fun _ _ => ?_;refine z fun _ _ => ?_;refine z fun _ _ => ?_;refine J13 ?_;refine J2 ?_;refine J22 ?_;refine J7 ?_;refine J6 ?_;refine gc k233 ?_;refine J13 ?_;refine J2 ?_;refine J22 ?_;refine J73 ?_;refine gc k236 ?_;refine J13 ?_;refine J1 ?_
     refine ao_end (w_regBJ ?_)
     refine J14 ?_;refine J83 ?_;refine J14 ?_;refine J50 ?_;refine J14 ?_;refine J25 ?_;refine J14 ?_;refine J25 ?_;refine J14 ?_;refine J50 ?_;refine J14 ?_;refine J25 ?_
     refine ao_end ?_
     exact j195 (r := { x with kind := 0, name := .empty, args := [], a := 0, to := 0, whens := [], others := -1 }) (by simp [endOk, h, eqb, ib, Bool.and_assoc, blockR, g1, g2]) ⟨rfl, rfl, rfl, rfl, trivial⟩ rfl rfl (fun m => by repeat' (first | exact trivial | exact sn_tr (Tr.s _) | exact sn_tr (tr_ints _) | exact sn_tr (tr_whens _) | exact sn_z | refine And.intro ?_ ?_))
    have kleq : decide ((x.args.length : Int) <= 6) = true := by simpa using g2
    cases g3 : valuesR f.regs x.args with
    | false =>
     rw [g3] at k237
     refine J5 ?_;refine J4 ?_;refine cl k190 ?_;refine J2 ?_;refine J7 ?_;refine J6 ?_;refine J30 ?_;refine J111 ?_;refine J19 ?_;refine J2 ?_;refine J22 ?_;refine J7 ?_;refine J6 ?_;refine gc k237 ?_;refine J19 ?_;refine J2 ?_;refine J7 ?_;refine J6 ?_;refine J20 ?_;refine J27 ?_;refine J22 ?_;refine J7 ?_;refine J6 ?_;refine z fun _ _ => ?_;refine z fun _ _ => ?_;refine z fun _ _ => ?_;refine J13 ?_;refine J2 ?_;refine J22 ?_;refine J7 ?_;refine J6 ?_;refine gc k233 ?_;refine J13 ?_;refine J2 ?_;refine J22 ?_;refine J73 ?_;refine gc k236 ?_;refine J13 ?_;refine J1 ?_
     refine ao_end (w_regBJ ?_)
     refine J14 ?_;refine J83 ?_;refine J14 ?_;refine J50 ?_;refine J14 ?_;refine J25 ?_;refine J14 ?_;refine J25 ?_;refine J14 ?_;refine J50 ?_;refine J14 ?_;refine J25 ?_
     refine ao_end ?_
     exact j195 (r := { x with kind := 0, name := .empty, args := [], a := 0, to := 0, whens := [], others := -1 }) (by simp [endOk, h, eqb, ib, Bool.and_assoc, blockR, g1, g2, g3]) ⟨rfl, rfl, rfl, rfl, trivial⟩ rfl rfl (fun m => by repeat' (first | exact trivial | exact sn_tr (Tr.s _) | exact sn_tr (tr_ints _) | exact sn_tr (tr_whens _) | exact sn_z | refine And.intro ?_ ?_))
    | true =>
     rw [g3] at k237
     by_cases g4 : x.a = -1
     ·have keql : (x.a == -1) = true := by simpa using g4
      refine J5 ?_;refine J4 ?_;refine cl k190 ?_;refine J2 ?_;refine J7 ?_;refine J6 ?_;refine J30 ?_;refine J111 ?_;refine J19 ?_;refine J2 ?_;refine J22 ?_;refine J7 ?_;refine J6 ?_;refine gc k237 ?_;refine J19 ?_;refine J2 ?_;refine J7 ?_;refine J6 ?_;refine J112 ?_;refine J27 ?_;refine J22 ?_;refine J7 ?_;refine J6 ?_;refine z fun _ _ => ?_;refine z fun _ _ => ?_;refine J96 ?_;refine J19 ?_;refine J2 ?_;refine J22 ?_;refine J7 ?_;refine J6 ?_;refine gc k233 ?_;refine J19 ?_;refine J2 ?_;refine J22 ?_;refine J73 ?_;refine gc k236 ?_;refine J9 ?_;refine J1 ?_
      refine ao_end (w_regBJ ?_)
      refine J14 ?_;refine J83 ?_;refine J14 ?_;refine J50 ?_;refine J14 ?_;refine J25 ?_;refine J14 ?_;refine J25 ?_;refine J14 ?_;refine J50 ?_;refine J14 ?_;refine J25 ?_
      refine ao_end ?_
      exact j195 (r := { x with kind := 0, name := .empty, args := [], a := 0, to := 0, whens := [], others := -1 }) (by simp [endOk, h, eqb, ib, Bool.and_assoc, blockR, g1, g2, g3, g4]) ⟨rfl, rfl, rfl, rfl, trivial⟩ rfl rfl (fun m => by repeat' (first | exact trivial | exact sn_tr (Tr.s _) | exact sn_tr (tr_ints _) | exact sn_tr (tr_whens _) | exact sn_z | refine And.intro ?_ ?_))
     ·have keql : (x.a == -1) = false := by simpa using g4
      refine J5 ?_;refine J4 ?_;refine cl k190 ?_;refine J2 ?_;refine J7 ?_;refine J6 ?_;refine J30 ?_;refine J111 ?_;refine J19 ?_;refine J2 ?_;refine J22 ?_;refine J7 ?_;refine J6 ?_;refine gc k237 ?_;refine J19 ?_;refine J2 ?_;refine J7 ?_;refine J6 ?_;refine J112 ?_;refine J27 ?_;refine J22 ?_;refine J7 ?_;refine J6 ?_;refine J137 ?_
      refine ao_gsc k237' rfl rfl rfl rfl (ks237' rfl) ak ?_
      refine J87 ?_;refine J19 ?_;refine J2 ?_;refine J22 ?_;refine J7 ?_;refine J6 ?_;refine gc k233 ?_;refine J9 ?_;refine J2 ?_;refine J22 ?_;refine J73 ?_;refine gc k236 ?_;refine J9 ?_;refine J1 ?_
      refine ao_end (w_regBJ ?_)
      refine J14 ?_;refine J83 ?_;refine J14 ?_;refine J50 ?_;refine J14 ?_;refine J25 ?_;refine J14 ?_;refine J25 ?_;refine J14 ?_;refine J50 ?_;refine J14 ?_;refine J25 ?_
      refine ao_end ?_
      exact j195 (r := { x with kind := 0, name := .empty, args := [], a := 0, to := 0, whens := [], others := -1 }) (by simp [endOk, h, eqb, ib, Bool.and_assoc, blockR, g1, g2, g3, g4, vR]) ⟨rfl, rfl, rfl, rfl, trivial⟩ rfl rfl (fun m => by repeat' (first | exact trivial | exact sn_tr (Tr.s _) | exact sn_tr (tr_ints _) | exact sn_tr (tr_whens _) | exact sn_z | refine And.intro ?_ ?_))
  have h6 : ¬ x.kind = 6 := by simpa using h
  clear h
  refine ws ?_;refine J8 ?_;refine J1 ?_
  refine ao_end (w_if rfl (fun h => ?_) fun h => ?_)
  ·have h : x.kind = 7 := by simpa using h
   refine ws ?_;refine J5 ?_;refine J4 ?_;refine cl k190 ?_;refine J2 ?_;refine J7 ?_;refine J6 ?_;refine J30 ?_;refine J93 ?_;refine J9 ?_;refine J2 ?_;refine J22 ?_;refine J7 ?_;refine J6 ?_;refine gc k237 ?_;refine J9 ?_;refine J2 ?_;refine J22 ?_;refine J7 ?_;refine J6 ?_;refine gc k234 ?_;refine J20 ?_;refine J9 ?_;refine J2 ?_;refine J22 ?_;refine J7 ?_;refine J6 ?_;refine gc k233 ?_;refine J9 ?_;refine J1 ?_
   refine ao_end (w_regBJ ?_)
   refine J14 ?_;refine J83 ?_;refine J14 ?_;refine J50 ?_;refine J14 ?_;refine J25 ?_;refine J14 ?_;refine J25 ?_
   refine ao_end ?_
   exact j195 (r := { x with kind := 0, name := .empty, args := [], a := 0, to := 0 }) (by simp [endOk, h, eqb, ib, Bool.and_assoc, blockR]) ⟨rfl, rfl, rfl, rfl, trivial⟩ rfl rfl (fun m => by repeat' (first | exact trivial | exact sn_tr (Tr.s _) | exact sn_tr (tr_ints _) | exact sn_tr (tr_whens _) | exact sn_z | refine And.intro ?_ ?_))
  have h7 : ¬ x.kind = 7 := by simpa using h
  clear h
  refine ws ?_;refine J8 ?_;refine J1 ?_
  refine ao_end (w_if rfl (fun h => ?_) fun h => ?_)
  ·have h : x.kind = 8 := by simpa using h
   refine ws ?_
   have k237 := k237 (l := [x.b])
   have ks237 : ∀ {m : Mem}, m 3 = some (.cells [I x.b] 3) -> Sns prog [3] m [codeD f, .rs 3 0 1] [codeD f, encInts [x.b]] := fun hm => ⟨sn_tr (tr_code tr_P0 tr_Q0 f), sn_rs hm (by simp) (by rw [c3]; rfl) (.cons (.s _) .nil), trivial⟩
   by_cases g1 : kindR f.regs x.a = 3
   ·have keql : (kindR f.regs x.a == 3) = true := by simpa using g1
    refine J48 ?_;refine J5 ?_;refine J4 ?_;refine cl k234 ?_;refine J56 ?_;refine J2 ?_;refine J22 ?_;refine J7 ?_;refine J6 ?_;refine J137 ?_
    refine ao_gsc k237 rfl rfl rfl rfl (ks237 rfl) ak ?_
    refine J19 ?_;refine J2 ?_;refine J22 ?_;refine J7 ?_;refine J6 ?_;refine gc k233 ?_;refine J9 ?_;refine J2 ?_;refine J22 ?_;refine J7 ?_;refine J6 ?_;refine gc k233 ?_;refine J9 ?_;refine J2 ?_;refine J22 ?_;refine J73 ?_;refine gc k236 ?_;refine J9 ?_;refine J1 ?_
    refine ao_end (w_regBJ ?_)
    refine J14 ?_;refine J25 ?_;refine J14 ?_;refine J25 ?_;refine J14 ?_;refine J25 ?_;refine J14 ?_;refine J25 ?_;refine J14 ?_;refine J50 ?_;refine J14 ?_;refine J25 ?_
    refine ao_end ?_
    exact j195 (r := { x with kind := 0, a := 0, b := 0, to := 0, els := 0, whens := [], others := -1 }) (by simp [endOk, h, eqb, ib, Bool.and_assoc, blockR, g1, vR]) ⟨rfl, rfl, rfl, rfl, trivial⟩ rfl rfl (fun m => by repeat' (first | exact trivial | exact sn_tr (Tr.s _) | exact sn_tr (tr_ints _) | exact sn_tr (tr_whens _) | exact sn_z | refine And.intro ?_ ?_))
   ·have keql : (kindR f.regs x.a == 3) = false := by simpa using g1
    refine J48 ?_;refine J5 ?_;refine J4 ?_;refine cl k234 ?_;refine J56 ?_;refine J2 ?_;refine J22 ?_;refine J7 ?_;refine J6 ?_;refine z fun _ _ => ?_;refine z fun _ _ => ?_;refine J13 ?_;refine J2 ?_;refine J22 ?_;refine J7 ?_;refine J6 ?_;refine gc k233 ?_;refine J13 ?_;refine J2 ?_;refine J22 ?_;refine J7 ?_;refine J6 ?_;refine gc k233 ?_;refine J13 ?_;refine J2 ?_;refine J22 ?_;refine J73 ?_;refine gc k236 ?_;refine J13 ?_;refine J1 ?_
    refine ao_end (w_regBJ ?_)
    refine J14 ?_;refine J25 ?_;refine J14 ?_;refine J25 ?_;refine J14 ?_;refine J25 ?_;refine J14 ?_;refine J25 ?_;refine J14 ?_;refine J50 ?_;refine J14 ?_;refine J25 ?_
    refine ao_end ?_
    exact j195 (r := { x with kind := 0, a := 0, b := 0, to := 0, els := 0, whens := [], others := -1 }) (by simp [endOk, h, eqb, ib, Bool.and_assoc, blockR, g1]) ⟨rfl, rfl, rfl, rfl, trivial⟩ rfl rfl (fun m => by repeat' (first | exact trivial | exact sn_tr (Tr.s _) | exact sn_tr (tr_ints _) | exact sn_tr (tr_whens _) | exact sn_z | refine And.intro ?_ ?_))
  have h8 : ¬ x.kind = 8 := by simpa using h
  clear h
  refine ws ?_;refine J8 ?_;refine J1 ?_
  refine ao_end (w_if rfl (fun h => ?_) fun h => ?_)
  ·have h : x.kind = 9 := by simpa using h
   refine w_regBJd di_r195_28 ?_
   refine J5 ?_;refine J5 ?_;refine J4 ?_;refine J2 ?_;refine J22 ?_;refine J7 ?_;refine J6 ?_;refine gc k234 ?_;refine J7 ?_;refine J7 ?_;refine J6 ?_;refine J20 ?_;refine J9 ?_;refine J2 ?_;refine J22 ?_;refine J7 ?_;refine J6 ?_;refine gc k233 ?_;refine J9 ?_;refine J1 ?_;refine J14 ?_;refine J25 ?_;refine J14 ?_;refine J25 ?_
   refine ao_endc (by simp [apartT]) ?_
   exact j195 (r := { x with kind := 0, a := 0, to := 0 }) (by simp [endOk, h, eqb, ib, Bool.and_assoc, blockR]) ⟨rfl, rfl, rfl, rfl, trivial⟩ rfl rfl (fun m => by repeat' (first | exact trivial | exact sn_tr (Tr.s _) | exact sn_tr (tr_ints _) | exact sn_tr (tr_whens _) | exact sn_z | refine And.intro ?_ ?_))
  ·have h9 : ¬ x.kind = 9 := by simpa using h
   refine w_skipBJ ?_
   exact j195 (r := { x with kind := 0 }) (by simp [endOk, h1, h2, h3, h4, h5, h6, h7, h8, h9]) ⟨rfl, rfl, rfl, rfl, trivial⟩ rfl rfl (fun m => by repeat' (first | exact trivial | exact sn_tr (Tr.s _) | exact sn_tr (tr_ints _) | exact sn_tr (tr_whens _) | exact sn_z | refine And.intro ?_ ?_))
 ·obtain ⟨cells, n, hg, hl, hs⟩ := hs
  refine ⟨_, hg, w_seq_region ?_⟩
  have hct : (cells.drop 0).take 15 = cells := by rw [List.drop_zero, List.take_of_length_le oG]
  have k238 := k238 (x := (endOk f x).2)
  have ks238 : ∀ {m : Mem}, m 2 = m 2 -> Sns prog [2] m [.agg ((cells.drop 0).take 15)] [.agg (encEnd (endOk f x).2)] := fun {m} _ => ⟨sn_agg (by rw [hct]; exact hs m), trivial⟩
  have he : endedB f x = ((endOk f x).1 && bareB (endOk f x).2) := rfl
  generalize (endOk f x).1 = ok at he
  cases ok with
  | true =>
   refine J2 ?_;refine J2 ?_
   refine ao_g rfl rfl (e_loadRA rfl rfl V.h V.h rfl) (fun hc => ⟨ak, (p_loadRA V.h V.h (by first | (simp; done) | omega | exact Nat.le_of_ble_eq_true rfl))⟩) ?_
   refine ao_gsc k238 rfl rfl rfl rfl (ks238 rfl) ak ?_
   refine J19 ?_;refine J1 ?_
   refine ao_end (q_ret1 (d := .s (.bool _)) rfl ?_)
   rw [he]
   simp
  | false =>
   refine J2 ?_;refine J2 ?_;refine z fun _ _ => ?_;refine z fun _ _ => ?_;refine J13 ?_;refine J1 ?_
   refine ao_end (q_ret1 (d := .s (.bool _)) rfl ?_)
   rw [he]
   simp
end Go.Proofs.Tryz.K
end
section
open Go Go.Abs Go.Proofs Go.Argus
namespace Go.Proofs.Tryz.K
set_option maxRecDepth 10000
theorem k244 {n : Int} (hn : -1000000 <= n /\ n <= 1000000) : PCall prog 244 [I n] (I (slotPlace n)) := by
 refine pcall_of mixed ok244 (by rw [nt244]; rfl) (by simp [Tr.s]) (Tr.s _) ?_
 rw [rs244, sk244]
 refine ws ?_;refine J3 ?_;refine er ?_;refine J0 ?_;refine J11 ?_;refine J3 ?_
 exact ao_end (q_ret1 rfl rfl)
theorem k139 {x : Ins} : PCall prog 139 [.agg (encIns x)] (I (writesR x)) := by
 have htr : ∀ a ∈ [D.agg (encIns x)], Tr a := .cons (.agg (trs_ins x)) .nil
 refine pcall_of mixed ok139 (by rw [nt139]; rfl) htr (Tr.s _) ?_
 rw [rs139, sk139]
 refine w_seq_region_g ?_
 refine J67 ?_;refine J3 ?_
 refine ao_end (w_ghost (ghost_fr [(0, encIns x, 66)] eH (l := [(1, .pt (encIns x))]) eH) (w_assoc (w_seq_region ?_)))
 refine J5 ?_;refine J4 ?_
 refine ao_end (w_seq_blk ?_)
 refine w_cut_g (fun s => Ghost prog s ⟨envL [(1, .pt (encIns x)), (4, U8 x.op), (5, B (isIn writesL1 x.op))], fun _ => none, 1⟩) (w_seq_region ?_) fun s hg => ⟨_, hg, ?_⟩
 ·refine J8 ?_;refine J1 ?_
  refine ao_end (w_if rfl (fun h => w_skipJ ?_) fun e1 => w_seq_region ?_)
  ·have h : x.op = 1 := by simpa using h
   refine ghost_of ⟨rfl, rfl, ?_, trivial⟩
   show D.s (.bool (x.op == 1)) = _
   rw [h]; rfl
  refine J8 ?_;refine J1 ?_
  refine ao_end (w_if rfl (fun h => w_skipJ ?_) fun e2 => w_seq_region ?_)
  ·have h : x.op = 2 := by simpa using h
   refine ghost_of ⟨rfl, rfl, ?_, trivial⟩
   show D.s (.bool (x.op == 2)) = _
   rw [h]; rfl
  refine J8 ?_;refine J1 ?_
  refine ao_end (w_if rfl (fun h => w_skipJ ?_) fun e3 => w_seq_region ?_)
  ·have h : x.op = 3 := by simpa using h
   refine ghost_of ⟨rfl, rfl, ?_, trivial⟩
   show D.s (.bool (x.op == 3)) = _
   rw [h]; rfl
  refine J8 ?_;refine J1 ?_
  refine ao_end (w_if rfl (fun h => w_skipJ ?_) fun e4 => w_seq_region ?_)
  ·have h : x.op = 4 := by simpa using h
   refine ghost_of ⟨rfl, rfl, ?_, trivial⟩
   show D.s (.bool (x.op == 4)) = _
   rw [h]; rfl
  refine J8 ?_;refine J1 ?_
  refine ao_end (w_if rfl (fun h => w_skipJ ?_) fun e5 => w_seq_region ?_)
  ·have h : x.op = 5 := by simpa using h
   refine ghost_of ⟨rfl, rfl, ?_, trivial⟩
   show D.s (.bool (x.op == 5)) = _
   rw [h]; rfl
  refine J8 ?_;refine J1 ?_
  refine ao_end (w_if rfl (fun h => w_skipJ ?_) fun e6 => w_seq_region ?_)
  ·have h : x.op = 6 := by simpa using h
   refine ghost_of ⟨rfl, rfl, ?_, trivial⟩
   show D.s (.bool (x.op == 6)) = _
   rw [h]; rfl
  refine J8 ?_;refine J1 ?_
  refine ao_end (w_if rfl (fun h => w_skipJ ?_) fun e7 => w_seq_region ?_)
  ·have h : x.op = 7 := by simpa using h
   refine ghost_of ⟨rfl, rfl, ?_, trivial⟩
   show D.s (.bool (x.op == 7)) = _
   rw [h]; rfl
  refine J8 ?_;refine J1 ?_
  refine ao_end (w_if rfl (fun h => w_skipJ ?_) fun e8 => w_seq_region ?_)
  ·have h : x.op = 8 := by simpa using h
   refine ghost_of ⟨rfl, rfl, ?_, trivial⟩
   show D.s (.bool (x.op == 8)) = _
   rw [h]; rfl
  refine J8 ?_;refine J1 ?_
  refine ao_end (w_if rfl (fun h => w_skipJ ?_) fun e9 => w_seq_region ?_)
  ·have h : x.op = 9 := by simpa using h
   refine ghost_of ⟨rfl, rfl, ?_, trivial⟩
   show D.s (.bool (x.op == 9)) = _
   rw [h]; rfl
  refine J8 ?_;refine J1 ?_
  refine ao_end (w_if rfl (fun h => w_skipJ ?_) fun e10 => w_seq_region ?_)
  ·have h : x.op = 10 := by simpa using h
   refine ghost_of ⟨rfl, rfl, ?_, trivial⟩
   show D.s (.bool (x.op == 10)) = _
   rw [h]; rfl
  refine J8 ?_;refine J1 ?_
  refine ao_end (w_if rfl (fun h => w_skipJ ?_) fun e11 => w_seq_region ?_)
  ·have h : x.op = 11 := by simpa using h
   refine ghost_of ⟨rfl, rfl, ?_, trivial⟩
   show D.s (.bool (x.op == 11)) = _
   rw [h]; rfl
  refine J8 ?_;refine J1 ?_
  refine ao_end (w_if rfl (fun h => w_skipJ ?_) fun e13 => w_seq_region ?_)
  ·have h : x.op = 13 := by simpa using h
   refine ghost_of ⟨rfl, rfl, ?_, trivial⟩
   show D.s (.bool (x.op == 13)) = _
   rw [h]; rfl
  refine J8 ?_;refine J1 ?_
  refine ao_end (w_if rfl (fun h => w_skipJ ?_) fun e14 => w_seq_region ?_)
  ·have h : x.op = 14 := by simpa using h
   refine ghost_of ⟨rfl, rfl, ?_, trivial⟩
   show D.s (.bool (x.op == 14)) = _
   rw [h]; rfl
  refine J8 ?_;refine J1 ?_
  refine ao_end (w_if rfl (fun h => w_skipJ ?_) fun e17 => w_regJ ?_)
  ·have h : x.op = 17 := by simpa using h
   refine ghost_of ⟨rfl, rfl, ?_, trivial⟩
   show D.s (.bool (x.op == 17)) = _
   rw [h]; rfl
  refine J8 ?_;refine J1 ?_
  refine ao_end ?_
  refine ghost_of ⟨rfl, rfl, ?_, trivial⟩
  show D.s (.bool (x.op == 19)) = _
  simp [isIn, writesL1, e1, e2, e3, e4, e5, e6, e7, e8, e9, e10, e11, e13, e14, e17]
 refine w_if rfl (fun h1 => ?_) fun h1 => ?_
 ·refine ws ?_;refine J5 ?_;refine J4 ?_;refine J3 ?_
  refine ao_end (w_ret (j_block (j_seq (q_ret1 (d := I x.to) rfl ?_))))
  simp [writesR, h1]
 refine w_cut_g (fun s => Ghost prog s ⟨envL [(1, .pt (encIns x)), (4, U8 x.op), (23, B (isIn writesL2 x.op))], fun _ => none, 1⟩) (w_seq_region ?_) fun s hg => ⟨_, hg, ?_⟩
 ·refine J8 ?_;refine J1 ?_
  refine ao_end (w_if rfl (fun h => w_skipJ ?_) fun e30 => w_seq_region ?_)
  ·have h : x.op = 30 := by simpa using h
   refine ghost_of ⟨rfl, rfl, ?_, trivial⟩
   show D.s (.bool (x.op == 30)) = _
   rw [h]; rfl
  refine J8 ?_;refine J1 ?_
  refine ao_end (w_if rfl (fun h => w_skipJ ?_) fun e31 => w_seq_region ?_)
  ·have h : x.op = 31 := by simpa using h
   refine ghost_of ⟨rfl, rfl, ?_, trivial⟩
   show D.s (.bool (x.op == 31)) = _
   rw [h]; rfl
  refine J8 ?_;refine J1 ?_
  refine ao_end (w_if rfl (fun h => w_skipJ ?_) fun e32 => w_seq_region ?_)
  ·have h : x.op = 32 := by simpa using h
   refine ghost_of ⟨rfl, rfl, ?_, trivial⟩
   show D.s (.bool (x.op == 32)) = _
   rw [h]; rfl
  refine J8 ?_;refine J1 ?_
  refine ao_end (w_if rfl (fun h => w_skipJ ?_) fun e33 => w_seq_region ?_)
  ·have h : x.op = 33 := by simpa using h
   refine ghost_of ⟨rfl, rfl, ?_, trivial⟩
   show D.s (.bool (x.op == 33)) = _
   rw [h]; rfl
  refine J8 ?_;refine J1 ?_
  refine ao_end (w_if rfl (fun h => w_skipJ ?_) fun e34 => w_seq_region ?_)
  ·have h : x.op = 34 := by simpa using h
   refine ghost_of ⟨rfl, rfl, ?_, trivial⟩
   show D.s (.bool (x.op == 34)) = _
   rw [h]; rfl
  refine J8 ?_;refine J1 ?_
  refine ao_end (w_if rfl (fun h => w_skipJ ?_) fun e36 => w_regJ ?_)
  ·have h : x.op = 36 := by simpa using h
   refine ghost_of ⟨rfl, rfl, ?_, trivial⟩
   show D.s (.bool (x.op == 36)) = _
   rw [h]; rfl
  refine J8 ?_;refine J1 ?_
  refine ao_end ?_
  refine ghost_of ⟨rfl, rfl, ?_, trivial⟩
  show D.s (.bool (x.op == 37)) = _
  simp [isIn, writesL2, e30, e31, e32, e33, e34, e36]
 refine w_if rfl (fun h2 => ?_) fun h2 => ?_
 ·refine ws ?_;refine J5 ?_;refine J4 ?_;refine J3 ?_
  refine ao_end (w_ret (j_block (j_seq (q_ret1 (d := I x.to) rfl ?_))))
  simp [writesR, h2]
 refine w_endB (w_seq_region ?_)
 refine J3 ?_
 refine ao_end (q_ret1 (d := I (-1)) rfl ?_)
 simp [writesR, h1, h2]
theorem k175 {x : Argus.End} : PCall prog 175 [.agg (encEnd x)] (I (writesEnd x)) := by
 have htr : ∀ a ∈ [D.agg (encEnd x)], Tr a := .cons (.agg (trs_end x)) .nil
 have k139 := k139 (x := x.ins)
 refine pcall_of mixed ok175 (by rw [nt175]; rfl) htr (Tr.s _) ?_
 rw [rs175, sk175]
 refine w_seq_region_g ?_
 refine J68 ?_;refine J3 ?_
 refine ao_end (w_ghost (ghost_fr [(0, encEnd x, 69)] eH (l := [(1, .pt (encEnd x))]) eH) (w_assoc (w_seq_region ?_)))
 refine J5 ?_;refine J4 ?_
 refine ao_end (w_seq_blk (w_seq_region ?_))
 refine J8 ?_;refine J1 ?_
 refine ao_end (w_if rfl (fun h1 => ?_) fun h1 => ?_)
 ·have h1 : x.kind = 5 := by simpa using h1
  refine ws ?_;refine J5 ?_;refine J59 ?_;refine cl k139 ?_;refine J3 ?_
  refine ao_end (w_ret (j_block (j_seq (q_ret1 (d := I (writesR x.ins)) rfl ?_))))
  simp [writesEnd, h1]
 have h1 : ¬ x.kind = 5 := by simpa using h1
 refine w_cut_g (fun s => Ghost prog s ⟨envL [(1, .pt (encEnd x)), (4, U8 x.kind), (10, B (isIn [6, 7] x.kind))], fun _ => none, 1⟩) (w_seq_region ?_) fun s hg => ⟨_, hg, ?_⟩
 ·refine J8 ?_;refine J1 ?_
  refine ao_end (w_if rfl (fun h => w_skipJ ?_) fun e6 => w_regJ ?_)
  ·have h : x.kind = 6 := by simpa using h
   refine ghost_of ⟨rfl, rfl, ?_, trivial⟩
   show D.s (.bool (x.kind == 6)) = _
   rw [h]; rfl
  refine J8 ?_;refine J1 ?_
  refine ao_end ?_
  refine ghost_of ⟨rfl, rfl, ?_, trivial⟩
  show D.s (.bool (x.kind == 7)) = _
  simp [isIn, e6]
 refine w_if rfl (fun h2 => ?_) fun h2 => ?_
 ·refine ws ?_;refine J5 ?_;refine J4 ?_;refine J3 ?_
  refine ao_end (w_ret (j_block (j_seq (q_ret1 (d := I x.a) rfl ?_))))
  simp [writesEnd, h1, h2]
 refine ws ?_;refine J8 ?_;refine J1 ?_
 refine ao_end (w_if rfl (fun h3 => ?_) fun h3 => ?_)
 ·have h3 : x.kind = 8 := by simpa using h3
  refine ws ?_;refine J5 ?_;refine J4 ?_;refine J3 ?_
  refine ao_end (w_ret (j_block (j_seq (q_ret1 (d := I x.b) rfl ?_))))
  simp [writesEnd, h2, h3]
  simp [isIn]
 have h3 : ¬ x.kind = 8 := by simpa using h3
 refine w_endB (w_seq_region ?_)
 refine J3 ?_
 refine ao_end (q_ret1 (d := I (-1)) rfl ?_)
 simp [writesEnd, h1, h2, h3]
theorem k105 {l : List Int} (hl : l.length <= 100000) : PCall prog 105 [encInts l] (encInts l) := by
 have htr : ∀ a ∈ [encInts l], Tr a := .cons (tr_ints _) .nil
 refine pcall_of mixed ok105 (by rw [nt105]; rfl) htr (tr_ints _) ?_
 rw [rs105, sk105]
 have kapp : (l.map I).take (l.length * 1) = l.map I := List.take_of_length_le (by simp)
 have last : AW prog noY true (.seq (.region 3 (Z body105 11) false) .ret) (retQ prog [.tmp 2] fun d x => d = encInts l) ⟨envL [(0, encInts l)], fun _ => none, 0⟩ := by
  refine w_seq_region_g ?_
  refine ao_a (e_buildSl (cs := []) V.h V.h V.h rfl rfl) ak ⟨rfl, by decide, V.h, by decide⟩ ?_
  refine J17 ?_
  refine ao_m (e_appR rfl rfl rfl V.h V.h (cells_sl kapp) rfl) ak ⟨V.h, rfl, (by first | omega | exact Nat.le_of_ble_eq_true rfl | (simp; done) | (simp; omega)), (by decide), (by first | rfl | (simp; done) | (simp; omega)), (by unfold maxLen; first | omega | (simp; omega)), (by rw [b3]; first | omega | (simp; omega)), (by first | (simp; done) | (simp; omega))⟩ ?_
  refine J18 ?_
  refine ao_end (w_ghost (ghost_fr [(1, l.map I, 3)] eH (l := [(2, encInts l)]) ⟨?_, trivial⟩) (q_ret1 rfl rfl))
  show frE _ [(1, l.map I, 3)] (.rs 1 0 (0 + l.length)) = .sl (l.map I) l.length
  rw [Nat.zero_add]
  exact fr_rs c3 (List.take_of_length_le (by simp))
 refine ws ?_;refine J23 ?_
 refine ao_end ?_
 refine w_cut_g (fun s => Ghost prog s ⟨envL [(0, encInts l)], fun _ => none, 0⟩) (w_seq_region ?_) fun s hg => ⟨_, hg, last⟩
 cases l with
 | nil =>
  refine J17 ?_
  refine ao_p (e_nilU rfl) ak V.h ?_
  refine ao_end (w_if_ub rfl (w_seq_region_g ?_) (w_skipJ (ghost_of eH)))
  refine J23 ?_
  exact ao_end (w_ghost (ghost_nil (n0 := 2) rfl) (w_ret (j_seq (q_ret1 rfl rfl))))
 | cons a l =>
  have khn : (a :: l).length ≠ 0 := by simp
  refine J17 ?_
  refine ao_p (e_nilF rfl khn) ak V.h ?_
  exact ao_end (w_if rfl (fun h => (by cases h)) fun h => w_skipJ (ghost_of eH))
theorem k140 {x : Ins} (hx : x.op = 10 \/ x.op = 38 -> x.args.length <= 1000) : PCall prog 140 [.agg (encIns x)] (encInts (readsR x)) := by
 have htr : ∀ a ∈ [D.agg (encIns x)], Tr a := .cons (.agg (trs_ins x)) .nil
 refine pcall_of mixed ok140 (by rw [nt140]; rfl) htr (tr_ints _) ?_
 rw [rs140, sk140]
 refine w_seq_region_g ?_
 refine J67 ?_;refine J23 ?_
 refine ao_end (w_ghost (ghost_fr [(0, encIns x, 66)] eH (l := [(1, .pt (encIns x))]) eH) (w_assoc (w_seq_region ?_)))
 refine J5 ?_;refine J4 ?_
 refine ao_end (w_seq_blk ?_)
 refine w_cut_g (fun s => Ghost prog s ⟨envL [(1, .pt (encIns x)), (4, U8 x.op), (5, B (isIn readsL1 x.op))], fun _ => none, 1⟩) (w_seq_region ?_) fun s hg => ⟨_, hg, ?_⟩
 ·refine J8 ?_;refine J1 ?_
  refine ao_end (w_if rfl (fun h => w_skipJ ?_) fun e2 => w_seq_region ?_)
  ·have h : x.op = 2 := by simpa using h
   refine ghost_of ⟨rfl, rfl, ?_, trivial⟩
   show D.s (.bool (x.op == 2)) = _
   rw [h]; rfl
  refine J8 ?_;refine J1 ?_
  refine ao_end (w_if rfl (fun h => w_skipJ ?_) fun e8 => w_seq_region ?_)
  ·have h : x.op = 8 := by simpa using h
   refine ghost_of ⟨rfl, rfl, ?_, trivial⟩
   show D.s (.bool (x.op == 8)) = _
   rw [h]; rfl
  refine J8 ?_;refine J1 ?_
  refine ao_end (w_if rfl (fun h => w_skipJ ?_) fun e11 => w_seq_region ?_)
  ·have h : x.op = 11 := by simpa using h
   refine ghost_of ⟨rfl, rfl, ?_, trivial⟩
   show D.s (.bool (x.op == 11)) = _
   rw [h]; rfl
  refine J8 ?_;refine J1 ?_
  refine ao_end (w_if rfl (fun h => w_skipJ ?_) fun e13 => w_seq_region ?_)
  ·have h : x.op = 13 := by simpa using h
   refine ghost_of ⟨rfl, rfl, ?_, trivial⟩
   show D.s (.bool (x.op == 13)) = _
   rw [h]; rfl
  refine J8 ?_;refine J1 ?_
  refine ao_end (w_if rfl (fun h => w_skipJ ?_) fun e14 => w_seq_region ?_)
  ·have h : x.op = 14 := by simpa using h
   refine ghost_of ⟨rfl, rfl, ?_, trivial⟩
   show D.s (.bool (x.op == 14)) = _
   rw [h]; rfl
  refine J8 ?_;refine J1 ?_
  refine ao_end (w_if rfl (fun h => w_skipJ ?_) fun e15 => w_seq_region ?_)
  ·have h : x.op = 15 := by simpa using h
   refine ghost_of ⟨rfl, rfl, ?_, trivial⟩
   show D.s (.bool (x.op == 15)) = _
   rw [h]; rfl
  refine J8 ?_;refine J1 ?_
  refine ao_end (w_if rfl (fun h => w_skipJ ?_) fun e16 => w_seq_region ?_)
  ·have h : x.op = 16 := by simpa using h
   refine ghost_of ⟨rfl, rfl, ?_, trivial⟩
   show D.s (.bool (x.op == 16)) = _
   rw [h]; rfl
  refine J8 ?_;refine J1 ?_
  refine ao_end (w_if rfl (fun h => w_skipJ ?_) fun e18 => w_regJ ?_)
  ·have h : x.op = 18 := by simpa using h
   refine ghost_of ⟨rfl, rfl, ?_, trivial⟩
   show D.s (.bool (x.op == 18)) = _
   rw [h]; rfl
  refine J8 ?_;refine J1 ?_
  refine ao_end ?_
  refine ghost_of ⟨rfl, rfl, ?_, trivial⟩
  show D.s (.bool (x.op == 36)) = _
  simp [isIn, readsL1, e2, e8, e11, e13, e14, e15, e16, e18]
 refine w_if rfl (fun h1 => ?_) fun h1 => ?_
 ·refine w_seq_region_g ?_
  refine J5 ?_;refine J4 ?_;refine J40 ?_;refine J18 ?_
  refine ao_end (w_ghost (ghost_fr [(1, ([x.a]).map I, 3)] eH (l := [(2, encInts ([x.a]))]) ⟨fr_rs c3 rfl, trivial⟩) (w_ret (j_block (j_seq (q_ret1 (d := encInts ([x.a])) rfl ?_)))))
  exact congrArg encInts (by unfold readsR; rw [if_pos h1])
 refine w_cut_g (fun s => Ghost prog s ⟨envL [(1, .pt (encIns x)), (4, U8 x.op), (18, B (isIn readsL2 x.op))], fun _ => none, 1⟩) (w_seq_region ?_) fun s hg => ⟨_, hg, ?_⟩
 ·refine J8 ?_;refine J1 ?_
  refine ao_end (w_if rfl (fun h => w_skipJ ?_) fun e3 => w_seq_region ?_)
  ·have h : x.op = 3 := by simpa using h
   refine ghost_of ⟨rfl, rfl, ?_, trivial⟩
   show D.s (.bool (x.op == 3)) = _
   rw [h]; rfl
  refine J8 ?_;refine J1 ?_
  refine ao_end (w_if rfl (fun h => w_skipJ ?_) fun e4 => w_seq_region ?_)
  ·have h : x.op = 4 := by simpa using h
   refine ghost_of ⟨rfl, rfl, ?_, trivial⟩
   show D.s (.bool (x.op == 4)) = _
   rw [h]; rfl
  refine J8 ?_;refine J1 ?_
  refine ao_end (w_if rfl (fun h => w_skipJ ?_) fun e5 => w_seq_region ?_)
  ·have h : x.op = 5 := by simpa using h
   refine ghost_of ⟨rfl, rfl, ?_, trivial⟩
   show D.s (.bool (x.op == 5)) = _
   rw [h]; rfl
  refine J8 ?_;refine J1 ?_
  refine ao_end (w_if rfl (fun h => w_skipJ ?_) fun e6 => w_seq_region ?_)
  ·have h : x.op = 6 := by simpa using h
   refine ghost_of ⟨rfl, rfl, ?_, trivial⟩
   show D.s (.bool (x.op == 6)) = _
   rw [h]; rfl
  refine J8 ?_;refine J1 ?_
  refine ao_end (w_if rfl (fun h => w_skipJ ?_) fun e7 => w_seq_region ?_)
  ·have h : x.op = 7 := by simpa using h
   refine ghost_of ⟨rfl, rfl, ?_, trivial⟩
   show D.s (.bool (x.op == 7)) = _
   rw [h]; rfl
  refine J8 ?_;refine J1 ?_
  refine ao_end (w_if rfl (fun h => w_skipJ ?_) fun e12 => w_seq_region ?_)
  ·have h : x.op = 12 := by simpa using h
   refine ghost_of ⟨rfl, rfl, ?_, trivial⟩
   show D.s (.bool (x.op == 12)) = _
   rw [h]; rfl
  refine J8 ?_;refine J1 ?_
  refine ao_end (w_if rfl (fun h => w_skipJ ?_) fun e30 => w_seq_region ?_)
  ·have h : x.op = 30 := by simpa using h
   refine ghost_of ⟨rfl, rfl, ?_, trivial⟩
   show D.s (.bool (x.op == 30)) = _
   rw [h]; rfl
  refine J8 ?_;refine J1 ?_
  refine ao_end (w_if rfl (fun h => w_skipJ ?_) fun e31 => w_seq_region ?_)
  ·have h : x.op = 31 := by simpa using h
   refine ghost_of ⟨rfl, rfl, ?_, trivial⟩
   show D.s (.bool (x.op == 31)) = _
   rw [h]; rfl
  refine J8 ?_;refine J1 ?_
  refine ao_end (w_if rfl (fun h => w_skipJ ?_) fun e32 => w_seq_region ?_)
  ·have h : x.op = 32 := by simpa using h
   refine ghost_of ⟨rfl, rfl, ?_, trivial⟩
   show D.s (.bool (x.op == 32)) = _
   rw [h]; rfl
  refine J8 ?_;refine J1 ?_
  refine ao_end (w_if rfl (fun h => w_skipJ ?_) fun e33 => w_seq_region ?_)
  ·have h : x.op = 33 := by simpa using h
   refine ghost_of ⟨rfl, rfl, ?_, trivial⟩
   show D.s (.bool (x.op == 33)) = _
   rw [h]; rfl
  refine J8 ?_;refine J1 ?_
  refine ao_end (w_if rfl (fun h => w_skipJ ?_) fun e34 => w_seq_region ?_)
  ·have h : x.op = 34 := by simpa using h
   refine ghost_of ⟨rfl, rfl, ?_, trivial⟩
   show D.s (.bool (x.op == 34)) = _
   rw [h]; rfl
  refine J8 ?_;refine J1 ?_
  refine ao_end (w_if rfl (fun h => w_skipJ ?_) fun e35 => w_regJ ?_)
  ·have h : x.op = 35 := by simpa using h
   refine ghost_of ⟨rfl, rfl, ?_, trivial⟩
   show D.s (.bool (x.op == 35)) = _
   rw [h]; rfl
  refine J8 ?_;refine J1 ?_
  refine ao_end ?_
  refine ghost_of ⟨rfl, rfl, ?_, trivial⟩
  show D.s (.bool (x.op == 37)) = _
  simp [isIn, readsL2, e3, e4, e5, e6, e7, e12, e30, e31, e32, e33, e34, e35]
 refine w_if rfl (fun h2 => ?_) fun h2 => ?_
 ·refine w_seq_region_g ?_
  refine J5 ?_;refine J4 ?_;refine J5 ?_;refine J4 ?_
  refine ao_a (e_buildSl (cs := [_, _]) V.h V.h V.h rfl rfl) ak ⟨rfl, by decide, V.h, by decide⟩ ?_
  refine J18 ?_
  refine ao_end (w_ghost (ghost_fr [(1, ([x.a, x.b]).map I, 3)] eH (l := [(2, encInts ([x.a, x.b]))]) ⟨fr_rs c3 rfl, trivial⟩) (w_ret (j_block (j_seq (q_ret1 (d := encInts ([x.a, x.b])) rfl ?_)))))
  exact congrArg encInts (by unfold readsR; rw [if_neg (by simp [h1]), if_pos h2])
 refine ws ?_;refine J8 ?_;refine J1 ?_
 refine ao_end (w_if rfl (fun h3 => ?_) fun h3 => ?_)
 ·have h3 : x.op = 10 := by simpa using h3
  have k105 := k105 (l := x.args) (by have := hx (.inl h3); omega)
  refine ws ?_;refine J5 ?_;refine J4 ?_;refine cl k105 ?_;refine J44 ?_
  refine ao_end (w_ret (j_block (j_seq (q_ret1 (d := encInts x.args) rfl ?_))))
  exact congrArg encInts (by unfold readsR; rw [if_neg (by simp [h1]), if_neg (by simp [h2]), if_pos h3])
 have h3 : ¬ x.op = 10 := by simpa using h3
 refine ws ?_;refine J8 ?_;refine J1 ?_
 refine ao_end (w_if rfl (fun h4 => ?_) fun h4 => ?_)
 ·have h4 : x.op = 38 := by simpa using h4
  have hl := hx (.inr h4)
  have kapp : (x.args.map I).take (x.args.length * 1) = x.args.map I := List.take_of_length_le (by simp)
  refine w_seq_region_g ?_
  refine J5 ?_;refine J4 ?_;refine J5 ?_;refine J4 ?_
  refine ao_a (e_buildSl (cs := [_, _]) V.h V.h V.h rfl rfl) ak ⟨rfl, by decide, V.h, by decide⟩ ?_
  refine J5 ?_;refine J4 ?_
  refine ao_m (e_appR rfl rfl rfl V.h V.h (cells_sl kapp) rfl) ak ⟨V.h, rfl, (by first | omega | exact Nat.le_of_ble_eq_true rfl | (simp; done) | (simp; omega)), (by decide), (by first | rfl | (simp; done) | (simp; omega)), (by unfold maxLen; first | omega | (simp; omega)), (by rw [b3]; first | omega | (simp; omega)), (by first | (simp; done) | (simp; omega))⟩ ?_
  refine J18 ?_
  refine ao_end (w_ghost (ghost_fr [(2, (x.a :: x.b :: x.args).map I, 3)] eH (l := [(2, encInts (x.a :: x.b :: x.args))]) ⟨?_, trivial⟩) (w_ret (j_block (j_seq (q_ret1 (d := encInts (x.a :: x.b :: x.args)) rfl ?_)))))
  ·show frE _ [(2, _, 3)] (.rs 2 0 (2 + x.args.length)) = _
   refine (fr_rs c3 (es := (x.a :: x.b :: x.args).map I) (List.take_of_length_le (by simp; omega))).trans ?_
   rw [Nat.add_comm]; rfl
  ·exact congrArg encInts (by unfold readsR; rw [if_neg (by simp [h1]), if_neg (by simp [h2]), if_neg h3, if_pos h4])
 have h4 : ¬ x.op = 38 := by simpa using h4
 refine w_endB (w_seq_region_g ?_)
 refine J23 ?_
 refine ao_end (w_ghost (ghost_nil (n0 := 2) rfl) (q_ret1 (d := encInts []) rfl ?_))
 exact congrArg encInts (by unfold readsR; rw [if_neg (by simp [h1]), if_neg (by simp [h2]), if_neg h3, if_neg h4])
theorem k137 {x : Argus.End} (hx : x.kind = 5 -> x.ins.op = 10 \/ x.ins.op = 38 -> x.ins.args.length <= 1000) (hy : x.kind = 6 \/ x.kind = 7 -> x.args.length <= 1000) : PCall prog 137 [.agg (encEnd x)] (encInts (readsEnd x)) := by
 have htr : ∀ a ∈ [D.agg (encEnd x)], Tr a := .cons (.agg (trs_end x)) .nil
 refine pcall_of mixed ok137 (by rw [nt137]; rfl) htr (tr_ints _) ?_
 rw [rs137, sk137]
 refine w_seq_region_g ?_
 refine J68 ?_;refine J23 ?_
 refine ao_end (w_ghost (ghost_fr [(0, encEnd x, 69)] eH (l := [(1, .pt (encEnd x))]) eH) (w_assoc (w_seq_region ?_)))
 refine J5 ?_;refine J4 ?_
 refine ao_end (w_seq_blk ?_)
 refine w_cut_g (fun s => Ghost prog s ⟨envL [(1, .pt (encEnd x)), (4, U8 x.kind), (5, B (isIn [2, 8, 9] x.kind))], fun _ => none, 1⟩) (w_seq_region ?_) fun s hg => ⟨_, hg, ?_⟩
 ·refine J8 ?_;refine J1 ?_
  refine ao_end (w_if rfl (fun h => w_skipJ ?_) fun e2 => w_seq_region ?_)
  ·have h : x.kind = 2 := by simpa using h
   refine ghost_of ⟨rfl, rfl, ?_, trivial⟩
   show D.s (.bool (x.kind == 2)) = _
   rw [h]; rfl
  refine J8 ?_;refine J1 ?_
  refine ao_end (w_if rfl (fun h => w_skipJ ?_) fun e8 => w_regJ ?_)
  ·have h : x.kind = 8 := by simpa using h
   refine ghost_of ⟨rfl, rfl, ?_, trivial⟩
   show D.s (.bool (x.kind == 8)) = _
   rw [h]; rfl
  refine J8 ?_;refine J1 ?_
  refine ao_end ?_
  refine ghost_of ⟨rfl, rfl, ?_, trivial⟩
  show D.s (.bool (x.kind == 9)) = _
  simp [isIn, e2, e8]
 refine w_if rfl (fun h1 => ?_) fun h1 => ?_
 ·refine w_seq_region_g ?_
  refine J5 ?_;refine J4 ?_;refine J40 ?_;refine J18 ?_
  refine ao_end (w_ghost (ghost_fr [(1, ([x.a]).map I, 3)] eH (l := [(2, encInts ([x.a]))]) ⟨fr_rs c3 rfl, trivial⟩) (w_ret (j_block (j_seq (q_ret1 (d := encInts ([x.a])) rfl ?_)))))
  exact congrArg encInts (by unfold readsEnd; rw [if_pos h1])
 refine ws ?_;refine J8 ?_;refine J1 ?_
 refine ao_end (w_if rfl (fun h2 => ?_) fun h2 => ?_)
 ·have h2 : x.kind = 3 := by simpa using h2
  refine ws ?_;refine J5 ?_;refine J4 ?_;refine J35 ?_
  refine ao_end (w_if rfl (fun h3 => ?_) fun h3 => ?_)
  ·have h3 : ¬ x.a = -1 := by simpa [bne, ib] using h3
   refine w_seq_region_g ?_
   refine J5 ?_;refine J4 ?_;refine J40 ?_;refine J18 ?_
   refine ao_end (w_ghost (ghost_fr [(1, ([x.a]).map I, 3)] eH (l := [(2, encInts ([x.a]))]) ⟨fr_rs c3 rfl, trivial⟩) (w_ret (j_block (j_seq (q_ret1 (d := encInts ([x.a])) rfl ?_)))))
   exact congrArg encInts (by unfold readsEnd; rw [if_neg (by simp [h1]), if_pos h2, if_pos h3])
  ·have h3 : x.a = -1 := by simpa [bne, ib] using h3
   refine w_endB (w_seq_region_g ?_)
   refine J23 ?_
   refine ao_end (w_ghost (ghost_nil (n0 := 2) rfl) (q_ret1 (d := encInts []) rfl ?_))
   exact congrArg encInts (by unfold readsEnd; rw [if_neg (by simp [h1]), if_pos h2, if_neg (by simp [h3])])
 have h2 : ¬ x.kind = 3 := by simpa using h2
 refine ws ?_;refine J8 ?_;refine J1 ?_
 refine ao_end (w_if rfl (fun h3 => ?_) fun h3 => ?_)
 ·have h3 : x.kind = 5 := by simpa using h3
  have k140 := k140 (x := x.ins) (hx h3)
  refine ws ?_;refine J5 ?_;refine J59 ?_;refine cl k140 ?_;refine J44 ?_
  refine ao_end (w_ret (j_block (j_seq (q_ret1 (d := encInts (readsR x.ins)) rfl ?_))))
  exact congrArg encInts (by unfold readsEnd; rw [if_neg (by simp [h1]), if_neg h2, if_pos h3])
 have h3 : ¬ x.kind = 5 := by simpa using h3
 refine w_cut_g (fun s => Ghost prog s ⟨envL [(1, .pt (encEnd x)), (4, U8 x.kind), (25, B (isIn [6, 7] x.kind))], fun _ => none, 1⟩) (w_seq_region ?_) fun s hg => ⟨_, hg, ?_⟩
 ·refine J8 ?_;refine J1 ?_
  refine ao_end (w_if rfl (fun h => w_skipJ ?_) fun e6 => w_regJ ?_)
  ·have h : x.kind = 6 := by simpa using h
   refine ghost_of ⟨rfl, rfl, ?_, trivial⟩
   show D.s (.bool (x.kind == 6)) = _
   rw [h]; rfl
  refine J8 ?_;refine J1 ?_
  refine ao_end ?_
  refine ghost_of ⟨rfl, rfl, ?_, trivial⟩
  show D.s (.bool (x.kind == 7)) = _
  simp [isIn, e6]
 refine w_if rfl (fun h4 => ?_) fun h4 => ?_
 ·have h5 : x.kind = 6 \/ x.kind = 7 := by simpa [isIn] using h4
  have k105 := k105 (l := x.args) (by have := hy h5; omega)
  refine ws ?_;refine J5 ?_;refine J4 ?_;refine cl k105 ?_;refine J44 ?_
  refine ao_end (w_ret (j_block (j_seq (q_ret1 (d := encInts x.args) rfl ?_))))
  exact congrArg encInts (by unfold readsEnd; rw [if_neg (by simp [h1]), if_neg h2, if_neg h3, if_pos h4])
 refine w_endB (w_seq_region_g ?_)
 refine J23 ?_
 refine ao_end (w_ghost (ghost_nil (n0 := 2) rfl) (q_ret1 (d := encInts []) rfl ?_))
 exact congrArg encInts (by unfold readsEnd; rw [if_neg (by simp [h1]), if_neg h2, if_neg h3, if_neg (by simp [h4])])
end Go.Proofs.Tryz.K
end
section
open Go Go.Abs Go.Proofs Go.Argus
namespace Go.Proofs.Tryz.K
set_option maxRecDepth 10000
noncomputable def cx0 : Ctx := ⟨fun f => tabT.get f, fun _ _ _ => none, fun _ _ => none⟩
theorem cx0_ok : cx0.Ok prog := ⟨mixed, tab_ok, fun _ _ _ _ h => (by cases h), fun _ _ _ h => (by cases h)⟩
theorem p_storeW {off : Nat} {vs cs : List D} (hv : vs.length = 20) (hl : off + 20 <= cs.length) (ho : vs.all D.one = true) : tyOk prog 231 = true /\ vs.length = prog.cellsOf 231 /\ off + prog.cellsOf 231 <= cs.length /\ vs.all D.one = true := by
 rw [c231]; exact ⟨t231, hv, hl, ho⟩
theorem k200 {w : List Int} {m : Nat} (hw : w.length = 20) (hm : m < 1280) : PCall prog 200 [encW w, I m] (B (hasW w m)) := by
 have htr : ∀ a ∈ [encW w, I m], Tr a := .cons (tr_w _) (.cons (.s _) .nil)
 have hi : w[m / 64]? = some w[m / 64] := List.getElem?_eq_getElem oG
 have hg : w.getD (m / 64) 0 = w[m / 64] := by simp [List.getD_eq_getElem?_getD, hi]
 have kquo := quo64 (m := m) oG
 have krem := rem64 m
 have kd := drop_map (f := U64) hi
 refine pcall_of mixed ok200 (by rw [nt200]; rfl) htr (Tr.s _) ?_
 rw [rs200, sk200]
 refine ws ?_;refine J57 ?_;refine J1 ?_;refine er ?_;refine J0 ?_;refine J97 ?_;refine J58 ?_;refine J69 ?_;refine J0 ?_;refine J98 ?_
 refine ao_p (e_shr rfl rfl) ak oG ?_
 refine J138 ?_;refine J8 ?_;refine J1 ?_
 refine ao_end (q_ret1 (d := .s (.bool _)) rfl ?_)
 unfold hasW
 rw [hg]
 rfl
theorem k242 {w : List Int} {n : Int} (hw : w.length = 20) (hn : -1000000 <= n /\ n < 1280) : PCall prog 242 [encW w, I n] (encW (withI w n)) := by
 have htr : ∀ a ∈ [encW w, I n], Tr a := .cons (tr_w _) (.cons (.s _) .nil)
 refine pcall_of mixed ok242 (by rw [nt242]; rfl) htr (tr_w _) ?_
 rw [rs242, sk242]
 refine ws ?_;refine J57 ?_;refine J24 ?_
 refine ao_end (w_assoc (w_seq_region ?_))
 by_cases h0 : 0 <= n
 ·obtain ⟨m, rfl⟩ := Int.eq_ofNat_of_zero_le h0
  have hm : m < 1280 := by omega
  have hi : w[m / 64]? = some w[m / 64] := List.getElem?_eq_getElem oG
  have hg : w.getD (m / 64) 0 = w[m / 64] := by simp [List.getD_eq_getElem?_getD, hi]
  have kquo := quo64 (m := m) oG
  have krem := rem64 m
  have kd := drop_map (f := U64) hi
  have kgeq : decide (0 <= (m : Int)) = true := by simp
  refine J0 ?_;refine J113 ?_
  refine ao_end (w_seq_if rfl (fun _ => w_seq_draw di_r242_2 ?_) fun h => (by cases h))
  refine J0 ?_;refine J97 ?_;refine J58 ?_;refine J69 ?_;refine J0 ?_;refine J98 ?_;refine J139 ?_;refine J140 ?_;refine J58 ?_;refine J25 ?_
  refine ao_endc (by simp [apartT]) (w_seq_region ?_)
  refine J64 ?_;refine J77 ?_
  refine ao_end (q_cell (resD_cellA rfl rfl a231 c231 (takeW (by first | rfl | simp; omega)) t231 (by simp; omega)) ?_)
  simp only [withI, h0, if_true, Int.toNat_natCast, withW, hg, encW, List.map_set]
  rfl
 ·have kgeq : decide (0 <= n) = false := by simpa using h0
  refine J0 ?_;refine J113 ?_
  refine ao_end (w_seq_if rfl (fun h => (by cases h)) fun _ => w_seq_skip (w_seq_region ?_))
  refine J64 ?_;refine J77 ?_
  refine ao_end (q_cell (resD_cellA rfl rfl a231 c231 (takeW (by simp; omega)) t231 (by simp; omega)) ?_)
  simp only [withI, h0, if_false]
theorem k243 {w v : List Int} (hw : w.length = 20) (hv : v.length = 20) : PCall prog 243 [encW w, encW v] (encW (meetW w v)) := by
 have htr : ∀ a ∈ [encW w, encW v], Tr a := .cons (tr_w _) (.cons (tr_w _) .nil)
 refine pcall_of mixed ok243 (by rw [nt243]; rfl) htr (tr_w _) ?_
 rw [rs243, sk243]
 refine ws ?_;refine J57 ?_;refine J57 ?_;refine J24 ?_
 refine ao_end (w_assoc (w_seq_region_g ?_))
 refine J0 ?_
 refine ao_end (w_then (fun s => Ghost prog s ⟨envL [(2, .rp 0 0), (3, .rp 1 0), (4, .rp 2 0)], memL [(0, .cells ((meetW w v).map U64) 231), (1, .cells (v.map U64) 231), (2, .cells (List.replicate 20 (U64 0)) 231)], 3⟩) (w_range (α := Nat)
  (fun k => ⟨envL [(2, .rp 0 0), (3, .rp 1 0), (4, .rp 2 0), (6, I k)], memL [(0, .cells ((meetK w v k).map U64) 231), (1, .cells (v.map U64) 231), (2, .cells (List.replicate 20 (U64 0)) 231)], 3⟩)
  (fun k => k <= 20) (fun k => 20 - k) 0 (ghost_st eH eH) oG ?_) ?_)
 ·intro k hk
  refine J16 ?_
  refine ao_end ⟨_, rfl, fun h => ?_, fun h => ?_⟩
  ·have hlt : k < 20 := by have h : (k : Int) < 20 := by simpa using h
                           omega
   have hlm : (meetK w v k).length = 20 := by simp [hw]
   have hi : (meetK w v k)[k]? = some (meetK w v k)[k] := List.getElem?_eq_getElem oG
   have hj : v[k]? = some v[k] := List.getElem?_eq_getElem oG
   have hg : (meetK w v k).getD k 0 = (meetK w v k)[k] := by simp [List.getD_eq_getElem?_getD, hi]
   have hg' : v.getD k 0 = v[k] := by simp [List.getD_eq_getElem?_getD, hj]
   have kd := drop_map (f := U64) hi
   have kd' := drop_map (f := U64) hj
   refine ws ?_;refine J0 ?_;refine J3 ?_
   refine ao_end (w_drawB di_r243_4 ?_)
   refine J0 ?_;refine J58 ?_;refine J69 ?_;refine J0 ?_;refine J58 ?_
   refine ao_p (e_loadR rfl rfl kd' V.h) ak (p_loadR V.h V.h kd') ?_
   refine J138 ?_;refine J58 ?_;refine J25 ?_
   refine ao_endc (by simp [apartT]) ?_
   refine J11 ?_;refine J0 ?_
   refine ao_end (next_of (k + 1) (ghost_st eH ⟨?_, rfl, rfl, trivial⟩) oG oG)
   rw [up_same]
   simp only [meetK, hg, hg', List.map_set]
   rfl
  ·have hge : ¬ k < 20 := by intro hh; simp at h; omega
   have : k = 20 := by omega
   subst this
   exact .forget _ _ _ _ fun t => envL_of (l := [(2, .rp 0 0), (3, .rp 1 0), (4, .rp 2 0)]) ⟨rfl, rfl, rfl, trivial⟩ t
 ·intro s hg
  have hlu : (meetW w v).length = 20 := by simp [hw]
  generalize meetW w v = u at hg hlu ⊢
  refine ⟨_, hg, w_seq_region ?_⟩
  refine J64 ?_;refine J77 ?_
  refine ao_end (q_cell (resD_cellA rfl rfl a231 c231 (takeW (by simp; omega)) t231 (by simp; omega)) ?_)
  rfl
def maxU : Int := 18446744073709551615
theorem k241 : PCall prog 241 [] (encW (List.replicate 20 maxU)) := by
 exact pcall_ev cx0_ok 100 rfl (by kernel_rfl)
theorem k245 {w : List Int} {x : Ins} (hw : w.length = 20) (hn : x.op = 18 -> 0 <= x.n /\ x.n < 80) (ht : x.op ≠ 18 -> -1000000 <= writesR x /\ writesR x < 1280) : PCall prog 245 [encW w, .agg (encIns x)] (encW (withI w (if x.op = 18 then slotPlace x.n else writesR x))) := by
 have htr : ∀ a ∈ [encW w, .agg (encIns x)], Tr a := .cons (tr_w _) (.cons (.agg (trs_ins x)) .nil)
 refine pcall_of mixed ok245 (by rw [nt245]; rfl) htr (tr_w _) ?_
 rw [rs245, sk245]
 refine ws ?_;refine J57 ?_;refine J67 ?_;refine J24 ?_
 refine ao_end (w_assoc (w_seq_region ?_))
 refine J14 ?_;refine J26 ?_;refine J8 ?_
 refine ao_end (w_seq_if rfl (fun h => ?_) fun h => w_seq_skip (w_seq_draw di_r245_3 ?_))
 ·have h : x.op = 18 := by simpa using h
  have hx := hn h
  have k244 := k244 (n := x.n) oG
  have k242 := k242 (w := w) (n := slotPlace x.n) hw (by unfold slotPlace; omega)
  refine w_assoc (w_seq_draw di_r245_2 ?_)
  refine J64 ?_;refine J14 ?_;refine J26 ?_;refine cl k244 ?_;refine cl k242 ?_;refine J77 ?_
  refine ao_endc (by simp [apartT]) (w_seq_ret (q_cell (resD_cellA rfl rfl a231 c231 (takeW (by simp; omega)) t231 (by simp; omega)) ?_))
  simp [h]
 ·have h : x.op ≠ 18 := by simpa using h
  have k139 := k139 (x := x)
  have k242 := k242 (w := w) (n := writesR x) hw (ht h)
  refine J64 ?_
  refine ao_p (e_loadRA (vs := encIns _) rfl rfl V.h V.h rfl) ak (p_loadRA V.h V.h (by first | (simp; done) | omega | exact Nat.le_of_ble_eq_true rfl)) ?_
  refine cl k139 ?_;refine cl k242 ?_;refine J77 ?_
  refine ao_endc (by simp [apartT]) (q_cell (resD_cellA rfl rfl a231 c231 (takeW (by simp; omega)) t231 (by simp; omega)) ?_)
  simp [h]
end Go.Proofs.Tryz.K
end
section
open Go Go.Abs Go.Proofs Go.Argus
namespace Go.Argus
def toC (x : End) : Bool := decide (0 <= x.others) && isIn [5, 6, 8] x.kind
def toR (x : End) : List Int := if isIn [3, 4] x.kind then [] else x.to :: ((if isIn [2, 8] x.kind then [x.els] else []) ++ (x.whens.map (·.to) ++ (if toC x then [x.others] else [])))
def toB (x : End) : Nat := if isIn [2, 8] x.kind then 2 else 1
theorem toR_spec {x : End} (h : isIn [3, 4] x.kind = false) : (toR x)[0]? = some x.to /\ (isIn [2, 8] x.kind = true -> (toR x)[1]? = some x.els) /\ (∀ (j : Nat) w, x.whens[j]? = some w -> (toR x)[toB x + j]? = some w.to) /\
  (toC x = true -> (toR x)[toB x + x.whens.length]? = some x.others) /\ (toR x).length = toB x + x.whens.length + (if toC x then 1 else 0) := by
 unfold toR toB
 generalize toC x = c
 rw [if_neg (by simp [h])]
 cases h2 : isIn [2, 8] x.kind with
 | true =>
  refine ⟨rfl, fun _ => rfl, fun j w hj => ?_, fun hc => ?_, ?_⟩
  ·have : j < x.whens.length := (List.getElem?_eq_some_iff.1 hj).1
   simp only [if_true, List.singleton_append]
   rw [show 2 + j = j + 1 + 1 by omega, List.getElem?_cons_succ, List.getElem?_cons_succ, List.getElem?_append_left (by simpa using this)]
   simp [hj]
  ·simp only [if_true, List.singleton_append]
   rw [show 2 + x.whens.length = x.whens.length + 1 + 1 by omega, List.getElem?_cons_succ, List.getElem?_cons_succ, List.getElem?_append_right (by simp)]
   rw [if_pos hc]
   simp
  ·cases c <;> simp <;> omega
 | false =>
  refine ⟨rfl, fun h => (by cases h), fun j w hj => ?_, fun hc => ?_, ?_⟩
  ·have : j < x.whens.length := (List.getElem?_eq_some_iff.1 hj).1
   simp only [Bool.false_eq_true, if_false, List.nil_append]
   rw [show 1 + j = j + 1 by omega, List.getElem?_cons_succ, List.getElem?_append_left (by simpa using this)]
   simp [hj]
  ·simp only [Bool.false_eq_true, if_false, List.nil_append]
   rw [show 1 + x.whens.length = x.whens.length + 1 by omega, List.getElem?_cons_succ, List.getElem?_append_right (by simp)]
   rw [if_pos hc]
   simp
  ·cases c <;> simp <;> omega
end Go.Argus
namespace Go.Abs
theorem w_regE {P : Program} {Y : YSpec} {rf : Bool} {Q : Exit -> St -> Prop} {st : St} [YMono Y] {ops : Array Oper} {i : Nat} (h : AOps P Y ops false [] (endQ (Q .normal)) ops.toList st []) : AW P Y rf (.region i ops false) Q st := w_region (rf := rf) (id := i) (AOps.endq h fun _ h => h)
end Go.Abs
namespace Go.Proofs.Tryz.K
set_option maxRecDepth 10000
theorem k156 {x : Argus.End} : PCall prog 156 [.agg (encEnd x)] (.fn (.func 202) [] [.pt (encEnd x)]) := by
 have htr : ∀ a ∈ [D.agg (encEnd x)], Tr a := .cons (.agg (trs_end x)) .nil
 refine pcall_of mixed ok156 (by rw [nt156]; rfl) htr (.fn (by simp) (.cons (.pt (trs_end x)) .nil)) ?_
 rw [rs156, sk156]
 refine w_seq_region_g ?_
 refine J68 ?_
 refine ao_p (e_assign (v := .s .nilFunc) rfl) ak trivial ?_
 refine ao_end (w_ghost (ghost_fr [(0, encEnd x, 69)] eH (l := [(1, .pt (encEnd x))]) eH) (w_seq_region ?_))
 refine J66 ?_;refine J141 ?_
 exact ao_end (q_ret1 rfl rfl)
def ySt (l : Nat) (x : Argus.End) (I' : Nat -> Mem -> Nat -> Prop) (n : Nat) (s : St) : Prop := ∃ m nx, Ghost prog s ⟨envL [(0, .fn (.yield l) [] []), (1, .pt (encEnd x))], m, nx⟩ /\ I' n m nx
theorem s202 {x : Argus.End} (hlen : x.whens.length <= 100000) : SeqA prog 202 [] [.pt (encEnd x)] ((toR x).map fun n => [I n]) := by
 refine seq_of mixed ok202 (by rw [nt202]; rfl) fun l I' Stop m nx hI hStop h0 => ?_
 rw [rs202, sk202]
 by_cases hA : isIn [3, 4] x.kind = true
 ·have hnil : ((toR x).map fun n => [I n]).length = 0 := by simp [toR, hA]
  rw [hnil]
  by_cases h3 : x.kind = 3
  ·have keql : (x.kind == 3) = true := by simpa using h3
   refine w_assoc (w_seq_region ?_)
   refine J5 ?_;refine J4 ?_;refine J56 ?_;refine J2 ?_;refine z fun _ _ => ?_;refine z fun _ _ => ?_;refine z fun _ _ => ?_;refine J19 ?_;refine J2 ?_;refine z fun _ _ => ?_;refine z fun _ _ => ?_;refine z fun _ _ => ?_;refine z fun _ _ => ?_;refine z fun _ _ => ?_;refine J19 ?_
   refine ao_end (w_seq_if rfl (fun h => w_seqN (w_ret (j_seq (q_ret0 (.inl h0))))) fun h => (by cases h))
  ·have h4 : x.kind = 4 := by simpa [isIn, h3] using hA
   have keql : (x.kind == 3) = false := by simpa using h3
   have keql' : (x.kind == 4) = true := by simpa using h4
   refine w_assoc (w_seq_region ?_)
   refine J5 ?_;refine J4 ?_;refine J56 ?_;refine J2 ?_;refine J7 ?_;refine J6 ?_;refine J114 ?_;refine J13 ?_;refine J2 ?_;refine z fun _ _ => ?_;refine z fun _ _ => ?_;refine z fun _ _ => ?_;refine z fun _ _ => ?_;refine z fun _ _ => ?_;refine J19 ?_
   refine ao_end (w_seq_if rfl (fun h => w_seqN (w_ret (j_seq (q_ret0 (.inl h0))))) fun h => (by cases h))
 have hA : isIn [3, 4] x.kind = false := by simpa using hA
 obtain ⟨x0, x1, xw, xo, xl⟩ := toR_spec hA
 have at' : ∀ {k : Nat} {n : Int}, (toR x)[k]? = some n -> ((toR x).map fun n => [I n])[k]? = some [I n] := fun h => by simp [h]
 have hlen' : ((toR x).map fun n => [I n]).length = toB x + x.whens.length + (if toC x then 1 else 0) := by simpa using xl
 have h34 : x.kind ≠ 3 /\ x.kind ≠ 4 := by simpa [isIn] using hA
 refine w_cut_g (ySt l x I' 1) ?_ fun s hs => ?_
 ·have keql : (x.kind == 3) = false := by simpa using h34.1
  have keql' : (x.kind == 4) = false := by simpa using h34.2
  refine ws ?_;refine J5 ?_;refine J4 ?_;refine J56 ?_;refine J2 ?_;refine J7 ?_;refine J6 ?_;refine J114 ?_;refine J13 ?_;refine J2 ?_;refine J115 ?_;refine J7 ?_;refine J6 ?_
  refine ao_gy rfl rfl rfl rfl (by repeat' (first | exact trivial | exact rfl | refine And.intro ?_ ?_)) ⟨rfl, 0, at' x0, h0, fun d m' nx' hp => ?_⟩
  rcases hp with ⟨rfl, hp⟩ | ⟨rfl, hp⟩
  ·refine J33 ?_;refine J13 ?_
   exact ao_end (w_if rfl (fun h => (by cases h)) fun h => w_skipJ ⟨m', nx', ghost_of eH, hp⟩)
  ·refine J33 ?_;refine J13 ?_
   exact ao_end (w_if rfl (fun h => w_ret (j_seq (q_ret0 (.inr hp)))) fun h => (by cases h))
 obtain ⟨m1, nx1, hg, h1⟩ := hs
 refine ⟨_, hg, ?_⟩
 clear hg h0
 refine w_cut_g (ySt l x I' (toB x)) ?_ fun s hs => ?_
 ·have yes : isIn [2, 8] x.kind = true -> (toR x)[1]? = some x.els /\ toB x = 2 := fun h => ⟨x1 h, by simp [toB, h]⟩
  by_cases h2 : x.kind = 2
  ·obtain ⟨y1, y2⟩ := yes (by rw [h2]; rfl)
   have keql : (x.kind == 2) = true := by simpa using h2
   refine ws ?_;refine J5 ?_;refine J4 ?_;refine J56 ?_;refine J2 ?_;refine z fun _ _ => ?_;refine z fun _ _ => ?_;refine z fun _ _ => ?_;refine J19 ?_;refine J2 ?_;refine J115 ?_;refine J7 ?_;refine J6 ?_
   refine ao_gy rfl rfl rfl rfl (by repeat' (first | exact trivial | exact rfl | refine And.intro ?_ ?_)) ⟨rfl, 1, at' y1, h1, fun d m' nx' hp => ?_⟩
   rcases hp with ⟨rfl, hp⟩ | ⟨rfl, hp⟩
   ·refine J33 ?_;refine J19 ?_
    exact ao_end (w_if rfl (fun h => (by cases h)) fun h => w_skipJ ⟨m', nx', ghost_of eH, y2 ▸ hp⟩)
   ·refine J33 ?_;refine J19 ?_
    exact ao_end (w_if rfl (fun h => w_ret (j_seq (q_ret0 (.inr hp)))) fun h => (by cases h))
  ·have keql : (x.kind == 2) = false := by simpa using h2
   by_cases h8 : x.kind = 8
   ·obtain ⟨y1, y2⟩ := yes (by rw [h8]; rfl)
    have keql' : (x.kind == 8) = true := by simpa using h8
    refine ws ?_;refine J5 ?_;refine J4 ?_;refine J56 ?_;refine J2 ?_;refine J7 ?_;refine J6 ?_;refine J114 ?_;refine J13 ?_;refine J2 ?_;refine J115 ?_;refine J7 ?_;refine J6 ?_
    refine ao_gy rfl rfl rfl rfl (by repeat' (first | exact trivial | exact rfl | refine And.intro ?_ ?_)) ⟨rfl, 1, at' y1, h1, fun d m' nx' hp => ?_⟩
    rcases hp with ⟨rfl, hp⟩ | ⟨rfl, hp⟩
    ·refine J33 ?_;refine J19 ?_
     exact ao_end (w_if rfl (fun h => (by cases h)) fun h => w_skipJ ⟨m', nx', ghost_of eH, y2 ▸ hp⟩)
    ·refine J33 ?_;refine J19 ?_
     exact ao_end (w_if rfl (fun h => w_ret (j_seq (q_ret0 (.inr hp)))) fun h => (by cases h))
   ·have keql' : (x.kind == 8) = false := by simpa using h8
    have hb : toB x = 1 := by simp [toB, isIn, h2, h8]
    refine ws ?_;refine J5 ?_;refine J4 ?_;refine J56 ?_;refine J2 ?_;refine J7 ?_;refine J6 ?_;refine J114 ?_;refine J13 ?_;refine J2 ?_;refine z fun _ _ => ?_;refine z fun _ _ => ?_;refine z fun _ _ => ?_;refine z fun _ _ => ?_;refine z fun _ _ => ?_;refine J13 ?_
    exact ao_end (w_if rfl (fun h => (by cases h)) fun h => w_skipJ ⟨m1, nx1, ghost_of eH, hb ▸ h1⟩)
 obtain ⟨m2, nx2, hg, h2⟩ := hs
 refine ⟨_, hg, ?_⟩
 clear hg
 refine w_cut_g (ySt l x I' (toB x + x.whens.length)) (w_seq_region_g ?_) fun s hs => ?_
 ·refine J5 ?_;refine J4 ?_;refine J15 ?_;refine J0 ?_
  refine ao_end (w_range (α := Nat × Mem × Nat) (fun k => ⟨envL [(0, .fn (.yield l) [] []), (1, .pt (encEnd x)), (36, encWhens x.whens), (37, I x.whens.length), (38, I k.1)], k.2.1, k.2.2⟩)
   (fun k => k.1 <= x.whens.length /\ I' (toB x + k.1) k.2.1 k.2.2) (fun k => x.whens.length - k.1) (0, m2, nx2) (ghost_of eH) ⟨by omega, h2⟩ ?_)
  rintro ⟨k, m3, nx3⟩ ⟨hk, hI3⟩
  refine J16 ?_
  refine ao_end ⟨_, rfl, fun h => ?_, fun h => ?_⟩
  ·have hlt : k < x.whens.length := by simpa using h
   have hx : x.whens[k]? = some x.whens[k] := by simp [hlt]
   generalize x.whens[k] = w at hx
   refine ws ?_;refine J108 ?_;refine J109 ?_;refine J24 ?_;refine J136 ?_;refine er ?_;refine J42 ?_;refine J99 ?_;refine J142 ?_
   refine ao_y rfl rfl (by repeat' (first | exact trivial | exact rfl | refine And.intro ?_ ?_)) ⟨rfl, toB x + k, at' (xw k w hx), hI _ _ _ _ _ hI3 oG (fun i hi => mskip oG (mskip oG rfl)), fun d m' nx' hp => ?_⟩
   rcases hp with ⟨rfl, hp⟩ | ⟨rfl, hp⟩
   ·refine J32 ?_
    refine ao_end (w_if rfl (fun h => (by cases h)) fun h => w_end ?_)
    refine J11 ?_;refine J0 ?_
    exact ao_end (next_of (k + 1, m', nx') (ghost_of eH) ⟨by simp only; omega, hp⟩ (by simp only; omega))
   ·refine J32 ?_
    exact ao_end (w_if rfl (fun h => w_ret (j_body (j_seq (q_ret0 (.inr hp))))) fun h => (by cases h))
  ·have hge : ¬ k < x.whens.length := by simpa using h
   have : k = x.whens.length := by simp only at hk; omega
   subst this
   exact ⟨m3, nx3, .forget _ _ _ _ fun t => envL_of (l := [(0, .fn (.yield l) [] []), (1, .pt (encEnd x))]) ⟨rfl, rfl, trivial⟩ t, hI3⟩
 obtain ⟨m3, nx3, hg, h3⟩ := hs
 refine ⟨_, hg, w_seq_region ?_⟩
 refine J5 ?_;refine J4 ?_;refine J61 ?_;refine J2 ?_;refine J7 ?_;refine J6 ?_;refine J20 ?_;refine J27 ?_;refine J7 ?_;refine J6 ?_;refine J20 ?_;refine J63 ?_;refine J27 ?_;refine J7 ?_;refine J6 ?_;refine J20 ?_;refine J63 ?_;refine J9 ?_
 refine ao_end (w_if rfl (fun h => ?_) fun h => ?_)
 ·have hc : toC x = true := by
   revert h; unfold toC isIn
   simp [ib, or_assoc]
  refine w_regE ?_
  refine J42 ?_;refine J5 ?_;refine J4 ?_
  refine ao_y rfl rfl (by repeat' (first | exact trivial | exact rfl | refine And.intro ?_ ?_)) ⟨rfl, _, at' (xo hc), h3, fun d m' nx' hp => ?_⟩
  refine ao_end (q_end0 ?_)
  rcases hp with ⟨rfl, hp⟩ | ⟨rfl, hp⟩
  ·left; rw [hlen', if_pos hc]; exact hp
  ·exact .inr hp
 ·have hc : toC x = false := by
   revert h; unfold toC isIn
   simp [ib, and_assoc]
  refine w_end (q_end0 (.inl ?_))
  rw [hlen', hc]; exact h3
end Go.Proofs.Tryz.K
end
section
open Go Go.Abs Go.Proofs Go.Argus
namespace Go.Argus
def aloneB (x : End) (b : Int) : Bool := eqb x.to b && eqb ((toR x).count b : Nat) 1
theorem len_toR (x : End) : (toR x).length <= x.whens.length + 3 := by
 unfold toR
 split
 ·simp
 ·simp only [List.length_cons, List.length_append, List.length_map]
  split <;> split <;> simp <;> omega
end Go.Argus
namespace Go.Proofs.Tryz.K
set_option maxRecDepth 10000
theorem k246 {x : Argus.End} {b : Int} (hlen : x.whens.length <= 1000) : PCall prog 246 [.agg (encEnd x), I b] (B (aloneB x b)) := by
 have htr : ∀ a ∈ [D.agg (encEnd x), I b], Tr a := .cons (.agg (trs_end x)) (.cons (.s _) .nil)
 have k156 := k156 (x := x)
 have hl := len_toR x
 refine pcall_of mixed ok246 (by rw [nt246]; rfl) htr (Tr.s _) ?_
 rw [rs246, sk246]
 refine w_seq_region_g ?_
 refine J68 ?_;refine J86 ?_;refine J1 ?_
 refine ao_end (w_ghost (ghost_fr [(0, encEnd x, 69), (1, [I b], 3)] eH (l := [(2, .pt (encEnd x)), (3, .pt [I b])]) eH) (w_seq_region ?_))
 refine J24 ?_
 refine ao_w (e_store1 (d := .s (.int _ _)) (cs' := [_]) rfl rfl rfl rfl rfl) ak (p_store V.h V.h (by first | (simp; done) | exact ⟨rfl, Nat.le_of_ble_eq_true rfl⟩ | (simp; omega)) rfl) ?_
 refine ao_end ?_
 refine w_cut_g (fun s => ∃ n', Ghost prog s ⟨envL [(2, .pt (encEnd x)), (3, .pt [I b]), (5, .rp 2 0)], memL [(2, .cells [I ((toR x).count b : Nat)] 3)], n'⟩) (w_seq_region ?_) fun s hs => ?_
 ·refine J72 ?_;refine cl k156 ?_
  refine ao_end (w_block ?_)
  refine ⟨rfl, trivial, 202, [], [.pt (encEnd x)], (toR x).map (fun n => [I n]), fun k m nx => m 2 = some (.cells [I (((toR x).take k).count b : Nat)] 3) /\ 3 <= nx, rfl, s202 oG, ?_, ⟨rfl, by simp⟩, ?_, ?_⟩
  ·intro y hy
   obtain ⟨n, _, rfl⟩ := List.mem_map.1 hy
   exact ⟨rfl, .cons (.s _) .nil⟩
  ·rintro k m nx y hy ⟨hrow, hnx⟩
   simp only [List.getElem?_map, Option.map_eq_some_iff] at hy
   obtain ⟨n, hn, rfl⟩ := hy
   have hk : k < (toR x).length := (List.getElem?_eq_some_iff.1 hn).1
   have hc : ((toR x).take (k + 1)).count b = ((toR x).take k).count b + (if n = b then 1 else 0) := by
    rw [List.take_add_one, hn, List.count_append]
    by_cases e : n = b
    ·subst e; simp
    ·simp [e]
   have hle : ((toR x).take k).count b <= k := Nat.le_trans List.count_le_length (by simp; omega)
   generalize ((toR x).take k).count b = c at hrow hc hle
   refine w_regE ?_
   refine J3 ?_
   refine ao_end (show AW _ _ _ _ _ _ from w_block (w_seq_region ?_))
   refine J0 ?_;refine J4 ?_;refine J8 ?_
   refine ao_end (w_if rfl (fun h => ?_) fun h => ?_)
   ·have h : n = b := by simpa using h
    refine w_regE ?_
    refine J53 ?_;refine J11 ?_
    refine ao_w (e_store1 (d := .s (.int _ _)) (cs' := [_]) rfl rfl hrow rfl rfl) ak (p_store V.h V.h (by first | (simp; done) | exact ⟨rfl, Nat.le_of_ble_eq_true rfl⟩ | (simp; omega)) rfl) ?_
    refine ao_end ?_
    refine ⟨?_, by dsimp only; omega⟩
    dsimp only
    refine (up_same _ _ _).trans ?_
    rw [hc, if_pos h]; simp
   ·have h : ¬ n = b := by simpa using h
    exact w_end ⟨by rw [hc, if_neg h]; exact hrow, hnx⟩
  ·rintro m nx ⟨h1, h2⟩
   refine ⟨nx, ghost_st eH ⟨?_, trivial⟩⟩
   rw [h1, List.length_map, List.take_length]
 obtain ⟨n', hg⟩ := hs
 refine ⟨_, hg, w_seq_region ?_⟩
 refine J5 ?_;refine J4 ?_;refine J4 ?_;refine J8 ?_;refine J2 ?_;refine J52 ?_;refine J20 ?_;refine J9 ?_;refine J1 ?_
 refine ao_end (q_ret1 (d := .s (.bool _)) rfl ?_)
 simp [aloneB, eqb, ib]
theorem k258 {f : FuncId} {cs : List D} {xs : List Int} (hs : SeqA prog f [] cs (xs.map fun n => [I n])) (ht : Tr (.fn (.func f) [] cs)) (hlen : xs.length <= 100000) : OCall prog 258 [.z, .fn (.func f) [] cs] (xs.map I) xs.length 3 := by
 have htr : ∀ a ∈ [D.z, .fn (.func f) [] cs], Tr a := .cons .z (.cons ht .nil)
 refine ocall_of mixed ok258 (by rw [nt258]; rfl) htr (.map fun _ => .s _) ?_
 rw [rs258, sk258]
 refine ws ?_
 refine ao_a (e_box1 (d := .z) rfl rfl) ak rfl ?_
 refine J23 ?_
 refine ao_end ?_
 refine w_cut_g (fun s => (xs = [] /\ ∃ n', Ghost prog s ⟨envL [(2, .rp 0 0)], memL [(0, .cells [.z] 27)], n'⟩) \/ ∃ r n', 0 < r /\ Ghost prog s ⟨envL [(2, .rp 0 0)], memL [(0, .cells [.rs r 0 xs.length] 27), (r, .cells (xs.map I) 3)], n'⟩) (w_seq_region ?_) fun s hs => ?_
 ·refine J42 ?_
  refine ao_end (w_block ?_)
  refine ⟨rfl, trivial, f, [], cs, xs.map (fun n => [I n]), fun k m nx => 1 <= nx /\ ((k = 0 /\ m 0 = some (.cells [.z] 27)) \/ (0 < k /\ ∃ r, 0 < r /\ r < nx /\ m 0 = some (.cells [.rs r 0 k] 27) /\ m r = some (.cells ((xs.take k).map I) 3))), rfl, hs, ?_, ⟨by simp, .inl ⟨rfl, rfl⟩⟩, ?_, ?_⟩
  ·intro y hy
   obtain ⟨n, _, rfl⟩ := List.mem_map.1 hy
   exact ⟨rfl, .cons (.s _) .nil⟩
  ·rintro k m nx y hy ⟨hnx, hI⟩
   simp only [List.getElem?_map, Option.map_eq_some_iff] at hy
   obtain ⟨n, hn, rfl⟩ := hy
   have hk : k < xs.length := (List.getElem?_eq_some_iff.1 hn).1
   have htk : (xs.take (k + 1)).map I = (xs.take k).map I ++ [I n] := by
    rw [List.take_add_one, hn]; simp
   refine w_regE ?_
   refine J3 ?_
   refine ao_end (show AW _ _ _ _ _ _ from w_block (w_regE ?_))
   rcases hI with ⟨rfl, hrow⟩ | ⟨hk0, r, hr0, hrn, hrow, hrow2⟩
   ·refine J53 ?_;refine J0 ?_;refine J40 ?_;refine J116 ?_
    refine ao_w (e_store1 (d := .rs _ _ _) (cs' := [_]) rfl rfl (mskip oG (mskip oG hrow)) rfl rfl) ak (p_store V.h V.h (by first | (simp; done) | exact ⟨rfl, Nat.le_of_ble_eq_true rfl⟩ | (simp; omega)) rfl) ?_
    refine ao_end ?_
    refine ⟨by dsimp only; omega, .inr ⟨by omega, nx + 1, by omega, by dsimp only; omega, ?_, ?_⟩⟩
    ·dsimp only; exact (up_same _ _ _).trans rfl
    ·dsimp only; exact (mskip oG (up_same _ _ _)).trans (by rw [htk]; rfl)
   ·have hlk : ((xs.take k).map I).length = k := by simp; omega
    refine J53 ?_;refine J0 ?_;refine J40 ?_;refine J143 ?_
    refine ao_w (e_store1 (d := .rs _ _ _) (cs' := [_]) rfl rfl (mskip oG (mskip oG (mskip oG hrow))) rfl rfl) ak (p_store V.h V.h (by first | (simp; done) | exact ⟨rfl, Nat.le_of_ble_eq_true rfl⟩ | (simp; omega)) rfl) ?_
    refine ao_end ?_
    refine ⟨by dsimp only; omega, .inr ⟨by omega, nx + 1, by omega, by dsimp only; omega, ?_, ?_⟩⟩
    ·dsimp only; exact (up_same _ _ _).trans rfl
    ·dsimp only; exact (mskip oG (up_same _ _ _)).trans (by rw [htk]; rfl)
  ·rintro m nx ⟨hnx, hI⟩
   rw [List.length_map] at hI
   rcases hI with ⟨h0, hrow⟩ | ⟨hk0, r, hr0, hrn, hrow, hrow2⟩
   ·exact .inl ⟨List.length_eq_zero_iff.1 h0, nx, ghost_st eH ⟨hrow, trivial⟩⟩
   ·refine .inr ⟨r, nx, hr0, ghost_st eH ⟨hrow, ?_, trivial⟩⟩
    rw [hrow2, List.take_length]
 rcases hs with ⟨rfl, n', hg⟩ | ⟨r, n', hr, hg⟩
 ·refine ⟨_, hg, w_seq_region_g ?_⟩
  refine J26 ?_;refine J23 ?_
  refine ao_end ⟨_, .nilrow _ _ _ 4 3 rfl, q_ret1 rfl ⟨n', ?_, up_same _ _ _⟩⟩
  rfl
 ·refine ⟨_, hg, w_seq_region ?_⟩
  refine J26 ?_;refine J18 ?_
  refine ao_end (q_ret1 rfl ⟨r, rfl, ?_⟩)
  simp [memL]; omega
theorem k247 {f : FuncId} {cs : List D} {xs : List Int} (hs : SeqA prog f [] cs (xs.map fun n => [I n])) (ht : Tr (.fn (.func f) [] cs)) (hlen : xs.length <= 100000) : OCall prog 247 [.fn (.func f) [] cs] (xs.map I) xs.length 3 := by
 have htr : ∀ a ∈ [.fn (.func f) [] cs], Tr a := .cons ht .nil
 refine ocall_of mixed ok247 (by rw [nt247]; rfl) htr (.map fun _ => .s _) ?_
 rw [rs247, sk247]
 have k258 := k258 hs ht hlen
 refine ws ?_;refine J23 ?_;refine er ?_;refine J42 ?_
 refine ao_oc k258 rfl (by repeat' (first | exact trivial | exact rfl | refine And.intro ?_ ?_)) ?_
 refine J18 ?_
 exact ao_end (q_ret1 rfl ⟨0, rfl, rfl⟩)
end Go.Proofs.Tryz.K
end
section
open Go Go.Abs Go.Proofs Go.Argus
namespace Go.Abs
section
variable {P : Program} {env : Env} {m : Mem} {nx : Nat} {x y : Operand} {t p : TypeId} {k : IntKind} {n n' : Int}
theorem e_subK (hx : (opd env x).core = .s (.int .i64 n)) (hy : (opd env y).core = .s (.int .i64 n')) {r : Int} (hd : n - n' = r /\ -9223372036854775808 <= r /\ r <= 9223372036854775807) : Ef P (.binOp .sub t x y p) env m nx ⟨IntKind.i64 = IntKind.i64, .s (.int .i64 r), [], [], 0⟩ := by
 obtain ⟨rfl, h⟩ := hd
 exact e_sub hx hy h
theorem e_idxRi {j i l : Nat} {e : TypeId} {r : Row} (hx : (opd env x).core = .rs j 0 l) (hy : (opd env y).core = .s (.int k (i : Int))) (hm : m j = some r) (he : elemP P t = e) (hs : P.cellsOf e = 1) :
  Ef P (.indexAddr t x y) env m nx ⟨slT P t = true /\ i < l, .rp j i, [], [j], 0⟩ := by
 have h := e_idxR (P := P) (env := env) (m := m) (nx := nx) (t := t) hx hy hm he hs
 have h1 : 0 + ((i : Int)).toNat * 1 = i := by simp
 have h2 : (slT P t = true /\ (0 : Int) <= (i : Int) /\ (i : Int) < l) = (slT P t = true /\ i < l) := by
  apply propext; constructor
  ·rintro ⟨a, _, b⟩; exact ⟨a, by omega⟩
  ·rintro ⟨a, b⟩; exact ⟨a, by omega, by omega⟩
 rw [h1, h2] at h
 exact h
theorem up_up {α : Type} (f : Nat -> α) (i : Nat) (a b : α) : up (up f i a) i b = up f i b := by
 funext j; simp only [up]; split <;> rfl
variable {Y : YSpec} {rf : Bool} {Q : Exit -> St -> Prop} {st : St} {id id2 i1 i3 : Nat} {rc ri : Array Oper} {body : Code} {α : Type} {cf : List (Nat × Nat)} {u : Nat}
theorem w_forD [YMono Y] (hi : drawInfo rc = some cf) (S : α -> St) (J : α -> Prop) (μ : α -> Nat) (x₀ : α) (hg : Ghost P st (S x₀)) (hJ : J x₀)
  (h : ∀ x, J x -> AOps P Y rc true cf (endQ fun s => ∃ g, opd s.env (.tmp u) = .s (.bool g) /\ (g = true -> AW P Y rf body (bodyQ id2 id (fun s => AOps P Y ri false [] (endQ (NextS P S J μ x)) ri.toList s []) Q) s) /\ (g = false -> Q .normal s)) rc.toList (S x) []) :
  ∃ st', Ghost P st st' /\ AW P Y rf (.block id (.loop (.seq (.seq (.region i1 rc true) (.cond (.tmp u) .skip (.exit id))) (.seq (.block id2 body) (.region i3 ri false))))) Q st' := by
 refine w_loopS (Q := blockQ id Q) S J μ x₀ hg hJ (fun x hx => ?_) (a := .skip) fun _ h => h
 refine w_assoc (w_draw (rf := rf) (id := i1) hi (AOps.endq (h x hx) fun s hs => ?_))
 obtain ⟨g, h1, h2, h3⟩ := hs
 refine ⟨s, .refl s, w_seq_if h1 (fun hgt => ?_) fun hgf => ?_⟩
 ·exact w_seq_skip (body_of (h2 hgt))
 ·refine w_seq_exit ?_
  simp only [seqQ, blockQ, if_true]
  exact h3 hgf
theorem ghost_mem {l : List (Nat × D)} {m' : Mem} (h : EnvHas l env) (hm : m = m') : Ghost P ⟨env, m, nx⟩ ⟨envL l, m', nx⟩ := hm ▸ ghost_of h
end
end Go.Abs
namespace Go.Argus
def swapAt (l : List Int) (j : Nat) : List Int := (l.set (j + 1) (l.getD j 0)).set j (l.getD (j + 1) 0)
def insJ (l : List Int) : Nat -> List Int
 | 0 => l
 | j + 1 => if l.getD (j + 1) 0 < l.getD j 0 then insJ (swapAt l j) j else l
def sortK (l : List Int) : Nat -> List Int
 | 0 => l
 | k + 1 => insJ (sortK l k) (k + 1)
def sortI (l : List Int) : List Int := sortK l (l.length - 1)
@[simp] theorem len_swapAt (l : List Int) (j : Nat) : (swapAt l j).length = l.length := by simp [swapAt]
@[simp] theorem len_insJ : ∀ (j : Nat) (l : List Int), (insJ l j).length = l.length
 | 0, l => rfl
 | j + 1, l => by simp only [insJ]; split <;> simp [len_insJ j]
@[simp] theorem len_sortK (l : List Int) : ∀ k, (sortK l k).length = l.length
 | 0 => rfl
 | k + 1 => by simp [sortK, len_sortK l k]
@[simp] theorem len_sortI (l : List Int) : (sortI l).length = l.length := len_sortK l _
end Go.Argus
namespace Go.Proofs.Tryz.K
set_option maxRecDepth 10000
theorem k227 {a : Int} : PCall prog 227 [I a] (B false) := by
 refine pcall_of mixed ok227 (by rw [nt227]; rfl) (by simp [Tr.s]) (Tr.s _) ?_
 rw [rs227, sk227]
 refine ws ?_;refine J1 ?_;refine er ?_;refine J0 ?_;refine J0 ?_;refine J35 ?_;refine J1 ?_
 refine ao_end (q_ret1 (d := .s (.bool _)) rfl ?_)
 simp [bne]
theorem k184 {a b : Int} : PCall prog 184 [I a, I b] (B (decide (a < b))) := by
 refine pcall_of mixed ok184 (by rw [nt184]; rfl) (by simp [Tr.s]) (Tr.s _) ?_
 rw [rs184, sk184]
 refine ws ?_;refine J1 ?_;refine er ?_;refine J0 ?_;refine cl k227 ?_;refine J2 ?_;refine z fun _ _ => ?_;refine z fun _ _ => ?_;refine z fun _ _ => ?_;refine J13 ?_;refine J2 ?_;refine J10 ?_;refine J10 ?_;refine J94 ?_;refine J13 ?_;refine J1 ?_
 exact ao_end (q_ret1 (d := .s (.bool _)) rfl rfl)
theorem k178 {m : Mem} {nx i n : Nat} {l : List Int} (hi : i < nx) (hm : m i = some (.cells (l.map I) 3)) (hl : l.length = n) (hn : n <= 12) :
  ACalls prog 178 [.rs i 0 n, I 0, I n] m nx (fun r m' nx' => r = .tup [] /\ nx' = nx /\ m' = up m i (some (.cells ((sortI l).map I) 3))) := by
 refine acall_of mixed ok178 (by rw [nt178]; rfl) ?_
 rw [rs178, sk178]
 have hid : up m i (some (.cells (l.map I) 3)) = m := by
  funext j; simp only [up]; split
  ·rename_i e; rw [e, hm]
  ·rfl
 refine w_seq_region_g ?_
 refine J0 ?_;refine J11 ?_;refine J3 ?_
 refine ao_end (w_for (α := Nat) (fun k => ⟨envL [(0, .rs i 0 n), (1, I 0), (2, I n), (6, I (k + 1 : Nat))], up m i (some (.cells ((sortK l k).map I) 3)), nx⟩) (fun k => k <= n - 1) (fun k => n - k) 0 (ghost_mem eH hid.symm) oG ?_)
 intro k hk
 refine J0 ?_;refine J0 ?_;refine J16 ?_
 refine ao_end ⟨_, rfl, fun h => ?_, fun h => ?_⟩
 ·have hlt : k + 1 < n := by have : ((k + 1 : Nat) : Int) < n := by simpa using h
                             omega
  refine w_seq_region_g ?_
  refine J0 ?_;refine J3 ?_
  refine ao_end (w_forD di_r178_4 (α := List Int × Nat) (fun s => ⟨envL [(0, .rs i 0 n), (1, I 0), (2, I n), (6, I (k + 1 : Nat)), (7, I s.2)], up m i (some (.cells (s.1.map I) 3)), nx⟩) (fun s => s.1.length = n /\ s.2 <= k + 1 /\ insJ s.1 s.2 = sortK l (k + 1)) (fun s => s.2) (sortK l k, k + 1) (ghost_of eH) ⟨by simp [hl], by simp, rfl⟩ ?_)
  rintro ⟨d, j⟩ ⟨hd, hj, hs⟩
  simp only at hd hj hs
  cases j with
  | zero =>
   have kgtr : decide ((0 : Int) < ((0 : Nat) : Int)) = false := rfl
   refine J0 ?_;refine J0 ?_;refine J117 ?_;refine J2 ?_;refine z fun _ _ => ?_;refine z fun _ _ => ?_;refine z fun _ _ => ?_;refine z fun _ _ => ?_;refine z fun _ _ => ?_;refine z fun _ _ => ?_;refine z fun _ _ => ?_;refine z fun _ _ => ?_;refine z fun _ _ => ?_;refine z fun _ _ => ?_;refine J13 ?_
   refine ao_endc (by simp [apartT]) ⟨_, rfl, fun h => (by cases h), fun h => ?_⟩
   have hs : d = sortK l (k + 1) := hs
   subst hs
   show AOps _ _ _ _ _ _ _ _ _
   refine J0 ?_;refine J11 ?_;refine J3 ?_
   exact ao_end (next_of (k + 1) (ghost_of eH) oG oG)
  | succ j =>
   have ha : d[j + 1]? = some d[j + 1] := List.getElem?_eq_getElem oG
   have hb : d[j]? = some d[j] := List.getElem?_eq_getElem oG
   have ga : d.getD (j + 1) 0 = d[j + 1] := by simp [List.getD_eq_getElem?_getD, ha]
   have gb : d.getD j 0 = d[j] := by simp [List.getD_eq_getElem?_getD, hb]
   have kd := drop_map (f := I) ha
   have kd' := drop_map (f := I) hb
   generalize hA : d[j + 1] = a at ha ga kd
   generalize hB : d[j] = b at hb gb kd'
   clear hA hB
   have kgtr : decide ((0 : Int) < ((j + 1 : Nat) : Int)) = true := by simp
   have ksub : ((j + 1 : Nat) : Int) - 1 = (j : Int) /\ -9223372036854775808 <= (j : Int) /\ (j : Int) <= 9223372036854775807 := by omega
   refine J0 ?_;refine J0 ?_;refine J117 ?_;refine J2 ?_;refine J118 ?_;refine J10 ?_
   refine ao_g rfl rfl (e_idxRi rfl rfl (up_same _ _ _) V.h V.h) (fun hc => ⟨ak, ⟨V.h, by omega⟩⟩) ?_
   refine ao_g rfl rfl (e_loadR rfl (up_same _ _ _) kd V.h) (fun hc => ⟨ak, (p_loadR V.h V.h kd)⟩) ?_
   refine J118 ?_;refine J10 ?_
   refine ao_g rfl rfl (e_subK rfl rfl ksub) (fun hc => ⟨ak, rfl⟩) ?_
   refine ao_g rfl rfl (e_idxRi rfl rfl (up_same _ _ _) V.h V.h) (fun hc => ⟨ak, ⟨V.h, by omega⟩⟩) ?_
   refine ao_g rfl rfl (e_loadR rfl (up_same _ _ _) kd' V.h) (fun hc => ⟨ak, (p_loadR V.h V.h kd')⟩) ?_
   refine gc k184 ?_;refine J19 ?_
   refine ao_endc (by simp [apartT]) ⟨_, rfl, fun h => ?_, fun h => ?_⟩
   ·have h : a < b := by simpa using h
    refine w_drawB di_r178_6 ?_
    refine J12 ?_;refine J0 ?_;refine J12 ?_;refine J0 ?_;refine J84 ?_;refine J12 ?_;refine J0 ?_;refine J84 ?_;refine J88 ?_
    refine ao_p (e_loadR rfl (up_same _ _ _) kd' V.h) ak (p_loadR V.h V.h kd') ?_
    refine J12 ?_;refine J0 ?_;refine J88 ?_;refine J144 ?_;refine J88 ?_;refine J119 ?_;refine J88 ?_;refine J119 ?_
    refine ao_endc (by simp [apartT]) ?_
    refine J0 ?_;refine J84 ?_;refine J3 ?_
    refine ao_end (next_of (swapAt d j, j) (ghost_mem eH ?_) ⟨by simp [hd], by simp only; omega, ?_⟩ (by simp only; omega))
    ·rw [up_up, up_up]
     simp only [swapAt, ga, gb, List.map_set]
    ·rw [<- hs]; simp only [insJ, ga, gb, if_pos h]
   ·have h : ¬ a < b := by simpa using h
    have hs : d = sortK l (k + 1) := by rw [<- hs]; simp only [insJ, ga, gb, if_neg h]
    subst hs
    show AOps _ _ _ _ _ _ _ _ _
    refine J0 ?_;refine J11 ?_;refine J3 ?_
    exact ao_end (next_of (k + 1) (ghost_of eH) oG oG)
 ·have hge : ¬ k + 1 < n := by have h : ¬ ((k + 1 : Nat) : Int) < n := by simpa using h
                               omega
  refine q_end0 ⟨rfl, rfl, ?_⟩
  have : k = n - 1 := by omega
  subst this
  simp only [sortI, hl]
theorem k151 {m : Mem} {nx i n : Nat} {l : List Int} {lim : Int} (hi : i < nx) (hm : m i = some (.cells (l.map I) 3)) (hl : l.length = n) (hn : n <= 12) :
  ACalls prog 151 [.rs i 0 n, I 0, I n, I lim] m nx (fun r m' nx' => r = .tup [] /\ nx' = nx /\ m' = up m i (some (.cells ((sortI l).map I) 3))) := by
 refine acall_of mixed ok151 (by rw [nt151]; rfl) ?_
 rw [rs151, sk151]
 refine ws ?_;refine J1 ?_
 refine ao_end (w_seq_region_g ?_)
 refine J1 ?_
 refine ao_end ⟨_, ghost_of (l := [(0, .rs i 0 n), (1, I 0), (2, I n)]) eH, w_block (AW_loop (fun s => s = ⟨envL [(0, .rs i 0 n), (1, I 0), (2, I n)], m, nx⟩) (fun _ => 0) rfl fun s hs => ?_)⟩
 subst hs
 refine w_block (w_seq_region ?_)
 refine J0 ?_;refine J0 ?_;refine J71 ?_;refine J3 ?_
 refine ao_end (w_assoc (w_seq_region ?_))
 refine J0 ?_
 refine ao_p (e_leq rfl rfl) ak rfl ?_
 refine ao_end (w_seq_if rfl (fun h => ?_) fun h => ?_)
 ·refine w_assoc (w_seq_region ?_)
  refine J12 ?_;refine J0 ?_;refine J0 ?_
  refine ao_ac (k178 hi hm hl hn) rfl (by repeat' (first | exact trivial | exact rfl | refine And.intro ?_ ?_)) fun r m' nx' hp => ?_
  obtain ⟨rfl, rfl, rfl⟩ := hp
  exact ao_end (w_seq_ret (j_block (j_seq (j_block (q_ret0 ⟨rfl, rfl, rfl⟩)))))
 ·have : ¬ ((n : Int) - 0 <= 12) := by simpa using h
  omega
theorem k152 {n : Nat} (hn : n <= 12) : ∃ r, PCall prog 152 [.s (.int .u64 (IntKind.u64.wrap (n : Int)))] (I r) := by
 match n, hn with
 | 0, _ => exact ⟨0, pcall_ev cx0_ok 100 rfl (by kernel_rfl)⟩
 | 1, _ => exact ⟨1, pcall_ev cx0_ok 100 rfl (by kernel_rfl)⟩
 | 2, _ => exact ⟨2, pcall_ev cx0_ok 100 rfl (by kernel_rfl)⟩
 | 3, _ => exact ⟨2, pcall_ev cx0_ok 100 rfl (by kernel_rfl)⟩
 | 4, _ => exact ⟨3, pcall_ev cx0_ok 100 rfl (by kernel_rfl)⟩
 | 5, _ => exact ⟨3, pcall_ev cx0_ok 100 rfl (by kernel_rfl)⟩
 | 6, _ => exact ⟨3, pcall_ev cx0_ok 100 rfl (by kernel_rfl)⟩
 | 7, _ => exact ⟨3, pcall_ev cx0_ok 100 rfl (by kernel_rfl)⟩
 | 8, _ => exact ⟨4, pcall_ev cx0_ok 100 rfl (by kernel_rfl)⟩
 | 9, _ => exact ⟨4, pcall_ev cx0_ok 100 rfl (by kernel_rfl)⟩
 | 10, _ => exact ⟨4, pcall_ev cx0_ok 100 rfl (by kernel_rfl)⟩
 | 11, _ => exact ⟨4, pcall_ev cx0_ok 100 rfl (by kernel_rfl)⟩
 | 12, _ => exact ⟨4, pcall_ev cx0_ok 100 rfl (by kernel_rfl)⟩
theorem k89 {m : Mem} {nx i n : Nat} {l : List Int} (hi : i < nx) (hm : m i = some (.cells (l.map I) 3)) (hl : l.length = n) (hn : n <= 12) :
  ACalls prog 89 [.rs i 0 n] m nx (fun r m' nx' => r = .tup [] /\ nx' = nx /\ m' = up m i (some (.cells ((sortI l).map I) 3))) := by
 refine acall_of mixed ok89 (by rw [nt89]; rfl) ?_
 rw [rs89, sk89]
 obtain ⟨lim, k152⟩ := k152 hn
 have hrow := hm
 refine ws ?_;refine J12 ?_;refine J120 ?_;refine J3 ?_
 refine ao_end (w_regE ?_)
 refine J12 ?_;refine J0 ?_;refine J0 ?_
 refine ao_p (e_conv rfl V.h) ak V.h ?_
 refine cl k152 ?_
 refine ao_ac (k151 hi hm hl hn) rfl (by repeat' (first | exact trivial | exact rfl | refine And.intro ?_ ?_)) fun r m' nx' hp => ?_
 obtain ⟨rfl, rfl, rfl⟩ := hp
 exact ao_end (q_end0 ⟨rfl, rfl, rfl⟩)
end Go.Proofs.Tryz.K
end
section
open Go Go.Abs Go.Proofs Go.Argus
namespace Go.Abs
section
variable {P : Program} {env : Env} {m : Mem} {nx : Nat} {x y : Operand} {t p : TypeId} {k : IntKind} {n n' : Int}
theorem e_idxRo {j i l off : Nat} {e : TypeId} {r : Row} (hx : (opd env x).core = .rs j off l) (hy : (opd env y).core = .s (.int k (i : Int))) (hm : m j = some r) (he : elemP P t = e) (hs : P.cellsOf e = 1) :
  Ef P (.indexAddr t x y) env m nx ⟨slT P t = true /\ i < l, .rp j (off + i), [], [j], 0⟩ := by
 have h := e_idxR (P := P) (env := env) (m := m) (nx := nx) (t := t) hx hy hm he hs
 have h1 : off + ((i : Int)).toNat * 1 = off + i := by simp
 have h2 : (slT P t = true /\ (0 : Int) <= (i : Int) /\ (i : Int) < l) = (slT P t = true /\ i < l) := by
  apply propext; constructor
  ·rintro ⟨a, _, b⟩; exact ⟨a, by omega⟩
  ·rintro ⟨a, b⟩; exact ⟨a, by omega, by omega⟩
 rw [h1, h2] at h
 exact h
theorem e_sliceLo {i l a : Nat} {cs : List D} {e : TypeId} (hx : (opd env x).core = .rs i 0 l) (hm : m i = some (.cells cs e)) (he : elemP P t = e) (hs : P.cellsOf e = 1) (ha : (opd env y).core = .s (.int .i64 (a : Int))) :
  Ef P (.slice t x (some y) none none) env m nx ⟨slT P t = true /\ a <= l, .rs i a (l - a), [], [i], 0⟩ := by
 have h := e_sliceR (P := P) (env := env) (m := m) (nx := nx) (t := t) (lo := some y) (hi := none) (a := (a : Int)) (b := (l : Int)) hx hm he hs (by simp [bndD, ha, D.int?]) (by simp [bndD])
 have h1 : 0 + ((a : Int)).toNat * 1 = a := by simp
 have h3 : ((l : Int) - (a : Int)).toNat = l - a := by omega
 have h2 : ((slT P t = true /\ 1 = 1) /\ (0 : Int) <= (a : Int) /\ (a : Int) <= (l : Int) /\ (l : Int) <= (l : Int)) = (slT P t = true /\ a <= l) := by
  apply propext; constructor
  ·rintro ⟨⟨a, _⟩, _, b, _⟩; exact ⟨a, by omega⟩
  ·rintro ⟨a, b⟩; exact ⟨⟨a, rfl⟩, by omega, by omega, by omega⟩
 rw [h1, h2, h3] at h
 exact h
theorem e_sliceHi {i l b : Nat} {cs : List D} {e : TypeId} (hx : (opd env x).core = .rs i 0 l) (hm : m i = some (.cells cs e)) (he : elemP P t = e) (hs : P.cellsOf e = 1) (hb : (opd env y).core = .s (.int .i64 (b : Int))) :
  Ef P (.slice t x none (some y) none) env m nx ⟨slT P t = true /\ b <= l, .rs i 0 b, [], [i], 0⟩ := by
 have h := e_sliceR (P := P) (env := env) (m := m) (nx := nx) (t := t) (lo := none) (hi := some y) (a := 0) (b := (b : Int)) hx hm he hs (by simp [bndD]) (by simp [bndD, hb, D.int?])
 have h1 : 0 + ((0 : Int)).toNat * 1 = 0 := by simp
 have h3 : ((b : Int) - 0).toNat = b := by omega
 have h2 : ((slT P t = true /\ 1 = 1) /\ (0 : Int) <= 0 /\ (0 : Int) <= (b : Int) /\ (b : Int) <= (l : Int)) = (slT P t = true /\ b <= l) := by
  apply propext; constructor
  ·rintro ⟨⟨a, _⟩, _, _, b⟩; exact ⟨a, by omega⟩
  ·rintro ⟨a, b⟩; exact ⟨⟨a, rfl⟩, by omega, by omega, by omega⟩
 rw [h1, h2, h3] at h
 exact h
theorem e_clear {i off l : Nat} {cs z : List D} {e : TypeId} (hx : (opd env x).core = .rs i off l) (hm : m i = some (.cells cs e)) (he : elemP P t = e) (hz : zeroP P e = z) :
  Ef P (.call { callee := .builtin .clear, args := #[x], argTypes := #[t] }) env m nx ⟨slT P t = true /\ off + l * P.cellsOf e <= cs.length /\ e = e, .tup [], [(i, some (.cells (splice cs off (replD l z)) e))], [i], 0⟩ := by
 refine e_blt («aS» := [.rs i off l]) rfl (by simp [hx]) ?_
 simp only [builtinD, hm, hz, Array.getD_eq_getD_getElem?, List.getElem?_toArray, List.getElem?_cons_zero, Option.getD_some, he]
theorem splice_end {cs : List D} {n k : Nat} {x : D} (hn : cs.length = n) (hk : k <= n) : splice cs k (replD (n - k) [x]) = cs.take k ++ List.replicate (n - k) x := by
 have hr : replD (n - k) [x] = List.replicate (n - k) x := by
  unfold replD
  generalize n - k = j
  induction j with
  | zero => rfl
  | succ j ih => simp [List.replicate_succ, ih]
 rw [hr]
 unfold splice
 split
 ·rename_i y e
  have h1 : n - k = 1 := by have := congrArg List.length e; simpa using this
  rw [h1] at e ⊢
  simp at e
  subst e
  rw [List.set_eq_take_append_cons_drop, if_pos oG, List.drop_eq_nil_of_le oG]
  rfl
 ·rw [List.length_replicate, List.drop_eq_nil_of_le oG, List.append_nil]
end
end Go.Abs
namespace Go.Argus
def ddK (d : List Int) : Nat -> List Int
 | 0 => []
 | t + 1 => ddK d t ++ (if t ≠ 0 /\ d.getD t 0 = d.getD (t - 1) 0 then [] else [d.getD t 0])
def compactR (d : List Int) : List Int := ddK d d.length
theorem mem_ddK {d : List Int} {x : Int} : ∀ {t : Nat}, t <= d.length -> (x ∈ ddK d t ↔ x ∈ d.take t)
 | 0, _ => by simp [ddK]
 | t + 1, ht => by
  have ih := mem_ddK (d := d) (x := x) (t := t) oG
  have hg : d.getD t 0 = d[t] := by simp [List.getD_eq_getElem?_getD, List.getElem?_eq_getElem (show t < d.length by omega)]
  rw [ddK, List.mem_append, ih, List.take_succ_eq_append_getElem oG, List.mem_append]
  split
  ·rename_i h
   have h1 : d[t - 1]? = some d[t - 1] := List.getElem?_eq_getElem oG
   have hin : d[t] ∈ d.take t := by
    rw [<- hg, h.2]
    have : d.getD (t - 1) 0 = d[t - 1] := by simp [List.getD_eq_getElem?_getD, h1]
    rw [this]
    exact List.mem_of_getElem? (i := t - 1) (by rw [List.getElem?_take, if_pos oG, h1])
   constructor
   ·rintro (h | h)
    ·exact .inl h
    ·simp at h
   ·rintro (h | h)
    ·exact .inl h
    ·simp at h; subst h; exact .inl hin
  ·rw [hg]
theorem len_ddK {d : List Int} : ∀ t, (ddK d t).length <= t
 | 0 => by simp [ddK]
 | t + 1 => by
  have := len_ddK (d := d) t
  rw [ddK, List.length_append]
  split <;> simp <;> omega
end Go.Argus
namespace Go.Argus
theorem ddK_eq {d : List Int} {t : Nat} (ht : t < d.length) (h0 : t ≠ 0) (h : d.getD t 0 = d.getD (t - 1) 0) : ddK d (t + 1) = ddK d t := by
 rw [ddK, if_pos ⟨h0, h⟩, List.append_nil]
theorem ddK_ne {d : List Int} {t : Nat} (h : d.getD t 0 ≠ d.getD (t - 1) 0) : ddK d (t + 1) = ddK d t ++ [d.getD t 0] := by
 rw [ddK, if_neg fun hh => h hh.2]
end Go.Argus
namespace Go.Proofs.Tryz.K
set_option maxRecDepth 10000
def compC (d : List Int) (n : Nat) : List D := (compactR d).map I ++ List.replicate (n - (compactR d).length) (I 0)
def post90e (d : List Int) (n : Nat) (m : Mem) (nx i : Nat) (r : D) (m' : Mem) (nx' : Nat) : Prop := nx' = nx /\ r = .rs i 0 (compactR d).length /\ m' = up m i (some (.cells (compC d n) 3))
def post90 (d : List Int) (m : Mem) (nx i : Nat) (r : D) (m' : Mem) (nx' : Nat) : Prop := nx' = nx /\ r = .rs i 0 (compactR d).length /\ ∃ c, m' = up m i (some (.cells c 3)) /\ c.take (compactR d).length = (compactR d).map I
theorem k90e {m : Mem} {nx i n : Nat} {d : List Int} (hi : i < nx) (hm : m i = some (.cells (d.map I) 3)) (hl : d.length = n) (hn : n <= 100000) : ACalls prog 90 [.rs i 0 n] m nx (post90e d n m nx i) := by
 refine acall_of mixed ok90 (by rw [nt90]; rfl) ?_
 rw [rs90, sk90]
 have hrow := hm
 have hid : up m i (some (.cells (d.map I) 3)) = m := by
  funext j; simp only [up]; split
  ·rename_i e; rw [e, hm]
  ·rfl
 have whole : ddK d n = d -> post90e d n m nx i (.rs i 0 n) m nx := fun h => by
  have h : compactR d = d := by unfold compactR; rw [hl]; exact h
  refine ⟨rfl, by rw [h, hl], ?_⟩
  rw [compC, h, hl, Nat.sub_self, List.replicate_zero, List.append_nil, hid]
 refine ws ?_;refine J23 ?_
 refine ao_end (w_assoc (w_seq_region ?_))
 refine J12 ?_;refine J120 ?_;refine J16 ?_
 refine ao_end (w_seq_if rfl (fun h => ?_) fun h => w_seq_skip (w_assoc (w_seq_region_g ?_)))
 ·have h : n < 2 := by have h : (n : Int) < 2 := by simpa using h
                       omega
  refine w_assoc (w_seq_region ?_)
  refine J12 ?_;refine J18 ?_
  refine ao_end (w_seq_ret (q_ret1 rfl (whole ?_)))
  match d, n, hl, h with
  | [], _, rfl, _ => rfl
  | [a], _, rfl, _ => rfl
 have h2 : 2 <= n := by have h : ¬ (n : Int) < 2 := by simpa using h
                        omega
 refine J3 ?_
 refine ao_end (w_then (fun s => Ghost prog s ⟨envL [(0, .rs i 0 n)], m, nx⟩ /\ ddK d n = d) (w_for (α := Nat) (fun k => ⟨envL [(0, .rs i 0 n), (3, I k)], m, nx⟩) (fun k => 1 <= k /\ k <= n /\ ddK d k = d.take k) (fun k => n - k) 1 (ghost_of eH) ⟨by omega, by omega, ?_⟩ ?_) ?_)
 ·match d, hl with
  | a :: t, _ => rfl
  | [], hl => simp at hl; omega
 ·rintro k ⟨hk1, hk, hdd⟩
  refine J0 ?_;refine J12 ?_;refine J120 ?_;refine J16 ?_
  refine ao_end ⟨_, rfl, fun h => ?_, fun h => ?_⟩
  ·have hlt : k < n := by have h : (k : Int) < n := by simpa using h
                          omega
   obtain ⟨j, rfl⟩ : ∃ j, k = j + 1 := ⟨k - 1, by omega⟩
   have ha : d[j + 1]? = some d[j + 1] := List.getElem?_eq_getElem oG
   have hb : d[j]? = some d[j] := List.getElem?_eq_getElem oG
   have ga : d.getD (j + 1) 0 = d[j + 1] := by simp [List.getD_eq_getElem?_getD, ha]
   have gb : d.getD j 0 = d[j] := by simp [List.getD_eq_getElem?_getD, hb]
   have kd := drop_map (f := I) ha
   have kd' := drop_map (f := I) hb
   have ksub : ((j + 1 : Nat) : Int) - 1 = (j : Int) /\ -9223372036854775808 <= (j : Int) /\ (j : Int) <= 9223372036854775807 := by omega
   refine w_seq_draw di_r90_6 ?_
   refine J12 ?_;refine J0 ?_;refine J75 ?_;refine J89 ?_;refine J12 ?_;refine J0 ?_;refine J84 ?_;refine J75 ?_
   refine ao_p (e_loadR rfl hrow kd' V.h) ak (p_loadR V.h V.h kd') ?_
   refine J8 ?_
   refine ao_endc (by simp [apartT]) (w_if rfl (fun h => ?_) fun h => ?_)
   ·have heq : d[j + 1] = d[j] := by simpa using h
    refine ws ?_;refine J12 ?_;refine J0 ?_
    refine ao_p (e_sliceLo rfl hrow V.h V.h rfl) ak ⟨V.h, by omega⟩ ?_
    refine J18 ?_
    refine ao_end (w_assoc (w_seq_region_g ?_))
    refine J3 ?_
    have hdup : ddK d (j + 1 + 1) = ddK d (j + 1) := ddK_eq oG oG (by rw [ga, show j + 1 - 1 = j by omega, gb]; exact heq)
    have hk0 : (ddK d (j + 1)).length = j + 1 := by rw [hdd]; simp; omega
    clear kd kd' ksub
    refine ao_end (w_then (fun s => ∃ (c : List Int) (k : Nat), Ghost prog s ⟨envL [(0, .rs i 0 n), (3, I (k : Nat))], up m i (some (.cells (c.map I) 3)), nx⟩ /\ c.length = n /\ k <= n /\ c.take k = ddK d n) (w_for (α := List Int × Nat × Nat) (fun s => ⟨envL [(0, .rs i 0 n), (3, I s.2.1), (4, .rs i (j + 1) (n - (j + 1))), (5, I (s.2.2 + 1 : Nat))], up m i (some (.cells (s.1.map I) 3)), nx⟩)
     (fun s => s.1.length = n /\ j + 1 + (s.2.2 + 1) <= n /\ s.2.1 <= j + 1 + s.2.2 /\ s.1.take s.2.1 = ddK d (j + 1 + (s.2.2 + 1)) /\ ∀ p, j + 1 + s.2.2 <= p -> s.1[p]? = d[p]?) (fun s => n - s.2.2) (d, j + 1, 0) (ghost_mem eH hid.symm) ⟨hl, by simp only; omega, by simp only; omega, ?_, fun _ _ => rfl⟩ ?_) ?_)
    ·show d.take (j + 1) = ddK d (j + 1 + 1)
     rw [hdup, hdd]
    ·rintro ⟨c, k, q⟩ ⟨w1, w2, w3, w4, w5⟩
     simp only at w1 w2 w3 w4 w5
     dsimp only
     refine J0 ?_;refine J12 ?_
     refine ao_p (e_lenR rfl (up_same _ _ _)) ak V.h ?_
     refine J16 ?_
     refine ao_end ⟨_, rfl, fun h => ?_, fun h => ?_⟩
     ·have hlt : q + 1 < n - (j + 1) := by have h : ((q + 1 : Nat) : Int) < ((n - (j + 1) : Nat) : Int) := by simpa using h
                                           omega
      have xa : c[j + 1 + (q + 1)]? = some c[j + 1 + (q + 1)] := List.getElem?_eq_getElem oG
      have xb : c[j + 1 + q]? = some c[j + 1 + q] := List.getElem?_eq_getElem oG
      have ya : d.getD (j + 1 + (q + 1)) 0 = c[j + 1 + (q + 1)] := by rw [List.getD_eq_getElem?_getD, <- w5 _ oG, xa]; rfl
      have yb : d.getD (j + 1 + q) 0 = c[j + 1 + q] := by rw [List.getD_eq_getElem?_getD, <- w5 _ oG, xb]; rfl
      have kd := drop_map (f := I) xa
      have kd' := drop_map (f := I) xb
      generalize hA : c[j + 1 + (q + 1)] = a at xa ya kd
      generalize hB : c[j + 1 + q] = b at xb yb kd'
      clear hA hB
      have ksub : ((q + 1 : Nat) : Int) - 1 = (q : Int) /\ -9223372036854775808 <= (q : Int) /\ (q : Int) <= 9223372036854775807 := by omega
      refine w_seq_draw di_r90_11 ?_
      refine J12 ?_;refine J0 ?_;refine J145 ?_;refine J144 ?_;refine J12 ?_;refine J0 ?_;refine J84 ?_;refine J145 ?_
      refine ao_p (e_loadR rfl (up_same _ _ _) kd' V.h) ak (p_loadR V.h V.h kd') ?_
      refine J35 ?_
      refine ao_endc (by simp [apartT]) (w_if rfl (fun h => ?_) fun h => ?_)
      ·have hne : a ≠ b := by simpa using h
       have hn := ddK_ne (d := d) (t := j + 1 + (q + 1)) (by rw [ya, show j + 1 + (q + 1) - 1 = j + 1 + q by omega, yb]; exact hne)
       refine ws ?_;refine J12 ?_;refine J0 ?_;refine J12 ?_;refine J0 ?_;refine J145 ?_;refine J144 ?_;refine J88 ?_;refine J119 ?_
       refine ao_end (w_regB2 ?_)
       refine J0 ?_;refine J11 ?_;refine J3 ?_
       refine ao_end ?_
       refine J0 ?_;refine J11 ?_;refine J3 ?_
       refine ao_end (next_of (c.set k a, k + 1, q + 1) (ghost_mem eH ?_) ⟨by simp [w1], by simp only; omega, by simp only; omega, ?_, fun p hp => ?_⟩ (by simp only; omega))
       ·rw [up_up, List.map_set]
       ·show (c.set k a).take (k + 1) = ddK d (j + 1 + (q + 1) + 1)
        rw [hn, ya, <- w4, List.take_succ_eq_append_getElem (by simp; omega)]
        simp
        exact List.take_set_of_le (Nat.le_refl k)
       ·simp only at hp
        show (c.set k a)[p]? = _
        rw [List.getElem?_set_ne oG]
        exact w5 p oG
      ·have heq' : a = b := by simpa using h
       have hn := ddK_eq (d := d) (t := j + 1 + (q + 1)) oG oG (by rw [ya, show j + 1 + (q + 1) - 1 = j + 1 + q by omega, yb]; exact heq')
       refine w_end ?_
       refine J0 ?_;refine J11 ?_;refine J3 ?_
       refine ao_end (next_of (c, k, q + 1) (ghost_of eH) ⟨w1, by simp only; omega, by simp only; omega, ?_, fun p hp => w5 p (by simp only at hp; omega)⟩ (by simp only; omega))
       show c.take k = ddK d (j + 1 + (q + 1) + 1)
       rw [hn, w4]
     ·have hge : ¬ q + 1 < n - (j + 1) := by have h : ¬ ((q + 1 : Nat) : Int) < ((n - (j + 1) : Nat) : Int) := by simpa using h
                                             omega
      refine ⟨c, k, .forget _ _ _ _ fun t => envL_of (l := [(0, .rs i 0 n), (3, I k)]) ⟨rfl, rfl, trivial⟩ t, w1, by omega, ?_⟩
      rw [w4]
      exact congrArg (ddK d) oG
    ·rintro s ⟨c, k, hg, w1, ck, w2⟩
     refine ⟨_, hg, w_seq_region ?_⟩
     refine J12 ?_;refine J0 ?_
     refine ao_p (e_sliceLo rfl (up_same _ _ _) V.h V.h rfl) ak ⟨V.h, by omega⟩ ?_
     refine ao_w (e_clear rfl (up_same _ _ _) V.h V.h) ak ⟨V.h, (by rw [c3]; first | (simp; done) | (simp; omega) | omega), rfl⟩ ?_
     refine er ?_;refine J12 ?_;refine J0 ?_
     refine ao_p (e_sliceHi rfl (up_same _ _ _) V.h V.h rfl) ak ⟨V.h, by omega⟩ ?_
     refine J18 ?_
     have hcl : (compactR d).length = k := by unfold compactR; rw [hl, <- w2]; simp; omega
     refine ao_end (w_ret (j_body (j_seq (q_ret1 (d := .rs i 0 k) rfl ⟨rfl, by rw [hcl], (up_up _ _ _ _).trans ?_⟩))))
     rw [splice_end (by rw [List.length_map, w1]) ck, <- List.map_take, w2, compC, hcl]
     unfold compactR; rw [hl]
   ·have hne : d[j + 1] ≠ d[j] := by simpa using h
    refine w_end ?_
    refine J0 ?_;refine J11 ?_;refine J3 ?_
    refine ao_end (next_of (j + 1 + 1) (ghost_of eH) ⟨by omega, by omega, ?_⟩ oG)
    rw [ddK_ne (by rw [ga, show j + 1 - 1 = j by omega, gb]; exact hne), hdd, ga]
    exact (List.take_succ_eq_append_getElem oG).symm
  ·have hge : ¬ k < n := by have h : ¬ (k : Int) < n := by simpa using h
                            omega
   have : k = n := by omega
   refine ⟨.forget _ _ _ _ fun t => envL_of (l := [(0, .rs i 0 n)]) ⟨rfl, trivial⟩ t, ?_⟩
   rw [<- this, hdd, List.take_of_length_le oG]
 ·rintro s ⟨hg, hdd⟩
  refine ⟨_, hg, w_seq_region ?_⟩
  refine J12 ?_;refine J18 ?_
  exact ao_end (q_ret1 rfl (whole hdd))
theorem k90 {m : Mem} {nx i n : Nat} {d : List Int} (hi : i < nx) (hm : m i = some (.cells (d.map I) 3)) (hl : d.length = n) (hn : n <= 100000) : ACalls prog 90 [.rs i 0 n] m nx (post90 d m nx i) := by
 refine (k90e hi hm hl hn).mono ?_
 rintro r m' nx' ⟨h1, h2, h3⟩
 refine ⟨h1, h2, compC d n, h3, ?_⟩
 rw [compC, List.take_append_of_le_length (by simp), List.take_of_length_le (by simp)]
end Go.Proofs.Tryz.K
end
section
open Go Go.Abs Go.Proofs Go.Argus
namespace Go.Argus
def ontoR (x : End) (b : Int) (w : List Int) : List Int := if aloneB x b then withI w (writesEnd x) else w
@[simp] theorem len_ontoR (x : End) (b : Int) (w : List Int) : (ontoR x b w).length = w.length := by unfold ontoR; split <;> simp
def sortedR (l : List Int) : List Int := compactR (sortI l)
end Go.Argus
namespace Go.Proofs.Tryz.K
set_option maxRecDepth 10000
theorem k201 {f : FuncId} {cs : List D} {xs : List Int} (hs : SeqA prog f [] cs (xs.map fun n => [I n])) (ht : Tr (.fn (.func f) [] cs)) (hlen : xs.length <= 12) : OCall prog 201 [.fn (.func f) [] cs] ((sortI xs).map I) xs.length 3 := by
 have htr : ∀ a ∈ [.fn (.func f) [] cs], Tr a := .cons ht .nil
 refine ocall_of mixed ok201 (by rw [nt201]; rfl) htr (.map fun _ => .s _) ?_
 rw [rs201, sk201]
 have k247 := k247 hs ht oG
 refine ws ?_;refine J23 ?_;refine er ?_;refine J42 ?_
 refine ao_oc k247 rfl (by repeat' (first | exact trivial | exact rfl | refine And.intro ?_ ?_)) ?_
 refine J18 ?_;refine er ?_;refine J12 ?_
 refine ao_ac (k89 (i := 0) (l := xs) oG rfl rfl hlen) rfl (by repeat' (first | exact trivial | exact rfl | refine And.intro ?_ ?_)) fun r m' nx' hp => ?_
 obtain ⟨rfl, rfl, rfl⟩ := hp
 refine er ?_;refine J12 ?_;refine J18 ?_
 exact ao_end (q_ret1 rfl ⟨0, rfl, rfl⟩)
theorem k155 {f : FuncId} {cs : List D} {xs : List Int} (hs : SeqA prog f [] cs (xs.map fun n => [I n])) (ht : Tr (.fn (.func f) [] cs)) (hlen : xs.length <= 12) : PCall prog 155 [.fn (.func f) [] cs] (encInts (sortedR xs)) := by
 have htr : ∀ a ∈ [.fn (.func f) [] cs], Tr a := .cons ht .nil
 refine pcall_of mixed ok155 (by rw [nt155]; rfl) htr (tr_ints _) ?_
 rw [rs155, sk155]
 have k201 := k201 hs ht hlen
 refine ws ?_;refine J23 ?_
 refine ao_end (w_seq_region_g ?_)
 refine J42 ?_
 refine ao_oc k201 rfl (by repeat' (first | exact trivial | exact rfl | refine And.intro ?_ ?_)) ?_
 refine ao_ac (k90 (i := 0) (d := sortI xs) (n := xs.length) oG rfl (by simp) oG) rfl (by repeat' (first | exact trivial | exact rfl | refine And.intro ?_ ?_)) fun r m' nx' hp => ?_
 obtain ⟨rfl, rfl, c, rfl, hc⟩ := hp
 refine J18 ?_
 refine ao_end (w_ghost (ghost_fr [(0, c, 3)] ⟨up_same _ _ _, trivial⟩ (l := [(2, encInts (sortedR xs))]) ⟨?_, trivial⟩) (q_ret1 rfl rfl))
 exact fr_rs c3 (by rw [List.drop_zero, Nat.mul_one]; exact hc)
def nextR (x : Argus.End) : List Int := sortedR (toR x)
theorem k155to {x : Argus.End} (hlen : x.whens.length <= 9) : PCall prog 155 [.fn (.func 202) [] [.pt (encEnd x)]] (encInts (nextR x)) :=
 k155 (s202 oG) (.fn (by simp) (.cons (.pt (trs_end x)) .nil)) (by have := len_toR x; omega)
theorem k199 {x : Argus.End} {b : Int} {w : List Int} (hw : w.length = 20) (hlen : x.whens.length <= 1000) (hn : -1000000 <= writesEnd x /\ writesEnd x < 1280) : PCall prog 199 [.agg (encEnd x), I b, encW w] (encW (ontoR x b w)) := by
 have htr : ∀ a ∈ [D.agg (encEnd x), I b, encW w], Tr a := .cons (.agg (trs_end x)) (.cons (.s _) (.cons (tr_w _) .nil))
 refine pcall_of mixed ok199 (by rw [nt199]; rfl) htr (tr_w _) ?_
 rw [rs199, sk199]
 have k246 := k246 (x := x) (b := b) hlen
 refine ws ?_;refine J68 ?_;refine J57 ?_;refine J24 ?_
 refine ao_end (w_assoc (w_seq_region ?_))
 refine J146 ?_;refine J0 ?_;refine cl k246 ?_
 refine ao_end (w_seq_if rfl (fun h => ?_) fun h => w_seq_skip (w_seq_region ?_))
 ·have k175 := k175 (x := x)
  have k242 := k242 (w := w) (n := writesEnd x) hw hn
  refine w_assoc (w_seq_draw di_r199_2 ?_)
  refine J64 ?_;refine J146 ?_;refine cl k175 ?_;refine cl k242 ?_;refine J77 ?_
  refine ao_endc (by simp [apartT]) (w_seq_ret (q_cell (resD_cellA rfl rfl a231 c231 (takeW (by simp; omega)) t231 (by simp; omega)) ?_))
  simp [ontoR, h]
 ·refine J64 ?_;refine J77 ?_
  refine ao_end (q_cell (resD_cellA rfl rfl a231 c231 (takeW (by simp; omega)) t231 (by simp; omega)) ?_)
  simp [ontoR, h]
end Go.Proofs.Tryz.K
end
section
open Go Go.Abs Go.Proofs Go.Argus
namespace Go.Argus
structure InsOk (x : Ins) : Prop where
 rd : ∀ r ∈ readsR x, 0 <= r /\ r < 1200
 sl : x.op = 17 \/ x.op = 18 -> 0 <= x.n /\ x.n < 80
 wr : -1000000 <= writesR x /\ writesR x < 1200
 ar : x.op = 10 \/ x.op = 38 -> x.args.length <= 1000
structure FinOk (x : End) : Prop where
 rd : ∀ r ∈ readsEnd x, 0 <= r /\ r < 1200
 wr : -1000000 <= writesEnd x /\ writesEnd x < 1200
 wh : x.whens.length <= 9
 a1 : x.kind = 5 -> x.ins.op = 10 \/ x.ins.op = 38 -> x.ins.args.length <= 1000
 a2 : x.kind = 6 \/ x.kind = 7 -> x.args.length <= 1000
def readsOk (w : List Int) (ok : Bool) (rs : List Int) : Bool := rs.foldl (fun ok r => ok && hasW w r.toNat) ok
def afterR (w : List Int) (x : Ins) : List Int := withI w (if x.op = 18 then slotPlace x.n else writesR x)
def stepR (s : List Int × Bool) (x : Ins) : List Int × Bool := (afterR s.1 x, readsOk s.1 s.2 (readsR x) && (x.op != 17 || hasW s.1 (slotPlace x.n).toNat))
def insR (l : List Ins) (w : List Int) : List Int × Bool := l.foldl stepR (w, true)
def throughR (b : Block) (w : List Int) : List Int × Bool := ((insR b.ins w).1, readsOk (insR b.ins w).1 (insR b.ins w).2 (readsEnd b.fin))
theorem foldl_take {α β : Type} {f : β -> α -> β} {z : β} {l : List α} {k : Nat} {x : α} (h : l[k]? = some x) : (l.take (k + 1)).foldl f z = f ((l.take k).foldl f z) x := by
 rw [List.take_add_one, h, List.foldl_append]; rfl
theorem len_insR (l : List Ins) (w : List Int) : (insR l w).1.length = w.length := by
 unfold insR
 generalize true = b
 induction l generalizing w b with
 | nil => rfl
 | cons x l ih => rw [List.foldl_cons]; exact (ih _ _).trans (by simp [afterR])
theorem len_throughR (b : Block) (w : List Int) : (throughR b w).1.length = w.length := len_insR _ _
end Go.Argus
namespace Go.Proofs.Tryz.K
set_option maxRecDepth 10000
set_option maxHeartbeats 1000000 in
theorem k198 {b : Block} {w : List Int} (hw : w.length = 20) (hl : b.ins.length <= 100000) (hi : ∀ x ∈ b.ins, InsOk x) (hf : FinOk b.fin) (hrl : ∀ x ∈ b.ins, (readsR x).length <= 100000) (hrf : (readsEnd b.fin).length <= 100000) : PCall prog 198 [.agg (encBlock b), encW w] (.tup [encW (throughR b w).1, B (throughR b w).2]) := by
 have htr : ∀ a ∈ [D.agg (encBlock b), encW w], Tr a := .cons (.agg (trs_block b)) (.cons (tr_w _) .nil)
 refine pcall_of mixed ok198 (by rw [nt198]; rfl) htr (.tup (.cons (tr_w _) (.cons (.s _) .nil))) ?_
 rw [rs198, sk198]
 refine ws ?_
 refine ao_a (e_boxA (cs := encBlock _) rfl) ak (by first | rfl | exact one_code hp1 hq1 | exact oneW _ | exact one_S hd1) ?_
 refine J57 ?_;refine J24 ?_;refine J1 ?_
 refine ao_end (w_seq_region_g ?_)
 refine J1 ?_
 refine ao_end (w_ghost (ghost_st (l := [(2, .rp 0 0), (3, .rp 1 0), (4, .rp 2 0), (6, B true)]) (ml := [(0, .cells (encBlock b) 72), (1, .cells (w.map U64) 231), (2, .cells (List.replicate 20 (U64 0)) 231)]) eH eH) (w_assoc (w_seq_region_g ?_)))
 refine J14 ?_;refine J26 ?_;refine J15 ?_;refine J0 ?_
 refine ao_end (w_then (fun s => ∃ n', 3 <= n' /\ Ghost prog s ⟨envL [(2, .rp 0 0), (3, .rp 1 0), (4, .rp 2 0), (6, B (insR b.ins w).2)], memL [(0, .cells (encBlock b) 72), (1, .cells ((insR b.ins w).1.map U64) 231), (2, .cells (List.replicate 20 (U64 0)) 231)], n'⟩) (w_range (α := Nat × Nat)
  (fun k => ⟨envL [(2, .rp 0 0), (3, .rp 1 0), (4, .rp 2 0), (6, B (insR (b.ins.take k.1) w).2), (14, encInss b.ins), (15, I b.ins.length), (16, I k.1)], memL [(0, .cells (encBlock b) 72), (1, .cells ((insR (b.ins.take k.1) w).1.map U64) 231), (2, .cells (List.replicate 20 (U64 0)) 231)], k.2⟩)
  (fun k => k.1 <= b.ins.length /\ 3 <= k.2) (fun k => b.ins.length - k.1) (0, 3) (ghost_st eH eH) ⟨by simp, by simp⟩ ?_) ?_)
 ·rintro ⟨k, N⟩ ⟨hk, hN⟩
  dsimp only at hk hN ⊢
  refine J16 ?_
  refine ao_end ⟨_, rfl, fun h => ?_, fun h => ?_⟩
  ·have hlt : k < b.ins.length := by simpa using h
   have hx : b.ins[k]? = some b.ins[k] := by simp [hlt]
   have hmem : b.ins[k] ∈ b.ins := List.getElem_mem hlt
   generalize b.ins[k] = x at hx hmem
   obtain ⟨ird, isl, iwr, iar⟩ := hi x hmem
   have hst : insR (b.ins.take (k + 1)) w = stepR (insR (b.ins.take k) w) x := foldl_take hx
   have hlen : (insR (b.ins.take k) w).1.length = 20 := by rw [len_insR, hw]
   generalize insR (b.ins.take k) w = u at hst hlen
   obtain ⟨v, ok⟩ := u
   dsimp only at hlen ⊢
   refine ws ?_;refine J76 ?_;refine J59 ?_;refine J24 ?_;refine J90 ?_
   refine ao_end (w_assoc (w_seq_region_g ?_))
   have k140 := k140 (x := x) iar
   refine J100 ?_;refine cl k140 ?_;refine J15 ?_;refine J0 ?_
   have hrlen := hrl x hmem
   refine ao_end (w_then (fun s => Ghost prog s ⟨envL [(2, .rp 0 0), (3, .rp 1 0), (4, .rp 2 0), (6, B (readsOk v ok (readsR x))), (8, .rp N 0), (14, encInss b.ins), (15, I b.ins.length), (16, I k)], up (memL [(0, .cells (encBlock b) 72), (1, .cells (v.map U64) 231), (2, .cells (List.replicate 20 (U64 0)) 231)]) N (some (.cells (encIns x) 66)), N + 1⟩) (w_range (α := Nat)
    (fun j => ⟨envL [(2, .rp 0 0), (3, .rp 1 0), (4, .rp 2 0), (6, B (readsOk v ok ((readsR x).take j))), (8, .rp N 0), (14, encInss b.ins), (15, I b.ins.length), (16, I k), (21, encInts (readsR x)), (22, I (readsR x).length), (23, I j)], up (memL [(0, .cells (encBlock b) 72), (1, .cells (v.map U64) 231), (2, .cells (List.replicate 20 (U64 0)) 231)]) N (some (.cells (encIns x) 66)), N + 1⟩)
    (fun j => j <= (readsR x).length) (fun j => (readsR x).length - j) 0 (ghost_mem eH (up_up _ _ _ _)) oG ?_) ?_)
   ·intro j hj
    refine J16 ?_
    refine ao_end ⟨_, rfl, fun h => ?_, fun h => ?_⟩
    ·have hjl : j < (readsR x).length := by simpa using h
     have hr : (readsR x)[j]? = some (readsR x)[j] := by simp [hjl]
     have hrm : (readsR x)[j] ∈ readsR x := List.getElem_mem hjl
     generalize (readsR x)[j] = r at hr hrm
     have hrr := ird r hrm
     obtain ⟨rn, rfl⟩ := Int.eq_ofNat_of_zero_le hrr.1
     have k200 := k200 (w := v) (m := rn) hlen oG
     refine ws ?_;refine J21 ?_;refine J4 ?_;refine J3 ?_
     refine ao_end (w_regB2 ?_)
     refine J2 ?_;refine J2 ?_;refine J147 ?_;refine J10 ?_;refine gc k200 ?_;refine J9 ?_;refine J1 ?_
     refine ao_end ?_
     refine J11 ?_;refine J0 ?_
     refine ao_end (next_of (j + 1) (ghost_of ⟨rfl, rfl, rfl, ?_, rfl, rfl, rfl, rfl, rfl, rfl, rfl, trivial⟩) oG oG)
     have e : readsOk v ok ((readsR x).take (j + 1)) = (readsOk v ok ((readsR x).take j) && hasW v rn) := by
      unfold readsOk
      rw [foldl_take hr, Int.toNat_natCast]
     rw [e]
     generalize readsOk v ok ((readsR x).take j) = g
     cases g <;> rfl
    ·have hge : ¬ j < (readsR x).length := by simpa using h
     refine ghost_of ⟨rfl, rfl, rfl, ?_, rfl, rfl, rfl, rfl, trivial⟩
     show B _ = B _
     rw [List.take_of_length_le oG]
   ·intro s hg
    have hst : insR (b.ins.take (k + 1)) w = (afterR v x, readsOk v ok (readsR x) && (x.op != 17 || hasW v (slotPlace x.n).toNat)) := hst
    generalize readsOk v ok (readsR x) = okk at hg hst
    have k245 := k245 (w := v) (x := x) hlen (fun h => isl (.inr h)) (fun _ => by omega)
    have fin : ∀ (d : Bool) env, d = (okk && (x.op != 17 || hasW v (slotPlace x.n).toNat)) -> EnvHas [(2, .rp 0 0), (3, .rp 1 0), (4, .rp 2 0), (6, B d), (8, .rp N 0), (14, encInss b.ins), (15, I b.ins.length), (16, I k)] env -> True := fun _ _ _ _ => trivial
    refine ⟨_, hg, ?_⟩
    cases okk with
    | false =>
     have k244 : false = true -> PCall prog 244 [I x.n] (I (slotPlace x.n)) := fun h => by cases h
     have k200 : false = true -> PCall prog 200 [encW v, I (slotPlace x.n)] (B true) := fun h => by cases h
     refine w_seq_draw di_r198_10 ?_
     refine J2 ?_;refine J2 ?_;refine J101 ?_;refine J102 ?_;refine J46 ?_;refine J27 ?_;refine J147 ?_;refine J101 ?_;refine J102 ?_
     refine ao_gpc rfl rfl rfl (fun hc => ⟨ak, k244 hc⟩) ?_
     refine ao_gpc rfl rfl rfl (fun hc => ⟨ak, k200 hc⟩) ?_
     refine J63 ?_;refine J13 ?_;refine J1 ?_
     refine ao_endc (by simp [apartT]) (w_regB2 ?_)
     refine J148 ?_;refine J100 ?_;refine cl k245 ?_;refine J149 ?_
     refine ao_end ?_
     refine J11 ?_;refine J0 ?_
     refine ao_end (next_of (k + 1, N + 1) (ghost_st ⟨rfl, rfl, rfl, ?_, rfl, rfl, rfl, trivial⟩ ⟨mskip oG (mskip oG rfl), ?_, mskip oG (mskip oG rfl), trivial⟩) ⟨by dsimp only; omega, by dsimp only; omega⟩ (by dsimp only; omega))
     ·dsimp only; rw [hst]; rfl
     ·dsimp only; rw [hst]; exact up_same _ _ _
    | true =>
     by_cases h17 : x.op = 17
     ·have kneq : (x.op != 17) = false := by simp [h17]
      have hx17 := isl (.inl h17)
      have k244 := k244 (n := x.n) oG
      obtain ⟨sn, hsn⟩ := Int.eq_ofNat_of_zero_le (show 0 <= slotPlace x.n by unfold slotPlace; omega)
      have k200 := k200 (w := v) (m := sn) hlen (by unfold slotPlace at hsn; omega)
      rw [<- hsn] at k200
      refine w_seq_draw di_r198_10 ?_
      refine J2 ?_;refine J2 ?_;refine J101 ?_;refine J102 ?_;refine J150 ?_;refine J27 ?_;refine J147 ?_;refine J101 ?_;refine J102 ?_;refine gc k244 ?_;refine gc k200 ?_;refine J87 ?_;refine J19 ?_;refine J1 ?_
      refine ao_endc (by simp [apartT]) (w_regB2 ?_)
      refine J148 ?_;refine J100 ?_;refine cl k245 ?_;refine J149 ?_
      refine ao_end ?_
      refine J11 ?_;refine J0 ?_
      refine ao_end (next_of (k + 1, N + 1) (ghost_st ⟨rfl, rfl, rfl, ?_, rfl, rfl, rfl, trivial⟩ ⟨mskip oG (mskip oG rfl), ?_, mskip oG (mskip oG rfl), trivial⟩) ⟨by dsimp only; omega, by dsimp only; omega⟩ (by dsimp only; omega))
      ·dsimp only; rw [hst, kneq, hsn]; rfl
      ·dsimp only; rw [hst]; exact up_same _ _ _
     ·have kneq : (x.op != 17) = true := by simp [h17]
      have k244 : false = true -> PCall prog 244 [I x.n] (I (slotPlace x.n)) := fun h => by cases h
      have k200 : false = true -> PCall prog 200 [encW v, I (slotPlace x.n)] (B true) := fun h => by cases h
      refine w_seq_draw di_r198_10 ?_
      refine J2 ?_;refine J2 ?_;refine J101 ?_;refine J102 ?_;refine J150 ?_;refine J27 ?_;refine z fun _ _ => ?_;refine z fun _ _ => ?_;refine z fun _ _ => ?_;refine z fun _ _ => ?_;refine z fun _ _ => ?_;refine J96 ?_;refine J19 ?_;refine J1 ?_
      refine ao_endc (by simp [apartT]) (w_regB2 ?_)
      refine J148 ?_;refine J100 ?_;refine cl k245 ?_;refine J149 ?_
      refine ao_end ?_
      refine J11 ?_;refine J0 ?_
      refine ao_end (next_of (k + 1, N + 1) (ghost_st ⟨rfl, rfl, rfl, ?_, rfl, rfl, rfl, trivial⟩ ⟨mskip oG (mskip oG rfl), ?_, mskip oG (mskip oG rfl), trivial⟩) ⟨by dsimp only; omega, by dsimp only; omega⟩ (by dsimp only; omega))
      ·dsimp only; rw [hst, kneq]; rfl
      ·dsimp only; rw [hst]; exact up_same _ _ _
  ·have hge : ¬ k < b.ins.length := by simpa using h
   have hkk : b.ins.take k = b.ins := List.take_of_length_le oG
   refine ⟨N, hN, ?_⟩
   rw [hkk]
   exact ghost_of eH
 ·rintro s ⟨n', hn', hg⟩
  have hlen : (insR b.ins w).1.length = 20 := by rw [len_insR, hw]
  have hth : throughR b w = ((insR b.ins w).1, readsOk (insR b.ins w).1 (insR b.ins w).2 (readsEnd b.fin)) := rfl
  rw [hth]
  generalize insR b.ins w = u at hg hlen ⊢
  obtain ⟨v, ok⟩ := u
  dsimp only at hlen hg ⊢
  have k137 := k137 (x := b.fin) hf.a1 hf.a2
  refine ⟨_, hg, w_assoc (w_seq_region_g ?_)⟩
  refine J14 ?_;refine J146 ?_;refine cl k137 ?_;refine J15 ?_;refine J0 ?_
  refine ao_end (w_then (fun s => Ghost prog s ⟨envL [(3, .rp 1 0), (4, .rp 2 0), (6, B (readsOk v ok (readsEnd b.fin)))], memL [(1, .cells (v.map U64) 231), (2, .cells (List.replicate 20 (U64 0)) 231)], n'⟩) (w_range (α := Nat)
   (fun j => ⟨envL [(3, .rp 1 0), (4, .rp 2 0), (6, B (readsOk v ok ((readsEnd b.fin).take j))), (53, encInts (readsEnd b.fin)), (54, I (readsEnd b.fin).length), (55, I j)], memL [(1, .cells (v.map U64) 231), (2, .cells (List.replicate 20 (U64 0)) 231)], n'⟩)
   (fun j => j <= (readsEnd b.fin).length) (fun j => (readsEnd b.fin).length - j) 0 (ghost_st eH eH) oG ?_) ?_)
  ·intro j hj
   refine J16 ?_
   refine ao_end ⟨_, rfl, fun h => ?_, fun h => ?_⟩
   ·have hjl : j < (readsEnd b.fin).length := by simpa using h
    have hr : (readsEnd b.fin)[j]? = some (readsEnd b.fin)[j] := by simp [hjl]
    have hrm : (readsEnd b.fin)[j] ∈ readsEnd b.fin := List.getElem_mem hjl
    generalize (readsEnd b.fin)[j] = r at hr hrm
    have hrr := hf.rd r hrm
    obtain ⟨rn, rfl⟩ := Int.eq_ofNat_of_zero_le hrr.1
    have k200 := k200 (w := v) (m := rn) hlen oG
    refine ws ?_;refine J21 ?_;refine J4 ?_;refine J3 ?_
    refine ao_end (w_regB2 ?_)
    refine J2 ?_;refine J2 ?_
    refine ao_g rfl rfl (e_loadRA rfl rfl V.h V.h (takeW (by first | rfl | exact Nat.le_of_ble_eq_true rfl | (simp; done) | (simp; omega) | omega))) (fun hc => ⟨ak, (p_loadRA V.h V.h (by first | rfl | exact Nat.le_of_ble_eq_true rfl | (simp; done) | (simp; omega) | omega))⟩) ?_
    refine J10 ?_;refine gc k200 ?_;refine J9 ?_;refine J1 ?_
    refine ao_end ?_
    refine J11 ?_;refine J0 ?_
    refine ao_end (next_of (j + 1) (ghost_of ⟨rfl, rfl, ?_, rfl, rfl, rfl, trivial⟩) oG oG)
    have e : readsOk v ok ((readsEnd b.fin).take (j + 1)) = (readsOk v ok ((readsEnd b.fin).take j) && hasW v rn) := by
     unfold readsOk
     rw [foldl_take hr, Int.toNat_natCast]
    rw [e]
    generalize readsOk v ok ((readsEnd b.fin).take j) = g
    cases g <;> rfl
   ·have hge : ¬ j < (readsEnd b.fin).length := by simpa using h
    refine ghost_of ⟨rfl, rfl, ?_, trivial⟩
    show B _ = B _
    rw [List.take_of_length_le oG]
  ·intro s hg
   refine ⟨_, hg, w_seq_region ?_⟩
   refine J64 ?_;refine J2 ?_;refine J77 ?_;refine J1 ?_
   exact ao_end (q_cell_tmp (resD_cellA rfl rfl a231 c231 (takeW (by simp; omega)) t231 (by simp; omega)) rfl rfl)
end Go.Proofs.Tryz.K
end
section
namespace Go.Argus
open Go.Abs
theorem mem_swapAt {l : List Int} {j : Nat} (hj : j + 1 < l.length) {x : Int} : x ∈ swapAt l j ↔ x ∈ l := by
 have ha : l.getD j 0 = l[j] := by simp [List.getD_eq_getElem?_getD, List.getElem?_eq_getElem (show j < l.length by omega)]
 have hb : l.getD (j + 1) 0 = l[j + 1] := by simp [List.getD_eq_getElem?_getD, List.getElem?_eq_getElem hj]
 unfold swapAt
 rw [ha, hb]
 exact (List.set_set_perm (show j + 1 < l.length from hj) (show j < l.length by omega)).mem_iff
theorem mem_insJ {x : Int} : ∀ (j : Nat) {l : List Int}, j < l.length -> (x ∈ insJ l j ↔ x ∈ l)
 | 0, l, _ => Iff.rfl
 | j + 1, l, hj => by
  simp only [insJ]
  split
  ·exact (mem_insJ j (by simp; omega)).trans (mem_swapAt hj)
  ·exact Iff.rfl
theorem mem_sortK {l : List Int} {x : Int} : ∀ k, k < l.length -> (x ∈ sortK l k ↔ x ∈ l)
 | 0, _ => Iff.rfl
 | k + 1, h => by
  simp only [sortK]
  exact (mem_insJ (k + 1) (by simpa using h)).trans (mem_sortK k oG)
theorem mem_sortI {l : List Int} {x : Int} : x ∈ sortI l ↔ x ∈ l := by
 unfold sortI
 cases l with
 | nil => simp [sortK]
 | cons a l => exact mem_sortK _ (by simp)
theorem mem_sortedR {l : List Int} {x : Int} : x ∈ sortedR l ↔ x ∈ l := by
 unfold sortedR compactR
 rw [mem_ddK (Nat.le_refl _), List.take_length]
 exact mem_sortI
end Go.Argus
end
section
namespace Go.Argus
open Go.Abs
theorem wrap_u64 {n : Nat} (h : n < 2 ^ 64) : IntKind.u64.wrap (n : Int) = n := by
 unfold IntKind.wrap
 simp [IntKind.signed, IntKind.bits]
 omega
theorem andU_le {a b : Int} (ha : 0 <= a /\ a < 18446744073709551616) : 0 <= andU a b /\ andU a b <= a := by
 unfold andU intBitsV
 simp only
 rw [wrap_u64 (n := (BitVec.ofInt IntKind.u64.bits a &&& BitVec.ofInt IntKind.u64.bits b).toNat) (BitVec.isLt (w := 64) _)]
 obtain ⟨n, rfl⟩ := Int.eq_ofNat_of_zero_le ha.1
 have h1 : (BitVec.ofInt IntKind.u64.bits (n : Int)).toNat = n := by
  rw [BitVec.toNat_ofInt]
  show ((n : Int) % ((2 ^ 64 : Nat) : Int)).toNat = n
  omega
 have h2 : (BitVec.ofInt IntKind.u64.bits (n : Int) &&& BitVec.ofInt IntKind.u64.bits b).toNat <= n := by
  rw [BitVec.toNat_and, h1]
  exact Nat.and_le_left
 omega
end Go.Argus
end
section
open Go Go.Abs Go.Proofs Go.Argus
namespace Go.Argus
def encWs (l : List (List Int)) : List D := l.flatMap fun w => w.map U64
theorem drop_ws {sz : Nat} : ∀ {l : List (List Int)} {i : Nat} {w : List Int}, (∀ w ∈ l, w.length = sz) -> l[i]? = some w -> (encWs l).drop (i * sz) = w.map U64 ++ (encWs (l.drop (i + 1)))
 | [], i, w, _, h => by simp at h
 | a :: l, 0, w, _, h => by simp at h; subst h; simp [encWs]
 | a :: l, i + 1, w, hs, h => by
  have ha : (a.map U64).length = sz := by simpa using hs a (by simp)
  have h1 : (i + 1) * sz = (a.map U64).length + i * sz := by rw [ha, Nat.add_mul]; omega
  have ih := drop_ws (l := l) (i := i) (w := w) (fun w hw => hs w (by simp [hw])) (by simpa using h)
  unfold encWs at ih ⊢
  rw [List.flatMap_cons, h1, <- List.drop_drop, List.drop_left, ih, List.drop_succ_cons]
theorem ld_ws {sz : Nat} {l : List (List Int)} {i : Nat} {w : List Int} (h : ∀ w ∈ l, w.length = sz) (hi : l[i]? = some w) : ((encWs l).drop (i * sz)).take sz = w.map U64 := by
 rw [drop_ws h hi, List.take_append_of_le_length (by simp [h w (List.mem_of_getElem? hi)]), List.take_of_length_le (by simp [h w (List.mem_of_getElem? hi)])]
theorem len_encWs {sz : Nat} : ∀ {l : List (List Int)}, (∀ w ∈ l, w.length = sz) -> (encWs l).length = l.length * sz
 | [], _ => by simp [encWs]
 | a :: l, h => by
  have := len_encWs (l := l) fun w hw => h w (by simp [hw])
  unfold encWs at this ⊢
  rw [List.flatMap_cons, List.length_append, this, List.length_map, h a (by simp), List.length_cons, Nat.add_mul]; omega
theorem ln_ws {sz : Nat} {l : List (List Int)} {i : Nat} {w : List Int} (h : ∀ w ∈ l, w.length = sz) (hi : l[i]? = some w) : i * sz + sz <= (encWs l).length := by
 rw [len_encWs h]
 have := (List.getElem?_eq_some_iff.1 hi).1
 rw [<- Nat.succ_mul]; exact Nat.mul_le_mul_right _ this
theorem st_ws {sz : Nat} (hz : 2 <= sz) : ∀ {l : List (List Int)} {i : Nat} {w v : List Int}, (∀ w ∈ l, w.length = sz) -> l[i]? = some v -> w.length = sz -> splice (encWs l) (i * sz) (w.map U64) = encWs (l.set i w) := by
 intro l i w v h hi hw
 have key : splice (encWs l) (i * sz) (w.map U64) = (encWs l).take (i * sz) ++ w.map U64 ++ (encWs l).drop (i * sz + (w.map U64).length) := by
  unfold splice
  split
  ·rename_i x hx
   have : (w.map U64).length = 1 := by rw [hx]; rfl
   simp at this; omega
  ·rfl
 rw [key, List.length_map, hw]
 clear key
 induction l generalizing i with
 | nil => simp at hi
 | cons a l ih =>
  have ha : (a.map U64).length = sz := by simpa using h a (by simp)
  cases i with
  | zero =>
   simp only [Nat.zero_mul, List.take_zero, List.nil_append, Nat.zero_add, List.set_cons_zero]
   unfold encWs
   rw [List.flatMap_cons, List.flatMap_cons, <- ha, List.drop_left]
  | succ i =>
   have ih := ih (i := i) (fun w hw => h w (by simp [hw])) (by simpa using hi)
   simp only [List.set_cons_succ]
   unfold encWs at ih ⊢
   rw [List.flatMap_cons, List.flatMap_cons, <- ih, show (i + 1) * sz = (a.map U64).length + i * sz by rw [ha, Nat.add_mul]; omega, List.take_length_add_append, Nat.add_assoc, List.drop_length_add_append]
   simp
theorem replD_ws (n : Nat) (w : List Int) : replD n (w.map U64) = encWs (List.replicate n w) := by
 unfold replD encWs
 induction n with
 | zero => rfl
 | succ n ih => rw [List.replicate_succ, List.replicate_succ, List.flatten_cons, List.flatMap_cons, ih]
theorem replD_B (n : Nat) (b : Bool) : replD n [B b] = (List.replicate n b).map B := by
 unfold replD
 induction n with
 | zero => rfl
 | succ n ih => rw [List.replicate_succ, List.replicate_succ, List.flatten_cons, List.map_cons, ih]; rfl
theorem trs_ws (l : List (List Int)) : ∀ a ∈ encWs l, Tr a := .flat fun w => .map fun _ => .s _
theorem set_len {sz : Nat} {l : List (List Int)} {i : Nat} {w : List Int} (h : ∀ w ∈ l, w.length = sz) (hw : w.length = sz) : ∀ u ∈ l.set i w, u.length = sz := fun u hu => by
 rcases List.mem_or_eq_of_mem_set hu with h1 | h1
 ·exact h u h1
 ·rw [h1]; exact hw
theorem zipV_U64 : ∀ {w v : List Int}, w.length = v.length -> zipV (w.map U64) (v.map U64) = some (w.map (Value.int .u64), v.map (Value.int .u64))
 | [], [], _ => rfl
 | a :: w, b :: v, h => by
  have := zipV_U64 (w := w) (v := v) (by simpa using h)
  simp [zipV, sameK, this]
theorem veqs_U64 : ∀ {w v : List Int}, w.length = v.length -> veqs (w.map (Value.int .u64)) (v.map (Value.int .u64)) = (w == v)
 | [], [], _ => rfl
 | a :: w, b :: v, h => by
  have := veqs_U64 (w := w) (v := v) (by simpa using h)
  simp [veqs, veq1, this]
theorem kindV_U64 (w : List Int) : (w.map (Value.int .u64)).map kindV = List.replicate w.length 0 := by
 induction w with
 | nil => rfl
 | cons a w ih => simpa [kindV, List.replicate_succ] using ih
end Go.Argus
namespace Go.Abs
section
variable {P : Program} {env : Env} {m : Mem} {nx : Nat} {x y : Operand} {t p : TypeId} {k : IntKind} {n n' : Int}
theorem e_idxRm {j i l sz : Nat} {e : TypeId} {r : Row} (hx : (opd env x).core = .rs j 0 l) (hy : (opd env y).core = .s (.int k (i : Int))) (hm : m j = some r) (he : elemP P t = e) (hs : P.cellsOf e = sz) :
  Ef P (.indexAddr t x y) env m nx ⟨slT P t = true /\ i < l, .rp j (i * sz), [], [j], 0⟩ := by
 have h := e_idxR (P := P) (env := env) (m := m) (nx := nx) (t := t) hx hy hm he hs
 have h1 : 0 + ((i : Int)).toNat * sz = i * sz := by simp
 have h2 : (slT P t = true /\ (0 : Int) <= (i : Int) /\ (i : Int) < l) = (slT P t = true /\ i < l) := by
  apply propext; constructor
  ·rintro ⟨a, _, b⟩; exact ⟨a, by omega⟩
  ·rintro ⟨a, b⟩; exact ⟨a, by omega, by omega⟩
 rw [h1, h2] at h
 exact h
theorem e_build0 {ps : Array (Nat × Operand)} {e : TypeId} {l : Nat} {z : List D} (hu : P.underlying t = some (.array l e)) (hp : ps.toList = []) (hz : zeroP P t = z) : Ef P (.build t ps) env m nx ⟨tyOk P t = true /\ tyOk P e = true, .agg z, [], [], 0⟩ := by
 refine ⟨?_, rfl, rfl⟩
 simp only [aop, hu, hp, hz, List.map_nil, fillD, Option.map_some]
theorem e_neA {xs ys : List D} {us vs : List Value} {ks : List Nat} (hx : (opd env x).core = .agg xs) (hy : (opd env y).core = .agg ys) (hf : flatT P t = some ks) (hz : zipV xs ys = some (us, vs)) {c : Bool} (hc : (!veqs us vs) = c) :
  Ef P (.binOp .neq t x y p) env m nx ⟨us.map kindV = ks /\ P.eqGuardType P.depth t = false, .s (.bool c), [], [], 0⟩ := by
 refine ⟨?_, rfl, rfl⟩
 have hn : nilD P m .neq t (.agg xs) y = none := by
  unfold nilD
  split <;> first | rfl | (rename_i h; cases h)
 simp only [aop, rho, hx, hy, hn, binD, aggEqD, hf, hz, hc, Option.map_some]
end
def AllS (cs : List D) : Prop := ∀ d ∈ cs, ∃ v, d = .s v
theorem AllS.map {α : Type} {f : α -> Value} {l : List α} : AllS (l.map fun x => .s (f x)) := fun d hd => by
 obtain ⟨x, _, rfl⟩ := List.mem_map.1 hd; exact ⟨_, rfl⟩
theorem keepS {i sz : Nat} {cs0 cs : List D} (h : AllS cs) : cs.map (sub (fz0 i cs0 sz)) = cs := by
 induction cs with
 | nil => rfl
 | cons d cs ih =>
  obtain ⟨v, rfl⟩ := h d (by simp)
  rw [List.map_cons, ih fun d hd => h d (by simp [hd])]; rfl
theorem fr_keep {m : Mem} {i j sz : Nat} {cs0 cs : List D} {e : TypeId} (hji : j ≠ i) (hm : m j = some (.cells cs e)) (h : AllS cs) : (if j = i then none else (m j).map (Row.sub (fz0 i cs0 sz))) = some (.cells cs e) := by
 rw [if_neg hji, hm]
 show some (Row.cells (cs.map _) e) = _
 rw [keepS h]
theorem sub_sl {i sz n : Nat} {cs0 es : List D} : sub (fz0 i cs0 sz) (.sl es n) = .sl es n := rfl
theorem sub_rs_ne {i j sz off n : Nat} {cs0 : List D} (h : j ≠ i) : sub (fz0 i cs0 sz) (.rs j off n) = .rs j off n := by
 show (if j = i then _ else D.rs j off n) = _
 rw [if_neg h]
theorem sub_rs_eq {i sz n : Nat} {cs0 : List D} (h : cs0.length = n * sz) : sub (fz0 i cs0 sz) (.rs i 0 n) = .sl cs0 n := by
 show (if i = i then D.sl ((cs0.drop 0).take (n * sz)) n else _) = _
 rw [if_pos rfl, List.drop_zero, List.take_of_length_le oG]
end Go.Abs
namespace Go.Proofs.Tryz.K
set_option maxRecDepth 10000
theorem fl231 : flatT prog 231 = some (List.replicate 20 0) := by kernel_rfl
theorem eg231 : prog.eqGuardType prog.depth 231 = false := by kernel_rfl
theorem zz231 : zeroP prog 231 = (List.replicate 20 (0 : Int)).map U64 := z231
theorem u231 : prog.underlying 231 = some (.array 20 98) := by kernel_rfl
section
variable {env : Env} {m : Mem} {nx : Nat} {x y : Operand} {p : TypeId}
theorem e_neW {w v : List Int} (hx : (opd env x).core = encW w) (hy : (opd env y).core = encW v) (h : w.length = v.length) : Ef prog (.binOp .neq 231 x y p) env m nx ⟨(w.map (Value.int .u64)).map kindV = List.replicate 20 0 /\ prog.eqGuardType prog.depth 231 = false, B (w != v), [], [], 0⟩ :=
 e_neA hx hy fl231 (zipV_U64 h) (by rw [veqs_U64 h]; rfl)
theorem p_neW {w : List Int} (h : w.length = 20) : (w.map (Value.int .u64)).map kindV = List.replicate 20 0 /\ prog.eqGuardType prog.depth 231 = false := ⟨by rw [kindV_U64, h], eg231⟩
end
end Go.Proofs.Tryz.K
end
section
open Go Go.Abs Go.Proofs Go.Argus
namespace Go.Argus
open Go.Proofs.Tryz.K (nextR)
structure CS where
 ws : List (List Int)
 re : List Bool
 ch : Bool
def certUpd (x : End) (w : List Int) (s : CS) (n : Int) : CS :=
 if s.re.getD n.toNat false = false \/ meetW (s.ws.getD n.toNat []) (ontoR x n w) ≠ s.ws.getD n.toNat [] then ⟨s.ws.set n.toNat (meetW (s.ws.getD n.toNat []) (ontoR x n w)), s.re.set n.toNat true, true⟩ else s
def certB (bs : List Block) (s : CS) (k : Nat) : CS := match bs[k]? with
 | none => s
 | some x => if s.re.getD k false = true then (nextR x.fin).foldl (certUpd x.fin (throughR x (s.ws.getD k [])).1) s else s
def certPass (bs : List Block) (s : CS) : CS := (List.range bs.length).foldl (certB bs) ⟨s.ws, s.re, false⟩
def certIter (bs : List Block) : Nat -> CS -> CS
 | 0, s => s
 | k + 1, s => if (certPass bs s).ch = true then certIter bs k (certPass bs s) else certPass bs s
def allU : Int := 18446744073709551615
def argsW : Nat -> List Int
 | 0 => List.replicate 20 0
 | k + 1 => withI (argsW k) k
@[simp] theorem len_argsW : ∀ k, (argsW k).length = 20
 | 0 => rfl
 | k + 1 => by simp [argsW, len_argsW k]
def certInit (n args : Nat) : CS := ⟨(List.replicate n (List.replicate 20 allU)).set 0 (argsW args), (List.replicate n false).set 0 true, true⟩
def U64R (u : Int) : Prop := 0 <= u /\ u < 18446744073709551616
structure CsOk (n : Nat) (s : CS) : Prop where
 lw : s.ws.length = n
 lr : s.re.length = n
 l20 : ∀ w ∈ s.ws, w.length = 20
 rg : ∀ w ∈ s.ws, ∀ u ∈ w, U64R u
def sumW (w : List Int) : Nat := (w.map Int.toNat).sum
def muC (s : CS) : Nat := (s.ws.map sumW).sum + s.re.count false
def phC (s : CS) : Nat := muC s + if s.ch = true then 1 else 0
theorem sum_set {l : List Nat} {k x y : Nat} (h : l[k]? = some x) : (l.set k y).sum + x = l.sum + y := by
 induction l generalizing k with
 | nil => simp at h
 | cons a l ih => cases k with
  | zero => simp at h; subst h; simp; omega
  | succ k => have := ih (k := k) (by simpa using h); simp; omega
theorem sumW_set {l : List Int} {k : Nat} {x y : Int} (h : l[k]? = some x) : sumW (l.set k y) + x.toNat = sumW l + y.toNat := by
 unfold sumW
 rw [List.map_set]
 exact sum_set (by simp [h])
theorem U64R_andU {a b : Int} (h : U64R a) : U64R (andU a b) /\ andU a b <= a := by
 have := andU_le (b := b) h
 exact ⟨⟨this.1, by unfold U64R at h; omega⟩, this.2⟩
theorem set_self {α : Type} {l : List α} {k : Nat} {x : α} (h : l[k]? = some x) : l.set k x = l := by
 apply List.ext_getElem?
 intro i
 rw [List.getElem?_set]
 split
 ·rename_i e; subst e
  rw [if_pos (List.getElem?_eq_some_iff.1 h).1, h]
 ·rfl
theorem meetK_ok {w v : List Int} (hw : ∀ u ∈ w, U64R u) : ∀ k, k <= w.length -> (∀ u ∈ meetK w v k, U64R u) /\ sumW (meetK w v k) <= sumW w /\ (meetK w v k ≠ w -> sumW (meetK w v k) < sumW w)
 | 0, _ => ⟨hw, Nat.le_refl _, fun h => absurd rfl h⟩
 | k + 1, hk => by
  obtain ⟨h1, h2, h3⟩ := meetK_ok (v := v) hw k oG
  have hl : k < (meetK w v k).length := by simp; omega
  have hx : (meetK w v k)[k]? = some (meetK w v k)[k] := List.getElem?_eq_getElem hl
  have hg : (meetK w v k).getD k 0 = (meetK w v k)[k] := by simp [List.getD_eq_getElem?_getD, hx]
  have hm := h1 _ (List.getElem_mem hl)
  simp only [meetK, hg]
  generalize (meetK w v k)[k] = a at hx hm
  obtain ⟨r1, r2⟩ := U64R_andU (b := v.getD k 0) hm
  generalize andU a (v.getD k 0) = y at r1 r2
  have hs := sumW_set (y := y) hx
  unfold U64R at r1 hm
  refine ⟨fun u hu => ?_, by omega, fun hne => ?_⟩
  ·rcases List.mem_or_eq_of_mem_set hu with h | h
   ·exact h1 u h
   ·subst h; exact r1
  ·by_cases e : y = a
   ·subst e
    have : (meetK w v k).set k y = meetK w v k := set_self hx
    rw [this] at hne ⊢
    exact h3 hne
   ·omega
end Go.Argus
namespace Go.Argus
open Go.Proofs.Tryz.K (nextR)
theorem sumN_set {l : List (List Int)} {k : Nat} {w v : List Int} (h : l[k]? = some w) : ((l.set k v).map sumW).sum + sumW w = (l.map sumW).sum + sumW v := by
 rw [List.map_set]
 exact sum_set (by simp [h])
theorem count_set {l : List Bool} {k : Nat} {b : Bool} (h : l[k]? = some b) : (l.set k true).count false + (if b = true then 0 else 1) = l.count false := by
 induction l generalizing k with
 | nil => simp at h
 | cons a l ih => cases k with
  | zero => simp at h; subst h; cases a <;> simp
  | succ k => have := ih (k := k) (by simpa using h); simp only [List.set_cons_succ, List.count_cons]; omega
theorem certUpd_ok {x : End} {w : List Int} {s : CS} {n : Nat} {t : Int} (hs : CsOk n s) (ht : 0 <= t /\ t < n) : CsOk n (certUpd x w s t) /\ phC (certUpd x w s t) <= phC s := by
 obtain ⟨lw, lr, l20, rg⟩ := hs
 obtain ⟨k, rfl⟩ := Int.eq_ofNat_of_zero_le ht.1
 have hk : k < n := by omega
 have hx : s.ws[k]? = some s.ws[k] := List.getElem?_eq_getElem oG
 have hb : s.re[k]? = some s.re[k] := List.getElem?_eq_getElem oG
 have gx : s.ws.getD k [] = s.ws[k] := by simp [List.getD_eq_getElem?_getD, hx]
 have gb : s.re.getD k false = s.re[k] := by simp [List.getD_eq_getElem?_getD, hb]
 have hm : s.ws[k] ∈ s.ws := List.getElem_mem _
 unfold certUpd
 simp only [Int.toNat_natCast, gx, gb]
 generalize s.ws[k] = v at hx hm
 generalize s.re[k] = b at hb
 have v20 := l20 v hm
 obtain ⟨m1, m2, m3⟩ := meetK_ok (v := ontoR x k w) (rg v hm) 20 oG
 have hl := len_meetW v (ontoR x k w)
 change (∀ u ∈ meetW v (ontoR x k w), U64R u) at m1
 change sumW (meetW v (ontoR x k w)) <= sumW v at m2
 change meetW v (ontoR x k w) ≠ v -> sumW (meetW v (ontoR x k w)) < sumW v at m3
 generalize meetW v (ontoR x k w) = u at m1 m2 m3 hl
 split
 ·rename_i hc
  refine ⟨⟨by simp [lw], by simp [lr], set_len l20 oG, fun y hy => ?_⟩, ?_⟩
  ·rcases List.mem_or_eq_of_mem_set hy with h | h
   ·exact rg y h
   ·subst h; exact m1
  ·have h1 := sumN_set (v := u) hx
   have h2 := count_set hb
   unfold phC muC
   simp only [if_true]
   rcases hc with hc | hc
   ·subst hc
    simp only [Bool.false_eq_true, if_false] at h2
    omega
   ·have := m3 hc
    omega
 ·exact ⟨⟨lw, lr, l20, rg⟩, Nat.le_refl _⟩
theorem foldl_inv {α β : Type} {f : β -> α -> β} {J : β -> Prop} {φ : β -> Nat} {l : List α} (h : ∀ x ∈ l, ∀ s, J s -> J (f s x) /\ φ (f s x) <= φ s) {s : β} (hs : J s) : J (l.foldl f s) /\ φ (l.foldl f s) <= φ s := by
 induction l generalizing s with
 | nil => exact ⟨hs, Nat.le_refl _⟩
 | cons x l ih =>
  obtain ⟨h1, h2⟩ := h x (by simp) s hs
  obtain ⟨h3, h4⟩ := ih (fun y hy => h y (by simp [hy])) h1
  exact ⟨h3, Nat.le_trans h4 h2⟩
theorem len_nextR (x : End) : (nextR x).length <= x.whens.length + 3 := by
 have h1 := len_ddK (d := sortI (toR x)) (sortI (toR x)).length
 have h2 := len_toR x
 rw [len_sortI] at h1
 exact Nat.le_trans (by simpa [nextR, sortedR, compactR] using h1) h2
structure BlkOk (n : Nat) (b : Block) : Prop where
 len : b.ins.length <= 100000
 ins : ∀ x ∈ b.ins, InsOk x
 fin : FinOk b.fin
 rl : ∀ x ∈ b.ins, (readsR x).length <= 100000
 rf : (readsEnd b.fin).length <= 100000
 to : ∀ t ∈ nextR b.fin, 0 <= t /\ t < n
theorem certB_ok {bs : List Block} {s : CS} {n k : Nat} (hb : ∀ b ∈ bs, BlkOk n b) (hs : CsOk n s) : CsOk n (certB bs s k) /\ phC (certB bs s k) <= phC s := by
 unfold certB
 split
 ·exact ⟨hs, Nat.le_refl _⟩
 ·rename_i x hx
  split
  ·exact foldl_inv (J := CsOk n) (φ := phC) (fun t ht s hs => certUpd_ok hs ((hb x (List.mem_of_getElem? hx)).to t ht)) hs
  ·exact ⟨hs, Nat.le_refl _⟩
theorem certPass_ok {bs : List Block} {s : CS} {n : Nat} (hb : ∀ b ∈ bs, BlkOk n b) (hs : CsOk n s) : CsOk n (certPass bs s) /\ phC (certPass bs s) <= muC s := by
 have := foldl_inv (J := CsOk n) (φ := phC) (f := certB bs) (l := List.range bs.length) (fun k _ s hs => certB_ok hb hs) (s := ⟨s.ws, s.re, false⟩) ⟨hs.lw, hs.lr, hs.l20, hs.rg⟩
 exact this
def certR (bs : List Block) (args : Nat) : CS := certIter bs (muC (certInit bs.length args) + 1) (certInit bs.length args)
end Go.Argus
namespace Go.Argus
open Go.Proofs.Tryz.K (nextR)
theorem getD_some {α : Type} {l : List α} {k : Nat} {x d : α} (h : l[k]? = some x) : l.getD k d = x := by simp [List.getD_eq_getElem?_getD, h]
theorem rep_set {α : Type} {n k : Nat} {x y : α} (hk : k < n) : (List.replicate k x ++ List.replicate (n - k) y).set k x = List.replicate (k + 1) x ++ List.replicate (n - (k + 1)) y := by
 rw [show n - k = n - (k + 1) + 1 by omega, List.replicate_succ, List.replicate_succ', List.append_assoc, List.singleton_append]
 rw [List.set_append]
 simp
theorem mem_rep2 {α : Type} {a b : Nat} {x y z : α} (h : z ∈ List.replicate a x ++ List.replicate b y) : z = x \/ z = y := by
 rcases List.mem_append.1 h with h | h
 ·exact .inl (List.eq_of_mem_replicate h)
 ·exact .inr (List.eq_of_mem_replicate h)
theorem certUpd_yes {x : End} {w v : List Int} {s : CS} {k : Nat} {b : Bool} (hx : s.ws[k]? = some v) (hb : s.re[k]? = some b) (h : b = false \/ meetW v (ontoR x k w) ≠ v) : certUpd x w s k = ⟨s.ws.set k (meetW v (ontoR x k w)), s.re.set k true, true⟩ := by
 unfold certUpd
 rw [Int.toNat_natCast, getD_some hx, getD_some hb, if_pos h]
theorem certUpd_no {x : End} {w v : List Int} {s : CS} {k : Nat} {b : Bool} (hx : s.ws[k]? = some v) (hb : s.re[k]? = some b) (h : ¬ (b = false \/ meetW v (ontoR x k w) ≠ v)) : certUpd x w s k = s := by
 unfold certUpd
 rw [Int.toNat_natCast, getD_some hx, getD_some hb, if_neg h]
theorem certInit_ok {n args : Nat} (ha : ∀ u ∈ argsW args, U64R u) : CsOk n (certInit n args) := by
 refine ⟨by simp [certInit], by simp [certInit], set_len (fun w hw => by rw [List.eq_of_mem_replicate hw]; simp) (by simp), fun w hw u hu => ?_⟩
 rcases List.mem_or_eq_of_mem_set hw with h | h
 ·rw [List.eq_of_mem_replicate h] at hu
  rw [List.eq_of_mem_replicate hu]; simp [U64R, allU]
 ·rw [h] at hu; exact ha u hu
end Go.Argus
namespace Go.Proofs.Tryz.K
set_option maxRecDepth 10000
set_option maxHeartbeats 2000000 in
theorem k197 {p q : D} {f : Flow} {n args : Nat} (hp : Tr p) (hq : Tr q) (hp1 : p.one = true) (hq1 : q.one = true) (hn : f.blocks.length = n) (hn0 : 0 < n) (hn1 : n <= 100000) (ha : f.args = args) (ha1 : args <= 1000) (hau : ∀ u ∈ argsW args, U64R u) (hb : ∀ b ∈ f.blocks, BlkOk n b) :
  PCall prog 197 [.agg (encCode p q f)] (.tup [.sl (encWs (certR f.blocks args).ws) n, .sl ((certR f.blocks args).re.map B) n]) := by
 have htr : ∀ a ∈ [D.agg (encCode p q f)], Tr a := .cons (tr_code hp hq f) .nil
 refine pcall_of mixed ok197 (by rw [nt197]; rfl) htr (.tup (.cons (.sl (trs_ws _)) (.cons (.sl (.map fun _ => .s _)) .nil))) ?_
 rw [rs197, sk197]
 refine w_seq_region_g ?_
 refine J60 ?_;refine J23 ?_;refine J23 ?_
 refine ao_end (w_ghost (ghost_fr [(0, encCode p q f, 133)] eH (l := [(1, .pt (encCode p q f))]) eH) (w_seq_draw_g di_r197_1 ?_))
 refine J5 ?_;refine J5 ?_;refine J4 ?_;refine J15 ?_
 refine ao_a (e_makeSl rfl rfl V.h V.h) ak ⟨by omega, rfl, by omega, by rw [b231]; omega, V.h⟩ ?_
 refine J5 ?_;refine J5 ?_;refine J4 ?_;refine J15 ?_;refine J151 ?_;refine J18 ?_;refine J18 ?_
 have hn' : ((f.blocks.length : Nat) : Int).toNat = n := hn
 refine ao_endc (by simp [apartT]) (w_ghost (ghost_st (l := [(1, .pt (encCode p q f)), (4, .rs 1 0 n), (5, .rs 2 0 n)]) (ml := [(1, .cells (encWs (List.replicate n (List.replicate 20 0))) 231), (2, .cells ((List.replicate n false).map B) 4)]) ⟨rfl, ?_, ?_, trivial⟩ ⟨?_, ?_, trivial⟩) (w_assoc (w_seq_region_g ?_)))
 ·exact congrArg (fun k => D.rs 1 0 k) hn'
 ·exact congrArg (fun k => D.rs 2 0 k) hn'
 ·exact congrArg (fun c => some (Row.cells c 231)) ((congrArg (fun k => replD k ((List.replicate 20 (0 : Int)).map U64)) hn').trans (replD_ws n (List.replicate 20 0)))
 ·exact congrArg (fun c => some (Row.cells c 4)) ((congrArg (fun k => replD k [B false]) hn').trans (replD_B n false))
 refine J12 ?_;refine J121 ?_;refine J0 ?_
 refine ao_end (w_then (fun s => Ghost prog s ⟨envL [(1, .pt (encCode p q f)), (4, .rs 1 0 n), (5, .rs 2 0 n)], memL [(1, .cells (encWs (List.replicate n (List.replicate 20 allU))) 231), (2, .cells ((List.replicate n false).map B) 4)], 3⟩) (w_range (α := Nat)
  (fun k => ⟨envL [(1, .pt (encCode p q f)), (4, .rs 1 0 n), (5, .rs 2 0 n), (27, I n), (28, I k)], memL [(1, .cells (encWs (List.replicate k (List.replicate 20 allU) ++ List.replicate (n - k) (List.replicate 20 0))) 231), (2, .cells ((List.replicate n false).map B) 4)], 3⟩)
  (fun k => k <= n) (fun k => n - k) 0 (ghost_st eH eH) oG ?_) ?_)
 ·intro k hk
  refine J16 ?_
  refine ao_end ⟨_, rfl, fun h => ?_, fun h => ?_⟩
  ·have hlt : k < n := by simpa using h
   have hset := rep_set (x := List.replicate 20 allU) (y := List.replicate 20 (0 : Int)) hlt
   have hi : (List.replicate k (List.replicate 20 allU) ++ List.replicate (n - k) (List.replicate 20 (0 : Int)))[k]? = some (List.replicate 20 0) := by
    rw [List.getElem?_append_right (by simp), List.length_replicate, Nat.sub_self, show n - k = n - (k + 1) + 1 by omega, List.replicate_succ]; rfl
   have hws : ∀ w ∈ List.replicate k (List.replicate 20 allU) ++ List.replicate (n - k) (List.replicate 20 (0 : Int)), w.length = 20 := fun w hw => by
    rcases mem_rep2 hw with h | h <;> (rw [h]; simp)
   have k241 : PCall prog 241 [] (encW (List.replicate 20 allU)) := k241
   refine ws ?_;refine J0 ?_;refine J3 ?_
   refine ao_end (w_regB2 ?_)
   refine J12 ?_;refine J0 ?_;refine cl k241 ?_;refine J122 ?_;refine J152 ?_
   refine ao_end ?_
   refine J11 ?_;refine J0 ?_
   refine ao_end (next_of (k + 1) (ghost_st eH ⟨?_, rfl, trivial⟩) oG oG)
   rw [<- hset]; rfl
  ·have hge : ¬ k < n := by simpa using h
   have : k = n := by omega
   subst this
   refine ghost_st eH ⟨?_, rfl, trivial⟩
   show some (Row.cells (encWs (_ ++ List.replicate (k - k) _)) _) = _
   rw [Nat.sub_self, List.replicate_zero, List.append_nil]
 rintro s hg
 refine ⟨_, hg, w_seq_region_g ?_⟩
 have hi : (List.replicate n (List.replicate 20 allU))[0]? = some (List.replicate 20 allU) := by simp [hn0]
 have hws : ∀ w ∈ List.replicate n (List.replicate 20 allU), w.length = 20 := fun w hw => by rw [List.eq_of_mem_replicate hw]; simp
 refine J12 ?_;refine J12 ?_
 refine ao_p (e_build0 u231 rfl zz231) ak ⟨V.h, V.h⟩ ?_
 refine J122 ?_;refine J152 ?_;refine J38 ?_
 refine ao_w (e_store1 (d := .s (.bool _)) (cs' := _) rfl rfl rfl rfl rfl) ak (p_store V.h V.h (by first | (simp; done) | exact ⟨rfl, Nat.le_of_ble_eq_true rfl⟩ | (simp; omega)) rfl) ?_
 refine ao_end (w_ghost (ghost_st (l := [(1, .pt (encCode p q f)), (4, .rs 1 0 n), (5, .rs 2 0 n)]) (ml := [(1, .cells (encWs ((List.replicate n (List.replicate 20 allU)).set 0 (argsW 0))) 231), (2, .cells (((List.replicate n false).set 0 true).map B) 4)]) eH ⟨rfl, ?_, trivial⟩) (w_assoc (w_seq_region_g ?_)))
 ·rw [List.map_set]; rfl
 clear hi
 refine J5 ?_;refine J5 ?_;refine J4 ?_;refine J0 ?_
 refine ao_end (w_then (fun s => Ghost prog s ⟨envL [(1, .pt (encCode p q f)), (4, .rs 1 0 n), (5, .rs 2 0 n)], memL [(1, .cells (encWs ((List.replicate n (List.replicate 20 allU)).set 0 (argsW args))) 231), (2, .cells (((List.replicate n false).set 0 true).map B) 4)], 3⟩) (w_range (α := Nat)
  (fun k => ⟨envL [(1, .pt (encCode p q f)), (4, .rs 1 0 n), (5, .rs 2 0 n), (43, I args), (44, I k)], memL [(1, .cells (encWs ((List.replicate n (List.replicate 20 allU)).set 0 (argsW k))) 231), (2, .cells (((List.replicate n false).set 0 true).map B) 4)], 3⟩)
  (fun k => k <= args) (fun k => args - k) 0 (ghost_st ⟨rfl, rfl, rfl, congrArg I ha, rfl, trivial⟩ eH) oG ?_) ?_)
 ·intro k hk
  refine J16 ?_
  refine ao_end ⟨_, rfl, fun h => ?_, fun h => ?_⟩
  ·have hlt : k < args := by simpa using h
   have hi : ((List.replicate n (List.replicate 20 allU)).set 0 (argsW k))[0]? = some (argsW k) := by simp [hn0]
   have hws := set_len (i := 0) hws (len_argsW k)
   have k242 := k242 (w := argsW k) (n := (k : Int)) (by simp) oG
   refine ws ?_;refine J0 ?_;refine J3 ?_
   refine ao_end (w_regB2 ?_)
   refine J12 ?_;refine J12 ?_;refine J122 ?_
   refine ao_p (e_loadRA rfl rfl V.h V.h (ld_ws (by assumption) (by assumption))) ak (p_loadRA V.h V.h (ln_ws (by assumption) (by assumption))) ?_
   refine J0 ?_;refine cl k242 ?_;refine J122 ?_;refine J152 ?_
   refine ao_end ?_
   refine J11 ?_;refine J0 ?_
   refine ao_end (next_of (k + 1) (ghost_st eH ⟨?_, rfl, trivial⟩) oG oG)
   show some (Row.cells (encWs ((List.set _ 0 (argsW k)).set 0 (argsW (k + 1)))) _) = _
   rw [List.set_set]
  ·have hge : ¬ k < args := by simpa using h
   have : k = args := by omega
   subst this
   exact ghost_of eH
 clear hws
 rintro s hg
 refine ⟨_, hg, w_assoc (w_seq_region_g ?_)⟩
 refine J1 ?_
 have hi0 := certInit_ok (n := n) hau
 have hR : certR f.blocks args = certIter f.blocks (muC (certInit n args) + 1) (certInit n args) := by rw [certR, hn]
 generalize certR f.blocks args = R at hR ⊢
 refine ao_end (w_then (fun s => ∃ n', Ghost prog s ⟨envL [(4, .rs 1 0 n), (5, .rs 2 0 n)], memL [(1, .cells (encWs R.ws) 231), (2, .cells (R.re.map B) 4)], n'⟩ /\ CsOk n R) (w_while (α := CS × Nat)
  (fun s => ⟨envL [(1, .pt (encCode p q f)), (4, .rs 1 0 n), (5, .rs 2 0 n), (8, B s.1.ch)], memL [(1, .cells (encWs s.1.ws) 231), (2, .cells (s.1.re.map B) 4)], s.2⟩)
  (fun s => CsOk n s.1 /\ 3 <= s.2 /\ (s.1.ch = true -> ∃ k, muC s.1 < k /\ certIter f.blocks k s.1 = R) /\ (s.1.ch = false -> s.1 = R)) (fun s => 2 * muC s.1 + if s.1.ch = true then 1 else 0) (certInit n args, 3)
  (ghost_st eH eH) ⟨hi0, Nat.le_refl _, fun _ => ⟨_, Nat.lt_succ_self _, hR.symm⟩, fun h => by cases h⟩ ?_) ?_)
 ·rintro ⟨s0, N0⟩ ⟨hok0, hN0, hch, hnch⟩
  dsimp only at hok0 hN0 hch hnch ⊢
  refine J2 ?_
  refine ao_end ⟨_, rfl, fun h0 => ?_, fun h => ?_⟩
  ·obtain ⟨fuel, hfuel, hiter⟩ := hch h0
   obtain ⟨fuel, rfl⟩ : ∃ j, fuel = j + 1 := ⟨fuel - 1, by omega⟩
   have hpass := certPass_ok hb hok0
   refine ws ?_;refine J1 ?_
   refine ao_end (w_seq_region_g ?_)
   refine J5 ?_;refine J5 ?_;refine J4 ?_;refine J15 ?_;refine J0 ?_
   refine ao_end (w_range (α := Nat × Nat)
    (fun k => ⟨envL [(1, .pt (encCode p q f)), (4, .rs 1 0 n), (5, .rs 2 0 n), (8, B ((List.range k.1).foldl (certB f.blocks) ⟨s0.ws, s0.re, false⟩).ch), (58, encBlocks f.blocks), (59, I n), (60, I k.1)], memL [(1, .cells (encWs ((List.range k.1).foldl (certB f.blocks) ⟨s0.ws, s0.re, false⟩).ws) 231), (2, .cells (((List.range k.1).foldl (certB f.blocks) ⟨s0.ws, s0.re, false⟩).re.map B) 4)], k.2⟩)
    (fun k => k.1 <= n /\ 3 <= k.2) (fun k => n - k.1) (0, N0) (ghost_st ⟨rfl, rfl, rfl, rfl, rfl, congrArg (fun k : Nat => I k) hn, rfl, trivial⟩ eH) ⟨Nat.zero_le _, hN0⟩ ?_)
   rintro ⟨k, N⟩ ⟨hk, hN⟩
   dsimp only at hk hN ⊢
   have hok := (foldl_inv (J := CsOk n) (φ := phC) (f := certB f.blocks) (l := List.range k) (fun k _ s hs => certB_ok hb hs) (s := ⟨s0.ws, s0.re, false⟩) ⟨hok0.lw, hok0.lr, hok0.l20, hok0.rg⟩).1
   have hstep : (List.range (k + 1)).foldl (certB f.blocks) ⟨s0.ws, s0.re, false⟩ = certB f.blocks ((List.range k).foldl (certB f.blocks) ⟨s0.ws, s0.re, false⟩) k := by rw [List.range_succ, List.foldl_append]; rfl
   have hlast : k = n -> (List.range k).foldl (certB f.blocks) ⟨s0.ws, s0.re, false⟩ = certPass f.blocks s0 := fun e => by rw [e, certPass, hn]
   generalize (List.range k).foldl (certB f.blocks) ⟨s0.ws, s0.re, false⟩ = u at hok hstep hlast
   refine J16 ?_
   refine ao_end ⟨_, rfl, fun h => ?_, fun h => ?_⟩
   ·have hlt : k < n := by simpa using h
    have hx : f.blocks[k]? = some f.blocks[k] := List.getElem?_eq_getElem oG
    have hxm : f.blocks[k] ∈ f.blocks := List.getElem_mem _
    generalize f.blocks[k] = x at hx hxm
    have hxo := hb x hxm
    have hcb : certB f.blocks u k = if u.re.getD k false = true then (nextR x.fin).foldl (certUpd x.fin (throughR x (u.ws.getD k [])).1) u else u := by rw [certB, hx]
    have lw := hok.lw
    have lr := hok.lr
    have l20 := hok.l20
    have hw : u.ws[k]? = some u.ws[k] := List.getElem?_eq_getElem oG
    have hbk : u.re[k]? = some u.re[k] := List.getElem?_eq_getElem oG
    rw [getD_some hw, getD_some hbk] at hcb
    have w20 := l20 _ (List.getElem_mem (h := by omega) : u.ws[k] ∈ u.ws)
    generalize u.ws[k] = w at hw hcb w20
    generalize u.re[k] = b at hbk hcb
    have kd := drop_map (f := B) hbk
    refine ws ?_;refine J0 ?_;refine J54 ?_;refine J62 ?_;refine J24 ?_;refine J3 ?_;refine J78 ?_
    refine ao_end (w_assoc (w_seq_region ?_))
    refine J12 ?_;refine J0 ?_
    refine ao_p (e_idxRi rfl rfl (mskip oG (mskip oG rfl)) V.h V.h) ak ⟨V.h, by omega⟩ ?_
    refine ao_p (e_loadR rfl (mskip oG (mskip oG rfl)) kd V.h) ak (p_loadR V.h V.h kd) ?_
    refine J32 ?_
    refine ao_end (w_seq_if rfl (fun h => w_seq_exit (j_next ?_)) fun h => w_seq_skip (w_seq_draw_g di_r197_20 ?_))
    ·have hbf : b = false := by simpa using h
     subst hbf
     have hcb : certB f.blocks u k = u := hcb
     refine J11 ?_;refine J0 ?_
     refine ao_end (next_of (k + 1, N + 1) (ghost_st ⟨rfl, rfl, rfl, ?_, rfl, rfl, rfl, trivial⟩ ⟨?_, ?_, trivial⟩) ⟨by dsimp only; omega, by dsimp only; omega⟩ (by dsimp only; omega))
     ·dsimp only; rw [hstep, hcb]; rfl
     ·dsimp only; rw [hstep, hcb]; exact mskip oG (mskip oG rfl)
     ·dsimp only; rw [hstep, hcb]; exact mskip oG (mskip oG rfl)
    have hbt : b = true := by simpa using h
    subst hbt
    have hcb : certB f.blocks u k = (nextR x.fin).foldl (certUpd x.fin (throughR x w).1) u := hcb
    have k198 := k198 w20 hxo.len hxo.ins hxo.fin hxo.rl hxo.rf
    have hthr := len_throughR x w
    rw [w20] at hthr
    generalize hth : throughR x w = th at k198 hthr hcb
    obtain ⟨w', okk⟩ := th
    dsimp only at hthr k198 hcb
    clear kd
    refine ao_p (e_loadRA (vs := encBlock _) rfl (up_same _ _ _) V.h V.h rfl) ak (p_loadRA V.h V.h (by first | (simp; done) | omega | exact Nat.le_of_ble_eq_true rfl)) ?_
    refine J12 ?_;refine J0 ?_
    refine ao_p (e_idxRm rfl rfl (mskip oG (mskip oG (up_same _ _ _))) V.h V.h) ak ⟨V.h, by omega⟩ ?_
    refine ao_p (e_loadRA rfl (mskip oG (mskip oG (up_same _ _ _))) V.h V.h (ld_ws (by assumption) (by assumption))) ak (p_loadRA V.h V.h (ln_ws (by assumption) (by assumption))) ?_
    refine cl k198 ?_;refine J28 ?_;refine J153 ?_;refine J39 ?_;refine J24 ?_;refine J123 ?_;refine J1 ?_
    refine ao_endc (by simp [apartT]) (w_ghost (ghost_mem (l := [(1, .pt (encCode p q f)), (4, .rs 1 0 n), (5, .rs 2 0 n), (8, B u.ch), (10, .rp N 0), (11, .rp (N + 1) 0), (58, encBlocks f.blocks), (59, I n), (60, I k)]) (m' := up (up (memL [(1, .cells (encWs u.ws) 231), (2, .cells (u.re.map B) 4)]) N (some (.cells (encBlock x) 72))) (N + 1) (some (.cells (w'.map U64) 231))) eH (by rw [up_up, up_up])) (w_seq_region_g ?_))
    have k156 := k156 (x := x.fin)
    have k155 := k155to (x := x.fin) hxo.fin.wh
    change PCall _ _ _ (encInts (nextR x.fin)) at k155
    have hto := hxo.to
    have hll := len_nextR x.fin
    have hwh := hxo.fin.wh
    generalize nextR x.fin = l at k155 hcb hto hll
    refine ao_p (e_faddrR rfl (mskip oG (up_same _ _ _)) V.h) ak (p_pos V.h) ?_
    refine ao_p (e_loadRA (vs := encEnd _) rfl (mskip oG (up_same _ _ _)) V.h V.h rfl) ak (p_loadRA V.h V.h (by first | (simp; done) | omega | exact Nat.le_of_ble_eq_true rfl)) ?_
    refine cl k156 ?_;refine cl k155 ?_;refine J15 ?_;refine J0 ?_
    have hfin : certB f.blocks u k = l.foldl (certUpd x.fin w') u := hcb
    refine ao_end (w_range (α := Nat × Nat)
     (fun j => ⟨envL [(1, .pt (encCode p q f)), (4, .rs 1 0 n), (5, .rs 2 0 n), (8, B ((l.take j.1).foldl (certUpd x.fin w') u).ch), (10, .rp N 0), (11, .rp (N + 1) 0), (58, encBlocks f.blocks), (59, I n), (60, I k), (82, encInts l), (83, I l.length), (84, I j.1)], up (up (memL [(1, .cells (encWs ((l.take j.1).foldl (certUpd x.fin w') u).ws) 231), (2, .cells (((l.take j.1).foldl (certUpd x.fin w') u).re.map B) 4)]) N (some (.cells (encBlock x) 72))) (N + 1) (some (.cells (w'.map U64) 231)), j.2⟩)
     (fun j => j.1 <= l.length /\ N + 2 <= j.2) (fun j => l.length - j.1) (0, N + 2) (ghost_mem eH rfl) ⟨Nat.zero_le _, Nat.le_refl _⟩ ?_)
    rintro ⟨j, N'⟩ ⟨hj, hN'⟩
    dsimp only at hj hN' ⊢
    have vok := (foldl_inv (J := CsOk n) (φ := phC) (f := certUpd x.fin w') (l := l.take j) (fun t ht s hs => certUpd_ok hs (hto t (List.mem_of_mem_take ht))) hok).1
    have vstep : ∀ t, l[j]? = some t -> (l.take (j + 1)).foldl (certUpd x.fin w') u = certUpd x.fin w' ((l.take j).foldl (certUpd x.fin w') u) t := fun t ht => foldl_take ht
    have vlast : j = l.length -> (l.take j).foldl (certUpd x.fin w') u = certB f.blocks u k := fun e => by rw [hfin, List.take_of_length_le oG]
    generalize (l.take j).foldl (certUpd x.fin w') u = v at vok vstep vlast
    clear lw lr l20 hw hbk
    have lw := vok.lw
    have lr := vok.lr
    have l20 := vok.l20
    refine J16 ?_
    refine ao_end ⟨_, rfl, fun h => ?_, fun h => ?_⟩
    ·have hjl : j < l.length := by simpa using h
     have ht : l[j]? = some l[j] := List.getElem?_eq_getElem hjl
     have htm := hto _ (List.getElem_mem hjl)
     generalize l[j] = t at ht htm
     obtain ⟨i, rfl⟩ := Int.eq_ofNat_of_zero_le htm.1
     have hin : i < n := by omega
     have hw : v.ws[i]? = some v.ws[i] := List.getElem?_eq_getElem oG
     have hbk : v.re[i]? = some v.re[i] := List.getElem?_eq_getElem oG
     have y20 := l20 _ (List.getElem_mem (h := by omega) : v.ws[i] ∈ v.ws)
     generalize v.ws[i] = y at hw y20
     generalize v.re[i] = b at hbk
     have kd := drop_map (f := B) hbk
     have k199 := k199 (x := x.fin) (b := (i : Int)) (w := w') hthr (by have := hxo.fin.wh; omega) (by have := hxo.fin.wr; omega)
     have hln := len_ontoR x.fin i w'
     rw [hthr] at hln
     have k243 := k243 y20 hln
     have hlm := len_meetW y (ontoR x.fin i w')
     rw [y20] at hlm
     have yes := certUpd_yes (x := x.fin) (w := w') hw hbk
     have no := certUpd_no (x := x.fin) (w := w') hw hbk
     generalize meetW y (ontoR x.fin i w') = z at k243 hlm yes no
     refine ws ?_;refine J21 ?_;refine J4 ?_;refine J3 ?_
     refine ao_end (w_seq_draw_g di_r197_24 ?_)
     refine J12 ?_;refine J0 ?_
     refine ao_p (e_idxRm rfl rfl (mskip oG (mskip oG (up_same _ _ _))) V.h V.h) ak ⟨V.h, by omega⟩ ?_
     refine ao_p (e_loadRA rfl (mskip oG (mskip oG (up_same _ _ _))) V.h V.h (ld_ws (by assumption) (by assumption))) ak (p_loadRA V.h V.h (ln_ws (by assumption) (by assumption))) ?_
     refine ao_p (e_faddrR rfl (mskip oG (up_same _ _ _)) V.h) ak (p_pos V.h) ?_
     refine ao_p (e_loadRA (vs := encEnd _) rfl (mskip oG (up_same _ _ _)) V.h V.h rfl) ak (p_loadRA V.h V.h (by first | (simp; done) | omega | exact Nat.le_of_ble_eq_true rfl)) ?_
     refine J0 ?_
     refine ao_p (e_loadRA rfl (up_same _ _ _) V.h V.h (takeW (by first | rfl | exact Nat.le_of_ble_eq_true rfl | (simp; done) | (simp; omega) | omega))) ak (p_loadRA V.h V.h (by first | rfl | exact Nat.le_of_ble_eq_true rfl | (simp; done) | (simp; omega) | omega)) ?_
     refine cl k199 ?_;refine cl k243 ?_;refine J24 ?_;refine J123 ?_
     refine ao_endc (by simp [apartT]) (w_ghost (ghost_mem (l := [(1, .pt (encCode p q f)), (4, .rs 1 0 n), (5, .rs 2 0 n), (8, B v.ch), (10, .rp N 0), (11, .rp (N + 1) 0), (14, I i), (15, .rp N' 0), (58, encBlocks f.blocks), (59, I n), (60, I k), (82, encInts l), (83, I l.length), (84, I j)]) (m' := up (up (up (memL [(1, .cells (encWs v.ws) 231), (2, .cells (v.re.map B) 4)]) N (some (.cells (encBlock x) 72))) (N + 1) (some (.cells (w'.map U64) 231))) N' (some (.cells (z.map U64) 231))) eH (up_up _ _ _ _)) (w_seq_draw di_r197_25 ?_))
     refine J12 ?_;refine J0 ?_
     refine ao_p (e_idxRi rfl rfl (mskip oG (mskip oG (mskip oG rfl))) V.h V.h) ak ⟨V.h, by omega⟩ ?_
     refine ao_p (e_loadR rfl (mskip oG (mskip oG (mskip oG rfl))) kd V.h) ak (p_loadR V.h V.h kd) ?_
     refine J32 ?_;refine J2 ?_
     refine ao_g rfl rfl (e_loadRA rfl (up_same _ _ _) V.h V.h (takeW (by first | rfl | exact Nat.le_of_ble_eq_true rfl | (simp; done) | (simp; omega) | omega))) (fun hc => ⟨ak, (p_loadRA V.h V.h (by first | rfl | exact Nat.le_of_ble_eq_true rfl | (simp; done) | (simp; omega) | omega))⟩) ?_
     refine J118 ?_;refine J10 ?_
     refine ao_g rfl rfl (e_idxRm rfl rfl (mskip oG (mskip oG (mskip oG (up_same _ _ _)))) V.h V.h) (fun hc => ⟨ak, ⟨V.h, by omega⟩⟩) ?_
     refine ao_g rfl rfl (e_loadRA rfl (mskip oG (mskip oG (mskip oG (up_same _ _ _)))) V.h V.h (ld_ws (by assumption) (by assumption))) (fun hc => ⟨ak, (p_loadRA V.h V.h (ln_ws (by assumption) (by assumption)))⟩) ?_
     refine ao_g rfl rfl (e_neW rfl rfl (by first | assumption | (simp; omega) | omega)) (fun hc => ⟨ak, (p_neW (by first | assumption | (simp; omega) | omega))⟩) ?_
     refine J9 ?_
     refine ao_endc (by simp [apartT]) (w_if rfl (fun h => ?_) fun h => ?_)
     ·have yes := yes (by
       cases b with
       | false => exact .inl rfl
       | true => exact .inr (by simpa using h))
      have vstep := (vstep _ ht).trans yes
      clear yes no
      refine w_regB2 ?_
      refine J12 ?_;refine J0 ?_;refine J12 ?_;refine J0 ?_
      refine ao_p (e_loadRA rfl (up_same _ _ _) V.h V.h (takeW (by first | rfl | exact Nat.le_of_ble_eq_true rfl | (simp; done) | (simp; omega) | omega))) ak (p_loadRA V.h V.h (by first | rfl | exact Nat.le_of_ble_eq_true rfl | (simp; done) | (simp; omega) | omega)) ?_
      refine ao_p (e_idxRm rfl rfl (mskip oG (mskip oG (mskip oG (up_same _ _ _)))) V.h V.h) ak ⟨V.h, by omega⟩ ?_
      refine ao_w (e_storeA rfl rfl (mskip oG (mskip oG (mskip oG (up_same _ _ _)))) (st_ws (by decide) (by assumption) (by assumption) (by first | assumption | (simp; omega) | (simp; done)))) ak (p_storeW (by first | (simp; omega) | (simp; done)) (ln_ws (by assumption) (by assumption)) (oneW _)) ?_
      refine ao_p (e_idxRi rfl rfl (mskip oG (mskip oG (mskip oG (mskip oG rfl)))) V.h V.h) ak ⟨V.h, by omega⟩ ?_
      refine ao_w (e_store1 (d := .s (.bool _)) (cs' := _) rfl rfl (mskip oG (mskip oG (mskip oG (mskip oG rfl)))) rfl rfl) ak (p_store V.h V.h (by first | (simp; done) | exact ⟨rfl, Nat.le_of_ble_eq_true rfl⟩ | (simp; omega)) rfl) ?_
      refine J1 ?_
      refine ao_end ?_
      refine J11 ?_;refine J0 ?_
      refine ao_end (next_of (j + 1, N' + 1) (ghost_st (ml := [(N + 1, .cells (w'.map U64) 231), (N, .cells (encBlock x) 72), (1, .cells (encWs ((l.take (j + 1)).foldl (certUpd x.fin w') u).ws) 231), (2, .cells (((l.take (j + 1)).foldl (certUpd x.fin w') u).re.map B) 4)]) ⟨rfl, rfl, rfl, ?_, rfl, rfl, rfl, rfl, rfl, rfl, rfl, rfl, trivial⟩
       ⟨mskip oG (mskip oG (mskip oG (up_same _ _ _))), mskip oG (mskip oG (mskip oG (mskip oG (up_same _ _ _)))), mskip oG ?_, ?_, trivial⟩) ⟨by dsimp only; omega, by dsimp only; omega⟩ (by dsimp only; omega))
      ·dsimp only; rw [vstep]; rfl
      ·rw [vstep]; exact up_same _ _ _
      ·rw [vstep]; dsimp only; rw [List.map_set]; exact up_same _ _ _
     ·have no := no (by
       cases b with
       | false => simp at h
       | true => simpa using h)
      have vstep := (vstep _ ht).trans no
      refine w_end ?_
      refine J11 ?_;refine J0 ?_
      refine ao_end (next_of (j + 1, N' + 1) (ghost_st (ml := [(N + 1, .cells (w'.map U64) 231), (N, .cells (encBlock x) 72), (1, .cells (encWs ((l.take (j + 1)).foldl (certUpd x.fin w') u).ws) 231), (2, .cells (((l.take (j + 1)).foldl (certUpd x.fin w') u).re.map B) 4)]) ⟨rfl, rfl, rfl, ?_, rfl, rfl, rfl, rfl, rfl, rfl, rfl, rfl, trivial⟩
       ⟨mskip oG (up_same _ _ _), mskip oG (mskip oG (up_same _ _ _)), ?_, ?_, trivial⟩) ⟨by dsimp only; omega, by dsimp only; omega⟩ (by dsimp only; omega))
      ·dsimp only; rw [vstep]; rfl
      ·rw [vstep]; exact mskip oG (mskip oG (mskip oG rfl))
      ·rw [vstep]; exact mskip oG (mskip oG (mskip oG rfl))
    ·have hge : ¬ j < l.length := by simpa using h
     have vl := vlast oG
     subst vl
     show AOps _ _ _ _ _ _ _ _ _
     refine J11 ?_;refine J0 ?_
     refine ao_end (next_of (k + 1, N') (ghost_st ⟨rfl, rfl, rfl, ?_, rfl, rfl, rfl, trivial⟩ ⟨?_, ?_, trivial⟩) ⟨by dsimp only; omega, by dsimp only; omega⟩ (by dsimp only; omega))
     ·dsimp only; rw [hstep]; rfl
     ·dsimp only; rw [hstep]; exact mskip oG (mskip oG rfl)
     ·dsimp only; rw [hstep]; exact mskip oG (mskip oG rfl)
   ·have hge : ¬ k < n := by simpa using h
    have hl := hlast oG
    subst hl
    refine next_of (certPass f.blocks s0, N) (ghost_st eH eH) ⟨hok, hN, fun hc => ?_, fun hc => ?_⟩ ?_
    ·refine ⟨fuel, ?_, ?_⟩
     ·have := hpass.2
      unfold phC at this
      show muC (certPass f.blocks s0) < fuel
      rw [if_pos hc] at this
      omega
     ·dsimp only at hc ⊢
      rw [<- hiter, certIter, if_pos hc]
    ·dsimp only at hc ⊢
     rw [<- hiter, certIter, if_neg (by simp [hc])]
    ·have := hpass.2
     unfold phC at this
     dsimp only
     rw [if_pos h0]
     split at this <;> rename_i hc
     ·rw [if_pos hc]; omega
     ·rw [if_neg hc]; omega
  ·have hR' := hnch h
   subst hR'
   exact ⟨N0, ghost_st eH eH, hok0⟩
 ·rintro s ⟨n', hg, hokR⟩
  refine ⟨_, hg, w_seq_region_g ?_⟩
  refine J12 ?_;refine J12 ?_;refine J18 ?_;refine J18 ?_
  refine ao_end (w_ghost (ghost_fr [(1, encWs R.ws, 231), (2, R.re.map B, 4)] ⟨rfl, fr_keep oG rfl .map, trivial⟩ (l := [(2, .sl (encWs R.ws) n), (3, .sl (R.re.map B) n)]) ⟨?_, ?_, trivial⟩) (q_ret2 rfl rfl rfl))
  ·show sub (fz0 2 (R.re.map B) (prog.cellsOf 4)) (sub (fz0 1 (encWs R.ws) (prog.cellsOf 231)) (D.rs 1 0 n)) = _
   rw [sub_rs_eq (by rw [c231, len_encWs hokR.l20, hokR.lw]), sub_sl]
  ·show sub (fz0 2 (R.re.map B) (prog.cellsOf 4)) (sub (fz0 1 (encWs R.ws) (prog.cellsOf 231)) (D.rs 2 0 n)) = _
   rw [sub_rs_ne oG, sub_rs_eq (by rw [c4, List.length_map, hokR.lr, Nat.mul_one])]
end Go.Proofs.Tryz.K
end
section
open Go Go.Abs Go.Proofs Go.Argus
namespace Go.Abs
def jc (r : Nat) (l : List D) : D := match l with
 | [] => .z
 | _ => .rs r 0 l.length
theorem jc_ne {r : Nat} {l : List D} (h : l ≠ []) : jc r l = .rs r 0 l.length := by cases l with
 | nil => exact absurd rfl h
 | cons => rfl
def jagC (ρ : Nat -> Nat) (L : Nat -> List D) (n : Nat) : List D := (List.range n).map fun i => jc (ρ i) (L i)
@[simp] theorem len_jagC (ρ : Nat -> Nat) (L : Nat -> List D) (n : Nat) : (jagC ρ L n).length = n := by simp [jagC]
theorem drop_jag {ρ : Nat -> Nat} {L : Nat -> List D} {n i : Nat} (hi : i < n) : ∃ cs, (jagC ρ L n).drop i = jc (ρ i) (L i) :: cs :=
 ⟨_, drop_map (f := fun i => jc (ρ i) (L i)) (by simp [hi])⟩
theorem range_set {α : Type} {F : Nat -> α} {n i : Nat} {x : α} : ((List.range n).map F).set i x = (List.range n).map (up F i x) := by
 apply List.ext_getElem?
 intro k
 rw [List.getElem?_set]
 simp only [List.length_map, List.length_range, List.getElem?_map]
 split
 ·rename_i e; subst e
  split
  ·rename_i h; simp [h, up_same]
  ·rename_i h; simp [h]
 ·rename_i e
  by_cases hk : k < n
  ·simp [hk, up_ne F x (Ne.symm e)]
  ·simp [hk]
theorem jag_set {ρ : Nat -> Nat} {L : Nat -> List D} {n i r : Nat} {l : List D} (hl : l ≠ []) : (jagC ρ L n).set i (.rs r 0 l.length) = jagC (up ρ i r) (up L i l) n := by
 unfold jagC
 rw [range_set]
 refine congrArg (fun F => (List.range n).map F) (funext fun k => ?_)
 simp only [up]
 split
 ·rw [jc_ne hl]
 ·rfl
structure Jag (m : Mem) (nx j n : Nat) (e et : TypeId) (ρ : Nat -> Nat) (L : Nat -> List D) : Prop where
 row : m j = some (.cells (jagC ρ L n) e)
 jlt : j < nx
 row' : ∀ i, i < n -> L i ≠ [] -> m (ρ i) = some (.cells (L i) et)
 lt : ∀ i, i < n -> L i ≠ [] -> ρ i < nx
 ne : ∀ i, i < n -> L i ≠ [] -> ρ i ≠ j
 inj : ∀ i k, i < n -> k < n -> L i ≠ [] -> L k ≠ [] -> ρ i = ρ k -> i = k
theorem Jag.ext {m m' : Mem} {nx nx' j n : Nat} {e et : TypeId} {ρ : Nat -> Nat} {L : Nat -> List D} (h : Jag m nx j n e et ρ L) (hm : ∀ q, q < nx -> m' q = m q) (hn : nx <= nx') : Jag m' nx' j n e et ρ L :=
 ⟨(hm j h.jlt).trans h.row, Nat.lt_of_lt_of_le h.jlt hn, fun i hi hl => (hm _ (h.lt i hi hl)).trans (h.row' i hi hl), fun i hi hl => Nat.lt_of_lt_of_le (h.lt i hi hl) hn, h.ne, h.inj⟩
theorem Jag.upd {m m' : Mem} {nx nx' j n i r : Nat} {e et : TypeId} {ρ : Nat -> Nat} {L : Nat -> List D} {l : List D} (h : Jag m nx j n e et ρ L) (hi : i < n) (hl : l ≠ []) (hr : nx <= r) (hr' : r < nx')
  (hj : m' j = some (.cells ((jagC ρ L n).set i (.rs r 0 l.length)) e)) (hrow : m' r = some (.cells l et)) (hk : ∀ q, q < nx -> q ≠ j -> (L i ≠ [] -> q ≠ ρ i) -> m' q = m q) : Jag m' nx' j n e et (up ρ i r) (up L i l) := by
 have hjl := h.jlt
 have old : ∀ k, k < n -> k ≠ i -> L k ≠ [] -> m' (ρ k) = some (.cells (L k) et) := fun k hkn hki hne =>
  (hk _ (h.lt k hkn hne) (h.ne k hkn hne) fun hne' e => hki (h.inj k i hkn hi hne hne' e)).trans (h.row' k hkn hne)
 refine ⟨by rw [hj, jag_set hl], by omega, fun k hkn hne => ?_, fun k hkn hne => ?_, fun k hkn hne => ?_, fun a b ha hb hna hnb hab => ?_⟩
 ·by_cases hki : k = i
  ·subst hki; rw [up_same, up_same]; exact hrow
  ·rw [up_ne _ _ hki] at hne ⊢
   rw [up_ne _ _ hki]; exact old k hkn hki hne
 ·by_cases hki : k = i
  ·subst hki; rw [up_same]; exact hr'
  ·rw [up_ne _ _ hki] at hne ⊢
   have := h.lt k hkn hne; omega
 ·by_cases hki : k = i
  ·subst hki; rw [up_same]; omega
  ·rw [up_ne _ _ hki] at hne ⊢
   exact h.ne k hkn hne
 ·by_cases hai : a = i
  ·by_cases hbi : b = i
   ·omega
   ·subst hai
    rw [up_same, up_ne _ _ hbi] at hab
    rw [up_ne _ _ hbi] at hnb
    have := h.lt b hb hnb; omega
  ·by_cases hbi : b = i
   ·subst hbi
    rw [up_same, up_ne _ _ hai] at hab
    rw [up_ne _ _ hai] at hna
    have := h.lt a ha hna; omega
   ·rw [up_ne _ _ hai] at hna hab
    rw [up_ne _ _ hbi] at hnb hab
    exact h.inj a b ha hb hna hnb hab
theorem jag_init {m : Mem} {nx j n : Nat} {e et : TypeId} {ρ : Nat -> Nat} (hj : j < nx) (hm : m j = some (.cells (List.replicate n .z) e)) : Jag m nx j n e et ρ (fun _ => []) := by
 refine ⟨?_, hj, fun _ _ h => absurd rfl h, fun _ _ h => absurd rfl h, fun _ _ h => absurd rfl h, fun _ _ _ _ h => absurd rfl h⟩
 rw [hm]
 congr 2
 unfold jagC jc
 rw [List.map_const', List.length_range]
theorem replD_z (n : Nat) : replD n [.z] = List.replicate n D.z := by
 unfold replD
 induction n with
 | zero => rfl
 | succ n ih => rw [List.replicate_succ, List.replicate_succ, List.flatten_cons, ih]; rfl
def Inert (X : Nat -> Prop) (d : D) : Prop := ∀ i cs sz, X i -> sub (fz0 i cs sz) d = d
def InertR (X : Nat -> Prop) (r : Row) : Prop := ∀ i cs sz, X i -> Row.sub (fz0 i cs sz) r = r
theorem Inert.s {X : Nat -> Prop} (v : Value) : Inert X (.s v) := fun _ _ _ _ => rfl
theorem Inert.sl {X : Nat -> Prop} (es : List D) (n : Nat) : Inert X (.sl es n) := fun _ _ _ _ => rfl
theorem Inert.pt {X : Nat -> Prop} (es : List D) : Inert X (.pt es) := fun _ _ _ _ => rfl
theorem Inert.z {X : Nat -> Prop} : Inert X .z := fun _ _ _ _ => rfl
theorem Inert.u {X : Nat -> Prop} : Inert X .u := fun _ _ _ _ => rfl
theorem Inert.rs {X : Nat -> Prop} {j off n : Nat} (h : ¬ X j) : Inert X (.rs j off n) := fun i cs sz hi => sub_rs_ne fun e => h (e ▸ hi)
theorem Inert.rp {X : Nat -> Prop} {j off : Nat} (h : ¬ X j) : Inert X (.rp j off) := fun i cs sz hi => by
 show (if j = i then _ else D.rp j off) = _
 exact if_neg fun (e : j = i) => h (e ▸ hi)
theorem InertR.cells {X : Nat -> Prop} {cs : List D} {e : TypeId} (h : ∀ d ∈ cs, Inert X d) : InertR X (.cells cs e) := fun i cs0 sz hi => by
 show Row.cells (cs.map _) e = _
 congr 1
 induction cs with
 | nil => rfl
 | cons d cs ih => rw [List.map_cons, h d (by simp) i cs0 sz hi, ih fun d hd => h d (by simp [hd])]
theorem InertR.allS {X : Nat -> Prop} {cs : List D} {e : TypeId} (h : AllS cs) : InertR X (.cells cs e) := InertR.cells fun d hd => by obtain ⟨v, rfl⟩ := h d hd; exact .s v
theorem wk_refl (d : D) : Wk d d := fun _ _ _ _ h => h
theorem wk_z : Wk .z (.sl [] 0) := fun F β w v hv => by
 obtain ⟨x, rfl⟩ := hv.z_inv
 exact .sln x 0
theorem envL_inert {X : Nat -> Prop} {l : List (Nat × D)} (h : ∀ x ∈ l, Inert X x.2) (t : Nat) : Inert X (envL l t) := by
 induction l with
 | nil => exact .u
 | cons x l ih =>
  obtain ⟨k, d⟩ := x
  simp only [envL]
  split
  ·exact h (k, d) (by simp)
  ·exact ih fun y hy => h y (by simp [hy])
theorem memL_inert {X : Nat -> Prop} {l : List (Nat × Row)} (h : ∀ x ∈ l, InertR X x.2) {q : Nat} {r : Row} (hq : memL l q = some r) : InertR X r := by
 induction l with
 | nil => simp [memL] at hq
 | cons x l ih =>
  obtain ⟨k, d⟩ := x
  simp only [memL] at hq
  split at hq
  ·cases hq; exact h (k, r) (by simp)
  ·exact ih (fun y hy => h y (by simp [hy])) hq
theorem memL_none {l : List (Nat × Row)} {q : Nat} (h : ∀ x ∈ l, x.1 ≠ q) : memL l q = none := by
 induction l with
 | nil => rfl
 | cons x l ih =>
  obtain ⟨k, d⟩ := x
  simp only [memL]
  rw [if_neg fun e => h (k, d) (by simp) e.symm]
  exact ih fun y hy => h y (by simp [hy])
section
variable {P : Program}
open Classical in
noncomputable def jagM (ml : List (Nat × Row)) (j n k : Nat) (e et : TypeId) (ρ : Nat -> Nat) (L : Nat -> List D) : Mem := fun q =>
 if q = j then some (.cells ((List.range n).map fun i => if i < k then .sl (L i) (L i).length else jc (ρ i) (L i)) e)
 else if h : ∃ i, k <= i /\ i < n /\ L i ≠ [] /\ ρ i = q then some (.cells (L (Classical.choose h)) et)
 else memL ml q
theorem jag_step {m : Mem} {nx j n k : Nat} {e et : TypeId} {ρ : Nat -> Nat} {L : Nat -> List D} {l : List (Nat × D)} {ml : List (Nat × Row)} {X : Nat -> Prop} (h : Jag m nx j n e et ρ L) (hs : ∀ i, AllS (L i)) (het : P.cellsOf et = 1)
  (hX : ∀ i, i < n -> L i ≠ [] -> X (ρ i)) (hXj : ¬ X j) (hl : ∀ x ∈ l, Inert X x.2) (hml : ∀ x ∈ ml, InertR X x.2 /\ ¬ X x.1) (hk : k < n) :
  Ghost P ⟨envL l, jagM ml j n k e et ρ L, nx⟩ ⟨envL l, jagM ml j n (k + 1) e et ρ L, nx⟩ := by
 by_cases hne : L k = []
 ·refine .weak _ _ _ _ _ (fun t => wk_refl _) fun q => ?_
  by_cases hq : q = j
  ·subst hq
   right
   refine ⟨_, _, e, by simp only [jagM, if_true]; rfl, by simp only [jagM, if_true]; rfl, by simp, fun i d d' hd hd' => ?_⟩
   simp only [List.getElem?_map, Option.map_eq_some_iff] at hd hd'
   obtain ⟨a, ha, rfl⟩ := hd
   obtain ⟨b, hb, rfl⟩ := hd'
   rw [ha] at hb; cases hb
   by_cases h1 : a < k
   ·rw [if_pos h1, if_pos oG]; exact wk_refl _
   ·rw [if_neg h1]
    by_cases h2 : a = k
    ·subst h2
     rw [if_pos oG, hne]; exact wk_z
    ·rw [if_neg oG]; exact wk_refl _
  ·left
   simp only [jagM, if_neg hq]
   have : (∃ i, k + 1 <= i /\ i < n /\ L i ≠ [] /\ ρ i = q) ↔ (∃ i, k <= i /\ i < n /\ L i ≠ [] /\ ρ i = q) := by
    constructor
    ·rintro ⟨i, h1, h2⟩; exact ⟨i, by omega, h2⟩
    ·rintro ⟨i, h1, h2, h3, h4⟩
     exact ⟨i, by
      rcases Nat.lt_or_ge k i with g | g
      ·exact g
      ·have : i = k := by omega
       subst this; exact absurd hne h3, h2, h3, h4⟩
   by_cases hc : ∃ i, k <= i /\ i < n /\ L i ≠ [] /\ ρ i = q
   ·rw [dif_pos (this.2 hc), dif_pos hc]
    have e1 := Classical.choose_spec hc
    have e2 := Classical.choose_spec (this.2 hc)
    have : Classical.choose (this.2 hc) = Classical.choose hc := h.inj _ _ e2.2.1 e1.2.1 e2.2.2.1 e1.2.2.1 (e2.2.2.2.trans e1.2.2.2.symm)
    rw [this]
   ·rw [dif_neg (fun h => hc (this.1 h)), dif_neg hc]
 ·have hρj : ρ k ≠ j := h.ne k hk hne
  have hrow : jagM ml j n k e et ρ L (ρ k) = some (.cells (L k) et) := by
   have hc : ∃ i, k <= i /\ i < n /\ L i ≠ [] /\ ρ i = ρ k := ⟨k, Nat.le_refl _, hk, hne, rfl⟩
   simp only [jagM, if_neg hρj, dif_pos hc]
   have e1 := Classical.choose_spec hc
   have : Classical.choose hc = k := h.inj _ _ e1.2.1 hk e1.2.2.1 hne e1.2.2.2
   rw [this]
  have hg := Ghost.freeze (P := P) (envL l) (jagM ml j n k e et ρ L) nx (ρ k) (L k) et hrow
  have e1 : (fun t => sub (fz0 (ρ k) (L k) (P.cellsOf et)) (envL l t)) = envL l := funext fun t => envL_inert hl t _ _ _ (hX k hk hne)
  have e2 : (fun q => if q = ρ k then none else (jagM ml j n k e et ρ L q).map (Row.sub (fz0 (ρ k) (L k) (P.cellsOf et)))) = jagM ml j n (k + 1) e et ρ L := by
   funext q
   by_cases hqk : q = ρ k
   ·subst hqk
    rw [if_pos rfl]
    have hc : ¬ ∃ i, k + 1 <= i /\ i < n /\ L i ≠ [] /\ ρ i = ρ k := by
     rintro ⟨i, g1, g2, g3, g4⟩
     have := h.inj _ _ g2 hk g3 hne g4
     omega
    simp only [jagM, if_neg hρj, dif_neg hc]
    exact (memL_none fun x hx e => (hml x hx).2 (e ▸ hX k hk hne)).symm
   ·rw [if_neg hqk]
    by_cases hqj : q = j
    ·subst hqj
     simp only [jagM, if_true, Option.map_some]
     congr 1
     show Row.cells (List.map _ (List.map _ _)) e = _
     rw [List.map_map]
     congr 1
     refine List.map_congr_left fun i hi => ?_
     have hin : i < n := by simpa using hi
     simp only [Function.comp_apply]
     by_cases h1 : i < k
     ·rw [if_pos h1, if_pos oG]; rfl
     ·rw [if_neg h1]
      by_cases h2 : i = k
      ·subst h2
       rw [if_pos oG, jc_ne hne, het]
       exact sub_rs_eq oG
      ·rw [if_neg oG]
       by_cases h3 : L i = []
       ·rw [h3]; rfl
       ·rw [jc_ne h3]
        exact sub_rs_ne fun e => h2 (h.inj _ _ hin hk h3 hne e)
    ·simp only [jagM, if_neg hqj]
     have this : (∃ i, k + 1 <= i /\ i < n /\ L i ≠ [] /\ ρ i = q) ↔ (∃ i, k <= i /\ i < n /\ L i ≠ [] /\ ρ i = q) := by
      constructor
      ·rintro ⟨i, h1, h2⟩; exact ⟨i, by omega, h2⟩
      ·rintro ⟨i, h1, h2, h3, h4⟩
       exact ⟨i, by
        rcases Nat.lt_or_ge k i with g | g
        ·exact g
        ·have : i = k := by omega
         subst this; exact absurd h4.symm hqk, h2, h3, h4⟩
     by_cases hc : ∃ i, k <= i /\ i < n /\ L i ≠ [] /\ ρ i = q
     ·rw [dif_pos (this.2 hc), dif_pos hc]
      have e1 := Classical.choose_spec hc
      have e2 := Classical.choose_spec (this.2 hc)
      have : Classical.choose (this.2 hc) = Classical.choose hc := h.inj _ _ e2.2.1 e1.2.1 e2.2.2.1 e1.2.2.1 (e2.2.2.2.trans e1.2.2.2.symm)
      rw [this]
      exact congrArg some (InertR.allS (X := X) (hs _) _ _ _ (hX k hk hne))
     ·rw [dif_neg (fun h => hc (this.1 h)), dif_neg hc]
      cases hm : memL ml q with
      | none => rfl
      | some r => exact congrArg some (memL_inert (fun x hx => (hml x hx).1) hm _ _ _ (hX k hk hne))
  rw [e1, e2] at hg
  exact hg
theorem jag_ghost {env : Env} {m : Mem} {nx j n : Nat} {e et : TypeId} {ρ : Nat -> Nat} {L : Nat -> List D} {l : List (Nat × D)} {ml : List (Nat × Row)} (X : Nat -> Prop) (h : Jag m nx j n e et ρ L) (hs : ∀ i, AllS (L i)) (het : P.cellsOf et = 1)
  (hX : ∀ i, i < n -> L i ≠ [] -> X (ρ i)) (hXj : ¬ X j) (he : EnvHas l env) (hl : ∀ x ∈ l, Inert X x.2) (hm : MemHas ml m) (hml : ∀ x ∈ ml, InertR X x.2 /\ ¬ X x.1) :
  Ghost P ⟨env, m, nx⟩ ⟨envL l, memL ((j, .cells ((List.range n).map fun i => .sl (L i) (L i).length) e) :: ml), nx⟩ := by
 have key : ∀ k, k <= n -> Ghost P ⟨envL l, jagM ml j n 0 e et ρ L, nx⟩ ⟨envL l, jagM ml j n k e et ρ L, nx⟩ := fun k => by
  induction k with
  | zero => exact fun _ => .refl _
  | succ k ih => exact fun hk => (ih oG).trans (jag_step h hs het hX hXj hl hml oG)
 have h0 : Ghost P ⟨env, m, nx⟩ ⟨envL l, jagM ml j n 0 e et ρ L, nx⟩ := by
  refine (Ghost.forget env _ m nx (envL_of he)).trans (.drop _ _ _ _ fun q => ?_)
  by_cases hq : q = j
  ·subst hq
   left
   simp only [jagM, if_true, Nat.not_lt_zero, if_false]
   exact h.row.symm
  ·simp only [jagM, if_neg hq]
   by_cases hc : ∃ i, 0 <= i /\ i < n /\ L i ≠ [] /\ ρ i = q
   ·rw [dif_pos hc]
    have e1 := Classical.choose_spec hc
    left
    have := h.row' _ e1.2.1 e1.2.2.1
    rw [e1.2.2.2] at this
    exact this.symm
   ·rw [dif_neg hc]
    exact memL_of hm q
 refine h0.trans ((key n (Nat.le_refl _)).trans (.drop _ _ _ _ fun q => .inl ?_))
 by_cases hq : q = j
 ·subst hq
  simp only [memL, jagM, if_true]
  congr 2
  exact List.map_congr_left fun i hi => by rw [if_pos (by simpa using hi)]
 ·simp only [memL, if_neg hq, jagM]
  rw [dif_neg]
  rintro ⟨i, g1, g2, _⟩
  omega
end
end Go.Abs
namespace Go.Argus
open Go.Proofs.Tryz.K (nextR)
def aheadT (b : Nat) (L : Nat -> List Int) (t : Int) : Nat -> List Int := up L t.toNat (L t.toNat ++ [(b : Int)])
def aheadB (bs : List Block) (L : Nat -> List Int) (b : Nat) : Nat -> List Int := match bs[b]? with
 | none => L
 | some x => (nextR x.fin).foldl (aheadT b) L
def aheadL (bs : List Block) (k : Nat) : Nat -> List Int := (List.range k).foldl (aheadB bs) fun _ => []
def aheadR (bs : List Block) : List (List Int) := (List.range bs.length).map (aheadL bs bs.length)
def encLists (L : List (List Int)) : D := .sl (L.map encInts) L.length
theorem tr_lists (L : List (List Int)) : Tr (encLists L) := .sl (.map fun _ => tr_ints _)
theorem lists_of {F : Nat -> List Int} {n : Nat} : (D.sl ((List.range n).map fun i => .sl ((F i).map I) ((F i).map I).length) n) = encLists ((List.range n).map F) := by
 unfold encLists
 rw [List.map_map, List.length_map, List.length_range]
 congr 1
 exact List.map_congr_left fun i _ => by simp [encInts]
theorem aheadT_len {b : Nat} {L : Nat -> List Int} {t : Int} {c : Nat} (h : ∀ i, (L i).length <= c) : ∀ i, (aheadT b L t i).length <= c + 1 := fun i => by
 unfold aheadT
 simp only [up]
 split
 ·have := h t.toNat; simp; omega
 ·have := h i; omega
theorem map_up {L : Nat -> List Int} {k : Nat} {l : List Int} : (fun i => (up L k l i).map I) = up (fun i => (L i).map I) k (l.map I) := by
 funext i; simp only [up]; split <;> rfl
end Go.Argus
namespace Go.Proofs.Tryz.K
set_option maxRecDepth 10000
set_option maxHeartbeats 1000000 in
theorem k97 {p q : D} {f : Flow} {n : Nat} (hp : Tr p) (hq : Tr q) (hp1 : p.one = true) (hq1 : q.one = true) (hn : f.blocks.length = n) (hn1 : n <= 100000) (hw : ∀ b ∈ f.blocks, b.fin.whens.length <= 9) (ht : ∀ b ∈ f.blocks, ∀ t ∈ nextR b.fin, 0 <= t /\ t < n) :
  PCall prog 97 [.agg (encCode p q f)] (encLists (aheadR f.blocks)) := by
 have htr : ∀ a ∈ [D.agg (encCode p q f)], Tr a := .cons (tr_code hp hq f) .nil
 refine pcall_of mixed ok97 (by rw [nt97]; rfl) htr (tr_lists _) ?_
 rw [rs97, sk97]
 refine w_seq_region_g ?_
 refine J60 ?_;refine J23 ?_
 refine ao_end (w_ghost (ghost_fr [(0, encCode p q f, 133)] eH (l := [(1, .pt (encCode p q f))]) eH) (w_seq_region_g ?_))
 refine J5 ?_;refine J5 ?_;refine J4 ?_;refine J15 ?_;refine J154 ?_;refine J18 ?_
 have hn' : ((f.blocks.length : Nat) : Int).toNat = n := hn
 refine ao_end (w_ghost (ghost_st (l := [(1, .pt (encCode p q f)), (3, .rs 1 0 n)]) (ml := [(1, .cells (List.replicate n .z) 27)]) ⟨rfl, congrArg (fun k => D.rs 1 0 k) hn', trivial⟩ ⟨?_, trivial⟩) (w_assoc (w_seq_region_g ?_)))
 ·exact congrArg (fun c => some (Row.cells c 27)) ((congrArg (fun k => replD k [D.z]) hn').trans (replD_z n))
 refine J5 ?_;refine J5 ?_;refine J4 ?_;refine J15 ?_;refine J0 ?_
 refine ao_end (w_then (fun s => ∃ m nx ρ, Ghost prog s ⟨envL [(3, .rs 1 0 n)], m, nx⟩ /\ Jag m nx 1 n 27 3 ρ (fun i => (aheadL f.blocks n i).map I)) (w_range (α := Nat × Mem × Nat)
  (fun k => ⟨envL [(1, .pt (encCode p q f)), (3, .rs 1 0 n), (15, encBlocks f.blocks), (16, I n), (17, I k.1)], k.2.1, k.2.2⟩)
  (fun k => k.1 <= n /\ (∃ ρ, Jag k.2.1 k.2.2 1 n 27 3 ρ (fun i => (aheadL f.blocks k.1 i).map I)) /\ ∀ i, (aheadL f.blocks k.1 i).length <= 12 * k.1) (fun k => n - k.1) (0, memL [(1, .cells (List.replicate n .z) 27)], 2)
  (ghost_of ⟨rfl, rfl, rfl, congrArg (fun k : Nat => I k) hn, rfl, trivial⟩) ⟨Nat.zero_le _, ⟨fun _ => 0, jag_init (show 1 < 2 by decide) rfl⟩, fun _ => Nat.le_refl _⟩ ?_) ?_)
 ·rintro ⟨k, m, nx⟩ ⟨hk, ⟨ρ, hJ⟩, hlen⟩
  dsimp only at hk hJ hlen ⊢
  have hrow := hJ.row
  have hjl := hJ.jlt
  refine J16 ?_
  refine ao_end ⟨_, rfl, fun h => ?_, fun h => ?_⟩
  ·have hlt : k < n := by simpa using h
   have hx : f.blocks[k]? = some f.blocks[k] := List.getElem?_eq_getElem oG
   have hxm : f.blocks[k] ∈ f.blocks := List.getElem_mem _
   generalize f.blocks[k] = x at hx hxm
   have hstep : aheadL f.blocks (k + 1) = (nextR x.fin).foldl (aheadT k) (aheadL f.blocks k) := by
    rw [aheadL, List.range_succ, List.foldl_append]
    show aheadB f.blocks _ k = _
    rw [aheadB, hx]; rfl
   generalize aheadL f.blocks k = L0 at hJ hlen hrow hstep
   refine ws ?_;refine J0 ?_;refine J54 ?_;refine J62 ?_;refine J24 ?_;refine J3 ?_;refine J78 ?_
   have k156 := k156 (x := x.fin)
   have k155 := k155to (x := x.fin) (hw x hxm)
   change PCall _ _ _ (encInts (nextR x.fin)) at k155
   have hto := ht x hxm
   have hll := len_nextR x.fin
   have hwh := hw x hxm
   generalize nextR x.fin = l at k155 hto hll hstep
   refine ao_end (w_seq_region_g ?_)
   refine J99 ?_
   refine ao_p (e_loadRA (vs := encEnd _) rfl (up_same _ _ _) V.h V.h rfl) ak (p_loadRA V.h V.h (by first | (simp; done) | omega | exact Nat.le_of_ble_eq_true rfl)) ?_
   refine cl k156 ?_;refine cl k155 ?_;refine J15 ?_;refine J0 ?_
   refine ao_end (w_range (α := Nat × Mem × Nat)
    (fun j => ⟨envL [(1, .pt (encCode p q f)), (3, .rs 1 0 n), (4, I k), (15, encBlocks f.blocks), (16, I n), (17, I k), (25, encInts l), (26, I l.length), (27, I j.1)], j.2.1, j.2.2⟩)
    (fun j => j.1 <= l.length /\ (∃ ρ, Jag j.2.1 j.2.2 1 n 27 3 ρ (fun i => ((l.take j.1).foldl (aheadT k) L0 i).map I)) /\ ∀ i, ((l.take j.1).foldl (aheadT k) L0 i).length <= 12 * k + j.1) (fun j => l.length - j.1) (0, up m nx (some (.cells (encBlock x) 72)), nx + 1)
    (ghost_mem eH (up_up _ _ _ _)) ⟨Nat.zero_le _, ⟨ρ, hJ.ext (fun q hq => mskip oG rfl) (by dsimp only; omega)⟩, hlen⟩ ?_)
   clear hJ hrow hlen
   rintro ⟨j, m, nx⟩ ⟨hj, ⟨ρ, hJ⟩, hlen⟩
   dsimp only at hj hJ hlen ⊢
   have hrow := hJ.row
   have hjl := hJ.jlt
   have vstep : ∀ t, l[j]? = some t -> (l.take (j + 1)).foldl (aheadT k) L0 = aheadT k ((l.take j).foldl (aheadT k) L0) t := fun t ht => foldl_take ht
   have vlast : j = l.length -> (l.take j).foldl (aheadT k) L0 = aheadL f.blocks (k + 1) := fun e => by rw [hstep, List.take_of_length_le oG]
   generalize (l.take j).foldl (aheadT k) L0 = L at hJ hlen hrow vstep vlast
   refine J16 ?_
   refine ao_end ⟨_, rfl, fun h => ?_, fun h => ?_⟩
   ·have hjl' : j < l.length := by simpa using h
    have hti : l[j]? = some l[j] := List.getElem?_eq_getElem hjl'
    have htm := hto _ (List.getElem_mem hjl')
    generalize l[j] = t at hti htm
    obtain ⟨i, rfl⟩ := Int.eq_ofNat_of_zero_le htm.1
    have hin : i < n := by omega
    have hL := hlen i
    have vstep : (l.take (j + 1)).foldl (aheadT k) L0 = up L i (L i ++ [(k : Int)]) := vstep _ hti
    have hlen' : ∀ i, ((l.take (j + 1)).foldl (aheadT k) L0 i).length <= 12 * k + (j + 1) := fun a => by
     rw [vstep]; exact aheadT_len (t := (i : Int)) hlen a
    have hLm : (fun a => ((l.take (j + 1)).foldl (aheadT k) L0 a).map I) = up (fun a => (L a).map I) i ((L i ++ [(k : Int)]).map I) := by rw [vstep]; exact map_up
    obtain ⟨cs, kd⟩ := drop_jag (ρ := ρ) (L := fun i => (L i).map I) hin
    refine ws ?_;refine J21 ?_;refine J4 ?_;refine J3 ?_
    refine ao_end (w_regB2 ?_)
    by_cases hz : L i = []
    ·have hjc : jc (ρ i) ((L i).map I) = .z := by rw [hz]; rfl
     rw [hjc] at kd
     refine J12 ?_;refine J0 ?_;refine J12 ?_;refine J0 ?_;refine J75 ?_;refine J89 ?_;refine J0 ?_;refine J40 ?_;refine J116 ?_
     refine ao_p (e_idxRi rfl rfl (mskip oG (mskip oG hrow)) V.h V.h) ak ⟨V.h, by omega⟩ ?_
     refine ao_w (e_store1 (d := .rs _ _ _) (cs' := _) rfl rfl (mskip oG (mskip oG hrow)) rfl rfl) ak (p_store V.h V.h (by first | (simp; done) | exact ⟨rfl, Nat.le_of_ble_eq_true rfl⟩ | (simp; omega)) rfl) ?_
     refine ao_end ?_
     refine J11 ?_;refine J0 ?_
     refine ao_end (next_of (j + 1, up (up (up m nx (some (.cells [I k] 3))) (nx + 1) (some (.cells [I k] 3))) 1 (some (.cells ((jagC ρ (fun i => (L i).map I) n).set i (.rs (nx + 1) 0 1)) 27)), nx + 2) (ghost_of eH) ⟨by dsimp only; omega, ⟨up ρ i (nx + 1), ?_⟩, hlen'⟩ (by dsimp only; omega))
     dsimp only
     rw [hLm]
     refine hJ.upd hin (by simp) oG oG ?_ ?_ (fun q hq hqj _ => ?_)
     ·rw [hz]; exact up_same _ _ _
     ·rw [hz]; exact mskip oG (up_same _ _ _)
     ·exact mskip oG (mskip oG (mskip oG rfl))
    ·have hne : (L i).map I ≠ [] := by simpa using hz
     have hjc : jc (ρ i) ((L i).map I) = .rs (ρ i) 0 (L i).length := by rw [jc_ne hne, List.length_map]
     rw [hjc] at kd
     have hrow2 := hJ.row' i hin hne
     have hρn := hJ.lt i hin hne
     have hρ1 := hJ.ne i hin hne
     refine J12 ?_;refine J0 ?_;refine J12 ?_;refine J0 ?_;refine J75 ?_;refine J89 ?_;refine J0 ?_;refine J40 ?_;refine J143 ?_
     refine ao_p (e_idxRi rfl rfl (mskip oG (mskip oG (mskip oG hrow))) V.h V.h) ak ⟨V.h, by omega⟩ ?_
     refine ao_w (e_store1 (d := .rs _ _ _) (cs' := _) rfl rfl (mskip oG (mskip oG (mskip oG hrow))) rfl rfl) ak (p_store V.h V.h (by first | (simp; done) | exact ⟨rfl, Nat.le_of_ble_eq_true rfl⟩ | (simp; omega)) rfl) ?_
     refine ao_end ?_
     refine J11 ?_;refine J0 ?_
     refine ao_end (next_of (j + 1, up (up (up (up m nx (some (.cells [I k] 3))) (ρ i) none) (nx + 1) (some (.cells ((L i).map I ++ [I k]) 3))) 1 (some (.cells ((jagC ρ (fun i => (L i).map I) n).set i (.rs (nx + 1) 0 ((L i).length + 1))) 27)), nx + 2) (ghost_of eH) ⟨by dsimp only; omega, ⟨up ρ i (nx + 1), ?_⟩, hlen'⟩ (by dsimp only; omega))
     dsimp only
     rw [hLm]
     refine hJ.upd hin (by simp) oG oG ?_ ?_ (fun q hq hqj hqi => ?_)
     ·rw [List.length_map, List.length_append]; exact up_same _ _ _
     ·rw [List.map_append]; exact mskip oG (up_same _ _ _)
     ·have := hqi hne
      exact mskip oG (mskip oG (mskip oG (mskip oG rfl)))
   ·have hge : ¬ j < l.length := by simpa using h
    have vl := vlast oG
    subst vl
    show AOps _ _ _ _ _ _ _ _ _
    refine J11 ?_;refine J0 ?_
    refine ao_end (next_of (k + 1, m, nx) (ghost_of eH) ⟨by dsimp only; omega, ⟨ρ, hJ⟩, fun i => by have := hlen i; dsimp only at this ⊢; omega⟩ (by dsimp only; omega))
  ·have hge : ¬ k < n := by simpa using h
   have : k = n := by omega
   subst this
   exact ⟨m, nx, ρ, ghost_of eH, hJ⟩
 ·rintro s ⟨m, nx, ρ, hg, hJ⟩
  have hXj : ¬ ∃ i, i < n /\ (aheadL f.blocks n i).map I ≠ [] /\ ρ i = 1 := fun ⟨i, h1, h2, h3⟩ => hJ.ne i h1 h2 h3
  refine ⟨_, hg.trans (jag_ghost (l := [(3, .rs 1 0 n)]) (ml := []) (fun r => ∃ i, i < n /\ (aheadL f.blocks n i).map I ≠ [] /\ ρ i = r) hJ (fun _ => .map) c3 (fun i h1 h2 => ⟨i, h1, h2, rfl⟩) hXj ⟨rfl, trivial⟩ (fun x hx => ?_) trivial (fun x hx => by cases hx)), w_seq_region_g ?_⟩
  ·simp at hx; subst hx; exact .rs hXj
  refine J12 ?_;refine J18 ?_
  refine ao_end (w_ghost (ghost_fr [(1, _, 27)] eH (l := [(2, encLists (aheadR f.blocks))]) ⟨?_, trivial⟩) (q_ret1 rfl rfl))
  show sub (fz0 1 _ (prog.cellsOf 27)) (D.rs 1 0 n) = _
  rw [sub_rs_eq (by rw [c27]; simp), lists_of, aheadR, hn]
end Go.Proofs.Tryz.K
end
section
open Go Go.Abs Go.Proofs Go.Argus
namespace Go.Abs
section
variable {P : Program} {env : Env} {m : Mem} {nx : Nat} {x y : Operand} {t e : TypeId} {k : IntKind}
theorem take_app {w : List Int} {rest : List D} {sz : Nat} (h : w.length = sz) : (w.map U64 ++ rest).take sz = w.map U64 := by
 rw [List.take_append_of_le_length (by simp [h]), List.take_of_length_le (by simp [h])]
theorem e_idxW {sz n i : Nat} {l : List (List Int)} {w : List Int} (hx : (opd env x).core = .sl (encWs l) n) (hy : (opd env y).core = .s (.int k i)) (he : elemP P t = e) (hs : P.cellsOf e = sz) (hl : ∀ w ∈ l, w.length = sz) (hz : l[i]? = some w) :
  Ef P (.indexAddr t x y) env m nx ⟨slT P t = true /\ 0 <= (i : Int) /\ (i : Int) < n /\ ((i : Int).toNat + 1) * sz <= (encWs l).length, .pt (w.map U64 ++ encWs (l.drop (i + 1))), [], [], 0⟩ :=
 e_idx hx hy he hs (by rw [Int.toNat_natCast]; exact drop_ws hl hz)
theorem p_idxW {sz n i : Nat} {l : List (List Int)} {w : List Int} (ht : slT P t = true) (hl : ∀ w ∈ l, w.length = sz) (hz : l[i]? = some w) (hn : i < n) : slT P t = true /\ 0 <= (i : Int) /\ (i : Int) < n /\ ((i : Int).toNat + 1) * sz <= (encWs l).length := by
 have := ln_ws hl hz
 refine ⟨ht, by omega, by omega, ?_⟩
 rw [Int.toNat_natCast, Nat.add_mul, Nat.one_mul]; exact this
theorem ghost_fz {i : Nat} {cs : List D} {l : List (Nat × D)} (hm : m i = some (.cells cs e)) (hl : EnvHas l fun t => sub (fz0 i cs (P.cellsOf e)) (env t)) : Ghost P ⟨env, m, nx⟩ ⟨envL l, fun _ => none, nx⟩ :=
 ghost_fr [(i, cs, e)] ⟨hm, trivial⟩ hl
theorem ghost_dn {l : List (Nat × D)} (hl : EnvHas l env) : Ghost P ⟨env, m, nx⟩ ⟨envL l, fun _ => none, nx⟩ := ghost_to hl fun _ => .inr rfl
end
end Go.Abs
namespace Go.Argus
open Go.Proofs.Tryz.K (nextR)
theorem range_all_false {P : Nat -> Bool} {n k : Nat} (hk : k < n) (h : P k = false) : (List.range n).all P = false := by
 refine Bool.eq_false_iff.2 fun ht => ?_
 have := List.all_eq_true.1 ht k (by simpa using hk)
 rw [h] at this; cases this
theorem range_all_succ {P : Nat -> Bool} {k : Nat} (h : (List.range k).all P = true) (hk : P k = true) : (List.range (k + 1)).all P = true := by
 rw [List.range_succ, List.all_append, h]; simp [hk]
abbrev encBools (l : List Bool) : D := .sl (l.map B) l.length
def noBlk : Block := ⟨[], ⟨0, 0, 0, 0, 0, .empty, noIns0, [], [], 0⟩⟩
def phiEdge (bs : List Block) (s : CS) (b : Nat) (y : Ins) (i : Nat) : Bool :=
 let p := ((aheadL bs bs.length b).getD i 0).toNat
 !(s.re.getD p false) || hasW (ontoR (bs.getD p noBlk).fin b (throughR (bs.getD p noBlk) (s.ws.getD p [])).1) (y.args.getD i 0).toNat
def phiOk (bs : List Block) (s : CS) (b : Nat) (y : Ins) : Bool := (List.range (aheadL bs bs.length b).length).all (phiEdge bs s b y)
def isPhi (y : Ins) : Bool := y.op == 19
def blkReads (bs : List Block) (s : CS) (b : Nat) : Bool :=
 !(s.re.getD b false) || ((throughR (bs.getD b noBlk) (s.ws.getD b [])).2 && ((bs.getD b noBlk).ins.takeWhile isPhi).all (phiOk bs s b))
def readsOkR (bs : List Block) (args : Nat) : Bool := (List.range bs.length).all (blkReads bs (certR bs args))
theorem takeWhile_eq {α : Type} {p : α -> Bool} {l : List α} {j : Nat} (h : ∀ y ∈ l.take j, p y = true) (h' : ∀ y, l[j]? = some y -> p y = false) : l.takeWhile p = l.take j := by
 induction l generalizing j with
 | nil => simp
 | cons a l ih => cases j with
  | zero => have := h' a rfl; simp [this]
  | succ j =>
   have ha := h a (by simp)
   rw [List.takeWhile_cons, if_pos ha, List.take_succ_cons, ih (j := j) (fun y hy => h y (by simp [hy])) (fun y hy => h' y (by simpa using hy))]
theorem mem_aheadT {b : Nat} {p : Int} : ∀ {l : List Int} {L : Nat -> List Int} {i : Nat}, p ∈ (l.foldl (aheadT b) L) i ↔ p ∈ L i \/ (p = b /\ ∃ t ∈ l, t.toNat = i)
 | [], L, i => by simp
 | t :: l, L, i => by
  rw [List.foldl_cons, mem_aheadT (l := l)]
  unfold aheadT
  simp only [up]
  by_cases h : i = t.toNat
  ·subst h
   simp only [if_true, List.mem_append, List.mem_singleton]
   constructor
   ·rintro ((h | h) | ⟨h, u, h1, h2⟩)
    ·exact .inl h
    ·exact .inr ⟨h, t, by simp, rfl⟩
    ·exact .inr ⟨h, u, by simp [h1], h2⟩
   ·rintro (h | ⟨h, u, h1, h2⟩)
    ·exact .inl (.inl h)
    ·exact .inl (.inr h)
  ·rw [if_neg h]
   constructor
   ·rintro (h' | ⟨h', u, h1, h2⟩)
    ·exact .inl h'
    ·exact .inr ⟨h', u, by simp [h1], h2⟩
   ·rintro (h' | ⟨h', u, h1, h2⟩)
    ·exact .inl h'
    ·rcases List.mem_cons.1 h1 with e | e
     ·subst e; exact absurd h2.symm h
     ·exact .inr ⟨h', u, e, h2⟩
theorem mem_aheadL {bs : List Block} {p : Int} {i : Nat} : ∀ {k : Nat}, p ∈ aheadL bs k i ↔ ∃ b : Nat, p = b /\ b < k /\ ∃ x, bs[b]? = some x /\ ∃ t ∈ nextR x.fin, t.toNat = i
 | 0 => by simp [aheadL]
 | k + 1 => by
  have ih := mem_aheadL (bs := bs) (p := p) (i := i) (k := k)
  have e : aheadL bs (k + 1) = aheadB bs (aheadL bs k) k := by rw [aheadL, List.range_succ, List.foldl_append]; rfl
  rw [e, aheadB]
  cases hx : bs[k]? with
  | none =>
   simp only
   rw [ih]
   constructor
   ·rintro ⟨b, h1, h2, h3⟩; exact ⟨b, h1, by omega, h3⟩
   ·rintro ⟨b, h1, h2, x, h3, h4⟩
    refine ⟨b, h1, ?_, x, h3, h4⟩
    rcases Nat.lt_or_ge b k with g | g
    ·exact g
    ·have : b = k := by omega
     subst this; rw [hx] at h3; cases h3
  | some x =>
   simp only
   rw [mem_aheadT, ih]
   constructor
   ·rintro (⟨b, h1, h2, h3⟩ | ⟨h1, h2⟩)
    ·exact ⟨b, h1, by omega, h3⟩
    ·exact ⟨k, h1, by omega, x, hx, h2⟩
   ·rintro ⟨b, h1, h2, x', h3, h4⟩
    rcases Nat.lt_or_ge b k with g | g
    ·exact .inl ⟨b, h1, g, x', h3, h4⟩
    ·have : b = k := by omega
     subst this; rw [hx] at h3; cases h3; exact .inr ⟨h1, h4⟩
theorem certIter_ok {bs : List Block} {n : Nat} (hb : ∀ b ∈ bs, BlkOk n b) : ∀ (k : Nat) {s : CS}, CsOk n s -> CsOk n (certIter bs k s)
 | 0, _, h => h
 | k + 1, s, h => by
  rw [certIter]
  split
  ·exact certIter_ok hb k (certPass_ok hb h).1
  ·exact (certPass_ok hb h).1
theorem certR_ok {bs : List Block} {args : Nat} (hb : ∀ b ∈ bs, BlkOk bs.length b) (hau : ∀ u ∈ argsW args, U64R u) : CsOk bs.length (certR bs args) := certIter_ok hb _ (certInit_ok hau)
theorem foldT_len {b : Nat} : ∀ {l : List Int} {L : Nat -> List Int} {c : Nat}, (∀ i, (L i).length <= c) -> ∀ i, ((l.foldl (aheadT b) L) i).length <= c + l.length
 | [], _, _, h, i => h i
 | t :: l, L, c, h, i => by
  have := foldT_len (b := b) (l := l) (aheadT_len (t := t) (b := b) h) i
  rw [List.foldl_cons, List.length_cons]; omega
theorem aheadL_len {bs : List Block} (hw : ∀ b ∈ bs, b.fin.whens.length <= 9) : ∀ (k i : Nat), (aheadL bs k i).length <= 12 * k
 | 0, _ => by simp [aheadL]
 | k + 1, i => by
  have ih := aheadL_len hw k
  have e : aheadL bs (k + 1) = aheadB bs (aheadL bs k) k := by rw [aheadL, List.range_succ, List.foldl_append]; rfl
  rw [e, aheadB]
  cases hx : bs[k]? with
  | none => have := ih i; simp only; omega
  | some x =>
   have h1 := foldT_len (l := nextR x.fin) (b := k) ih i
   have h2 := len_nextR x.fin
   have h3 := hw x (List.mem_of_getElem? hx)
   simp only; omega
theorem aheadR_get {bs : List Block} {n k : Nat} (hn : bs.length = n) (hk : k < n) : (aheadR bs)[k]? = some (aheadL bs n k) := by
 subst hn; simp [aheadR, hk]
end Go.Argus
namespace Go.Proofs.Tryz.K
set_option maxRecDepth 10000
set_option maxHeartbeats 1000000 in
theorem k154 {p q : D} {f : Flow} {n args : Nat} (hp : Tr p) (hq : Tr q) (hp1 : p.one = true) (hq1 : q.one = true) (hn : f.blocks.length = n) (hn0 : 0 < n) (hn1 : n <= 100000) (ha : f.args = args) (ha1 : args <= 1000) (hau : ∀ u ∈ argsW args, U64R u) (hb : ∀ b ∈ f.blocks, BlkOk n b)
  (hphi : ∀ b x, f.blocks[b]? = some x -> ∀ y ∈ x.ins, y.op = 19 -> y.args.length = (aheadL f.blocks n b).length /\ ∀ r ∈ y.args, 0 <= r /\ r < 1280) :
  PCall prog 154 [.agg (encCode p q f)] (B (readsOkR f.blocks args)) := by
 have htr : ∀ a ∈ [D.agg (encCode p q f)], Tr a := .cons (tr_code hp hq f) .nil
 have k197 := k197 hp hq hp1 hq1 hn hn0 hn1 ha ha1 hau hb
 have k97 := k97 hp hq hp1 hq1 hn hn1 (fun b h => (hb b h).fin.wh) (fun b h => (hb b h).to)
 have hRok : CsOk n (certR f.blocks args) := by subst hn; exact certR_ok hb hau
 refine pcall_of mixed ok154 (by rw [nt154]; rfl) htr (.s _) ?_
 rw [rs154, sk154]
 refine w_seq_region_g ?_
 refine J60 ?_;refine J1 ?_
 refine ao_end (w_ghost (ghost_fr [(0, encCode p q f, 133)] eH (l := [(1, .pt (encCode p q f))]) eH) ?_)
 have hres : readsOkR f.blocks args = (List.range n).all (blkReads f.blocks (certR f.blocks args)) := by rw [readsOkR, hn]
 rw [hres]
 clear hres
 generalize certR f.blocks args = R at k197 hRok ⊢
 obtain ⟨lw, lr, l20, rg⟩ := hRok
 have k197 : PCall prog 197 [.agg (encCode p q f)] (.tup [.sl (encWs R.ws) n, encBools R.re]) := by unfold encBools; rw [lr]; exact k197
 show AW _ _ _ _ (scopeQ _) _
 refine ws ?_;refine J48 ?_;refine cl k197 ?_;refine J28 ?_;refine J70 ?_;refine J70 ?_;refine J44 ?_;refine J44 ?_
 refine ao_end (w_seq_region_g ?_)
 refine J48 ?_;refine cl k97 ?_;refine J44 ?_
 refine ao_end (w_ghost (ghost_dn (l := [(1, .pt (encCode p q f)), (3, .sl (encWs R.ws) n), (4, encBools R.re), (5, encLists (aheadR f.blocks))]) eH) (w_seq_label (w_assoc (w_seq_region_g ?_))))
 refine J5 ?_;refine J5 ?_;refine J4 ?_;refine J15 ?_;refine J0 ?_
 refine ao_end (w_then (fun s => (List.range n).all (blkReads f.blocks R) = true) (w_range (α := Nat × Nat)
  (fun k => ⟨envL [(1, .pt (encCode p q f)), (3, .sl (encWs R.ws) n), (4, encBools R.re), (5, encLists (aheadR f.blocks)), (25, encBlocks f.blocks), (26, I n), (27, I k.1)], fun _ => none, k.2⟩)
  (fun k => k.1 <= n /\ (List.range k.1).all (blkReads f.blocks R) = true) (fun k => n - k.1) (0, 1) (ghost_dn ⟨rfl, rfl, rfl, rfl, rfl, congrArg (fun k : Nat => I k) hn, rfl, trivial⟩) ⟨Nat.zero_le _, rfl⟩ ?_) ?_)
 ·rintro ⟨k, N⟩ ⟨hk, hall⟩
  dsimp only at hk hall ⊢
  refine J16 ?_
  refine ao_end ⟨_, rfl, fun h => ?_, fun h => ?_⟩
  ·have hlt : k < n := by simpa using h
   have hx : f.blocks[k]? = some f.blocks[k] := List.getElem?_eq_getElem oG
   have hxm : f.blocks[k] ∈ f.blocks := List.getElem_mem _
   generalize f.blocks[k] = x at hx hxm
   have hxo := hb x hxm
   have hph := hphi k x hx
   have hw : R.ws[k]? = some R.ws[k] := List.getElem?_eq_getElem oG
   have hbk : R.re[k]? = some R.re[k] := List.getElem?_eq_getElem oG
   have w20 := l20 _ (List.getElem_mem (h := by omega) : R.ws[k] ∈ R.ws)
   have hbr : blkReads f.blocks R k = (!R.re[k] || ((throughR x R.ws[k]).2 && (x.ins.takeWhile isPhi).all (phiOk f.blocks R k))) := by
    rw [blkReads, getD_some hw, getD_some hbk, getD_some hx]
   generalize R.ws[k] = w at hw w20 hbr
   generalize R.re[k] = b at hbk hbr
   refine w_seq_region_g ?_
   refine J0 ?_;refine J54 ?_;refine J62 ?_;refine J24 ?_;refine J3 ?_;refine J78 ?_
   refine ao_end (w_ghost (ghost_fz (i := N) (l := [(1, .pt (encCode p q f)), (3, .sl (encWs R.ws) n), (4, encBools R.re), (5, encLists (aheadR f.blocks)), (6, I k), (7, .pt (encBlock x)), (25, encBlocks f.blocks), (26, I n), (27, I k)]) (up_same _ _ _) ⟨rfl, rfl, rfl, rfl, rfl, fz_rp, rfl, rfl, rfl, trivial⟩) (w_assoc (w_seq_region ?_)))
   refine J17 ?_;refine J0 ?_;refine J21 ?_;refine J4 ?_;refine J32 ?_
   refine ao_end (w_seq_if rfl (fun h => w_seq_exit (j_next ?_)) fun h => w_seq_skip (w_assoc (w_seq_draw_g di_r154_7 ?_)))
   ·have hbf : b = false := by simpa using h
    subst hbf
    refine J11 ?_;refine J0 ?_
    refine ao_end (next_of (k + 1, N + 1) (ghost_dn eH) ⟨by dsimp only; omega, range_all_succ hall (by rw [hbr]; rfl)⟩ (by dsimp only; omega))
   have hbt : b = true := by simpa using h
   subst hbt
   have k198 := k198 w20 hxo.len hxo.ins hxo.fin hxo.rl hxo.rf
   have hthr := len_throughR x w
   rw [w20] at hthr
   generalize throughR x w = th at k198 hbr hthr
   obtain ⟨w1, ok⟩ := th
   dsimp only at k198 hbr hthr
   refine J62 ?_;refine J17 ?_;refine J0 ?_;refine J124 ?_;refine J125 ?_;refine cl k198 ?_;refine J28 ?_;refine J153 ?_;refine J39 ?_;refine J24 ?_;refine J123 ?_;refine J1 ?_
   refine ao_endc (by simp [apartT]) (w_ghost (ghost_dn (l := [(1, .pt (encCode p q f)), (3, .sl (encWs R.ws) n), (4, encBools R.re), (5, encLists (aheadR f.blocks)), (6, I k), (7, .pt (encBlock x)), (9, B ok), (25, encBlocks f.blocks), (26, I n), (27, I k)]) eH) (w_assoc (w_seq_region ?_)))
   refine J2 ?_;refine J32 ?_
   refine ao_end (w_seq_if rfl (fun h => ?_) fun h => w_seq_skip (w_seq_region_g ?_))
   ·have hok : ok = false := by simpa using h
    subst hok
    refine w_assoc (w_seq_region ?_)
    refine J1 ?_
    refine ao_end (w_seq_ret (j_body (j_seq (j_scope (q_ret1 (d := B false) rfl ?_)))))
    rw [range_all_false hlt (by rw [hbr]; rfl)]
   have hok : ok = true := by simpa using h
   subst hok
   have hbr : blkReads f.blocks R k = (x.ins.takeWhile isPhi).all (phiOk f.blocks R k) := hbr
   refine J5 ?_;refine J4 ?_;refine J15 ?_;refine J0 ?_
   have hll := hxo.len
   refine ao_end (w_range (α := Nat × Nat)
    (fun j => ⟨envL [(1, .pt (encCode p q f)), (3, .sl (encWs R.ws) n), (4, encBools R.re), (5, encLists (aheadR f.blocks)), (6, I k), (25, encBlocks f.blocks), (26, I n), (27, I k), (49, encInss x.ins), (50, I x.ins.length), (51, I j.1)], fun _ => none, j.2⟩)
    (fun j => j.1 <= x.ins.length /\ (∀ y ∈ x.ins.take j.1, isPhi y = true) /\ (x.ins.take j.1).all (phiOk f.blocks R k) = true) (fun j => x.ins.length - j.1) (0, _) (ghost_dn eH) ⟨Nat.zero_le _, by simp, by simp⟩ ?_)
   rintro ⟨j, N⟩ ⟨hj, hph1, hph2⟩
   dsimp only at hj hph1 hph2 ⊢
   refine J16 ?_
   refine ao_end ⟨_, rfl, fun h => ?_, fun h => ?_⟩
   ·have hjl : j < x.ins.length := by simpa using h
    have hy : x.ins[j]? = some x.ins[j] := List.getElem?_eq_getElem hjl
    have hym : x.ins[j] ∈ x.ins := List.getElem_mem hjl
    generalize x.ins[j] = y at hy hym
    refine w_seq_region_g ?_
    refine J76 ?_;refine J59 ?_;refine J24 ?_;refine J90 ?_
    refine ao_end (w_ghost (ghost_fz (i := N) (l := [(1, .pt (encCode p q f)), (3, .sl (encWs R.ws) n), (4, encBools R.re), (5, encLists (aheadR f.blocks)), (6, I k), (11, .pt (encIns y)), (25, encBlocks f.blocks), (26, I n), (27, I k), (49, encInss x.ins), (50, I x.ins.length), (51, I j)]) (up_same _ _ _) ⟨rfl, rfl, rfl, rfl, rfl, fz_rp, rfl, rfl, rfl, rfl, rfl, rfl, trivial⟩) (w_assoc (w_seq_region ?_)))
    refine J5 ?_;refine J4 ?_;refine J35 ?_
    refine ao_end (w_seq_if rfl (fun h => w_seq_exit (j_out (by decide) (by decide) (j_next ?_))) fun h => w_seq_skip (w_seq_region_g ?_))
    ·have hne : y.op ≠ 19 := by simpa using h
     refine J11 ?_;refine J0 ?_
     refine ao_end (next_of (k + 1, _) (ghost_dn eH) ⟨by dsimp only; omega, range_all_succ hall ?_⟩ (by dsimp only; omega))
     rw [hbr, takeWhile_eq hph1 (fun y' h' => by rw [hy] at h'; cases h'; simpa [isPhi] using hne)]
     exact hph2
    have h19 : y.op = 19 := by simpa using h
    obtain ⟨hal, har⟩ := hph y hym h19
    have hA := aheadR_get hn hlt
    have hAm : ∀ p ∈ aheadL f.blocks n k, ∃ pn : Nat, p = pn /\ pn < n := fun p hp => by
     obtain ⟨b, h1, h2, _⟩ := mem_aheadL.1 hp
     exact ⟨b, h1, h2⟩
    have hpo : phiOk f.blocks R k y = (List.range (aheadL f.blocks n k).length).all (phiEdge f.blocks R k y) := by rw [phiOk, hn]
    have hpe : ∀ i, phiEdge f.blocks R k y i = (!(R.re.getD ((aheadL f.blocks n k).getD i 0).toNat false) || hasW (ontoR (f.blocks.getD ((aheadL f.blocks n k).getD i 0).toNat noBlk).fin k (throughR (f.blocks.getD ((aheadL f.blocks n k).getD i 0).toNat noBlk) (R.ws.getD ((aheadL f.blocks n k).getD i 0).toNat [])).1) (y.args.getD i 0).toNat) := fun i => by rw [phiEdge, hn]
    have hAl := aheadL_len (fun b h => (hb b h).fin.wh) n k
    generalize aheadL f.blocks n k = A at hal hA hAm hpo hpe hAl
    have hfalse : ∀ i, i < A.length -> phiEdge f.blocks R k y i = false -> (List.range n).all (blkReads f.blocks R) = false := fun i hi he => by
     refine range_all_false hlt ?_
     rw [hbr]
     refine Bool.eq_false_iff.2 fun ht => ?_
     have hyin : y ∈ x.ins.takeWhile isPhi := by
      have : x.ins.take (j + 1) = x.ins.take j ++ [y] := by rw [List.take_add_one, hy]; rfl
      have h2 : x.ins = x.ins.take (j + 1) ++ x.ins.drop (j + 1) := (List.take_append_drop _ _).symm
      rw [h2, this, List.takeWhile_append_of_pos]
      ·simp
      ·intro z hz
       rcases List.mem_append.1 hz with h | h
       ·exact hph1 z h
       ·rw [List.mem_singleton.1 h]; simp [isPhi, h19]
     have := List.all_eq_true.1 ht y hyin
     rw [hpo, range_all_false hi he] at this
     cases this
    refine J17 ?_;refine J0 ?_;refine J21 ?_;refine J4 ?_;refine J15 ?_;refine J0 ?_
    refine ao_end (w_range (α := Nat × Nat)
     (fun i => ⟨envL [(1, .pt (encCode p q f)), (3, .sl (encWs R.ws) n), (4, encBools R.re), (5, encLists (aheadR f.blocks)), (6, I k), (11, .pt (encIns y)), (25, encBlocks f.blocks), (26, I n), (27, I k), (49, encInss x.ins), (50, I x.ins.length), (51, I j), (61, encInts A), (62, I A.length), (63, I i.1)], fun _ => none, i.2⟩)
     (fun i => i.1 <= A.length /\ (List.range i.1).all (phiEdge f.blocks R k y) = true) (fun i => A.length - i.1) (0, _) (ghost_dn eH) ⟨Nat.zero_le _, rfl⟩ ?_)
    rintro ⟨i, N⟩ ⟨hi, hpall⟩
    dsimp only at hi hpall ⊢
    refine J16 ?_
    refine ao_end ⟨_, rfl, fun h => ?_, fun h => ?_⟩
    ·have hil : i < A.length := by simpa using h
     have hpi : A[i]? = some A[i] := List.getElem?_eq_getElem hil
     obtain ⟨pn, hpn, hpl⟩ := hAm _ (List.getElem_mem hil)
     rw [hpn] at hpi
     clear hpn
     have hxp : f.blocks[pn]? = some f.blocks[pn] := List.getElem?_eq_getElem oG
     have hxpm : f.blocks[pn] ∈ f.blocks := List.getElem_mem _
     have hwp : R.ws[pn]? = some R.ws[pn] := List.getElem?_eq_getElem oG
     have hbp : R.re[pn]? = some R.re[pn] := List.getElem?_eq_getElem oG
     have wp20 := l20 _ (List.getElem_mem (h := by omega) : R.ws[pn] ∈ R.ws)
     have hri : y.args[i]? = some y.args[i] := List.getElem?_eq_getElem oG
     have hrm := har _ (List.getElem_mem (h := by omega) : y.args[i] ∈ y.args)
     have hpe := hpe i
     rw [getD_some hpi, Int.toNat_natCast, getD_some hxp, getD_some hwp, getD_some hbp, getD_some hri] at hpe
     generalize f.blocks[pn] = xp at hxp hxpm hpe
     generalize R.ws[pn] = wp at hwp wp20 hpe
     generalize R.re[pn] = rb at hbp hpe
     generalize y.args[i] = r at hri hrm hpe
     obtain ⟨rn, rfl⟩ := Int.eq_ofNat_of_zero_le hrm.1
     rw [Int.toNat_natCast] at hpe
     have hxpo := hb xp hxpm
     have k198 := Go.Proofs.Tryz.K.k198 wp20 hxpo.len hxpo.ins hxpo.fin hxpo.rl hxpo.rf
     have hthp := len_throughR xp wp
     rw [wp20] at hthp
     generalize throughR xp wp = tp at k198 hpe hthp
     obtain ⟨w2, ok2⟩ := tp
     dsimp only at k198 hpe hthp
     have k199 := k199 (x := xp.fin) (b := (k : Int)) (w := w2) hthp (by have := hxpo.fin.wh; omega) (by have := hxpo.fin.wr; omega)
     have hlo := len_ontoR xp.fin k w2
     rw [hthp] at hlo
     generalize ontoR xp.fin k w2 = w3 at k199 hlo hpe
     have k200 := k200 (w := w3) (m := rn) hlo oG
     refine ws ?_;refine J0 ?_;refine J21 ?_;refine J4 ?_;refine J3 ?_;refine J3 ?_
     refine ao_end (w_seq_draw_g di_r154_17 ?_)
     refine J5 ?_;refine J5 ?_;refine J4 ?_;refine J0 ?_;refine J54 ?_;refine J62 ?_;refine J17 ?_;refine J0 ?_;refine J124 ?_;refine J125 ?_;refine cl k198 ?_;refine J28 ?_;refine J153 ?_;refine J39 ?_;refine J24 ?_;refine J123 ?_;refine J1 ?_
     refine ao_endc (by simp [apartT]) (w_ghost (ghost_fz (i := N) (l := [(1, .pt (encCode p q f)), (3, .sl (encWs R.ws) n), (4, encBools R.re), (5, encLists (aheadR f.blocks)), (6, I k), (11, .pt (encIns y)), (12, I i), (13, I pn), (14, .pt (w2.map U64)), (25, encBlocks f.blocks), (26, I n), (27, I k), (49, encInss x.ins), (50, I x.ins.length), (51, I j), (61, encInts A), (62, I A.length), (63, I i)]) (up_same _ _ _) ⟨rfl, rfl, rfl, rfl, rfl, rfl, rfl, rfl, fz_rp, rfl, rfl, rfl, rfl, rfl, rfl, rfl, rfl, rfl, trivial⟩) (w_seq_draw di_r154_18 ?_))
     have hcase : ∀ v : Bool, v = phiEdge f.blocks R k y i -> (v = false -> (List.range n).all (blkReads f.blocks R) = false) /\ (v = true -> (List.range (i + 1)).all (phiEdge f.blocks R k y) = true) := fun v hv => by
      subst hv
      exact ⟨hfalse i hil, fun h => range_all_succ hpall h⟩
     cases rb with
     | false =>
      obtain ⟨_, hc2⟩ := hcase true hpe.symm
      have hc2 := hc2 rfl
      refine J17 ?_;refine J0 ?_;refine J21 ?_;refine J4 ?_;refine J2 ?_;refine J7 ?_;refine J7 ?_;refine J6 ?_;refine J10 ?_
      refine ao_g rfl rfl (e_idxF rfl rfl V.h V.h (len_enc72) (by assumption)) (fun hc => ⟨ak, (p_idxF V.h (len_enc72) (by assumption))⟩) ?_
      refine J7 ?_;refine J73 ?_;refine J10 ?_
      refine ao_g rfl rfl (e_loadA rfl V.h V.h (takeW2 (by first | rfl | exact Nat.le_of_ble_eq_true rfl | (simp; done) | (simp; omega) | omega))) (fun hc => ⟨ak, (p_loadA V.h V.h (by first | rfl | exact Nat.le_of_ble_eq_true rfl | (simp; done) | (simp; omega) | omega))⟩) ?_
      refine gc k199 ?_;refine J7 ?_;refine J6 ?_;refine J10 ?_;refine J55 ?_;refine J6 ?_;refine gc k200 ?_;refine J33 ?_;refine J13 ?_
      refine ao_endc (by simp [apartT]) (w_if rfl (fun h => (by cases h)) fun h => w_end ?_)
      refine J11 ?_;refine J0 ?_
      refine ao_end (next_of (i + 1, _) (ghost_dn eH) ⟨by dsimp only; omega, hc2⟩ (by dsimp only; omega))
     | true =>
      obtain ⟨hc1, hc2⟩ := hcase (hasW w3 rn) hpe.symm
      generalize hasW w3 rn = hv at k200 hc1 hc2
      refine J17 ?_;refine J0 ?_;refine J21 ?_;refine J4 ?_;refine J2 ?_;refine J7 ?_;refine J7 ?_;refine J6 ?_;refine J10 ?_
      refine ao_g rfl rfl (e_idxF rfl rfl V.h V.h (len_enc72) (by assumption)) (fun hc => ⟨ak, (p_idxF V.h (len_enc72) (by assumption))⟩) ?_
      refine J7 ?_;refine J73 ?_;refine J10 ?_
      refine ao_g rfl rfl (e_loadA rfl V.h V.h (takeW2 (by first | rfl | exact Nat.le_of_ble_eq_true rfl | (simp; done) | (simp; omega) | omega))) (fun hc => ⟨ak, (p_loadA V.h V.h (by first | rfl | exact Nat.le_of_ble_eq_true rfl | (simp; done) | (simp; omega) | omega))⟩) ?_
      refine gc k199 ?_;refine J7 ?_;refine J6 ?_;refine J10 ?_;refine J55 ?_;refine J6 ?_;refine gc k200 ?_;refine J33 ?_;refine J19 ?_
      refine ao_endc (by simp [apartT]) (w_if rfl (fun h => ?_) fun h => w_end ?_)
      ·have hf : hv = false := by simpa using h
       refine ws ?_;refine J1 ?_
       refine ao_end (w_ret (j_body (j_body (j_body (j_seq (j_scope (q_ret1 (d := B false) rfl ?_)))))))
       rw [hc1 hf]
      ·have ht : hv = true := by simpa using h
       have hc2 := hc2 ht
       refine J11 ?_;refine J0 ?_
       refine ao_end (next_of (i + 1, _) (ghost_dn eH) ⟨by dsimp only; omega, hc2⟩ (by dsimp only; omega))
    ·have hge : ¬ i < A.length := by simpa using h
     have hiA : i = A.length := by omega
     subst hiA
     show AOps _ _ _ _ _ _ _ _ _
     refine J11 ?_;refine J0 ?_
     refine ao_end (next_of (j + 1, _) (ghost_dn eH) ⟨by dsimp only; omega, fun z hz => ?_, ?_⟩ (by dsimp only; omega))
     ·dsimp only at hz
      rw [List.take_add_one, hy] at hz
      rcases List.mem_append.1 hz with h | h
      ·exact hph1 z h
      ·rw [List.mem_singleton.1 h]; simp [isPhi, h19]
     ·dsimp only
      rw [List.take_add_one, hy, List.all_append, hph2]
      simpa [hpo] using hpall
   ·have hge : ¬ j < x.ins.length := by simpa using h
    have hjj : j = x.ins.length := by omega
    subst hjj
    show AOps _ _ _ _ _ _ _ _ _
    refine J11 ?_;refine J0 ?_
    refine ao_end (next_of (k + 1, _) (ghost_dn eH) ⟨by dsimp only; omega, range_all_succ hall ?_⟩ (by dsimp only; omega))
    rw [List.take_length] at hph1 hph2
    rw [hbr, takeWhile_eq (j := x.ins.length) (by rw [List.take_length]; exact hph1) (fun y h => by simp at h), List.take_length]
    exact hph2
  ·have hge : ¬ k < n := by simpa using h
   have : k = n := by omega
   subst this
   exact hall
 ·rintro ⟨env, m, nx⟩ hall
  refine ⟨_, .refl _, w_seq_region ?_⟩
  refine J1 ?_
  refine ao_end (j_scope (q_ret1 (d := B true) rfl ?_))
  rw [hall]
end Go.Proofs.Tryz.K
end
section
open Go Go.Abs Go.Proofs Go.Argus
namespace Go.Argus
open Go.Proofs.Tryz.K (nextR)
def resultOk (f : Flow) : Bool := decide (f.result = 1) || (decide (f.result = 2) || (decide (f.result = 0) && !f.iter))
def formedH (f : Flow) : Bool :=
 isFlow f.name && (inR f.args 0 (if (f.regs.length : Int) < 6 then (f.regs.length : Int) else 6) && (resultOk f && (!decide ((1200 : Int) < f.regs.length) && (!decide ((60 : Int) < f.slots.length) && inR f.blocks.length 1 1200))))
def formedK (f : Flow) : Bool :=
 kindsOk f.regs 3 && (kindsOk (f.regs.take f.args.toNat) 2 && (kindsOk f.slots 2 && (!decide ((6 : Int) < f.signals.length) && !f.signals.any fun s => !isName s)))
def sigLess (l : List ByteArray) (i : Nat) : Bool := Op.bytesLess (l.getD i .empty).toList (l.getD (i + 1) .empty).toList
def formedS (f : Flow) : Bool := (List.range (f.signals.length - 1)).all (sigLess f.signals)
def opensAt (bs : List Block) (k : Nat) : List Int := ((bs.take k).filter fun x => x.fin.kind == 7).map fun x => x.fin.a
def blkEnds (f : Flow) (k : Nat) : Bool :=
 let x := f.blocks.getD k noBlk
 endedB f x.fin && (!decide ((200 : Int) < x.ins.length) && !(x.fin.kind == 7 && (opensAt f.blocks k).any (· == x.fin.a)))
def insRight (f : Flow) (b : Nat) (l : List Ins) (j : Nat) : Bool := rightB f b (l.getD j noIns0) ((l.take (j + 1)).all isPhi) (aheadL f.blocks f.blocks.length b).length
def blkRight (f : Flow) (b : Nat) : Bool := (List.range (f.blocks.getD b noBlk).ins.length).all (insRight f b (f.blocks.getD b noBlk).ins)
def formedB (f : Flow) : Bool :=
 formedH f && (formedK f && (formedS f && ((List.range f.blocks.length).all (blkEnds f) && (List.range f.blocks.length).all (blkRight f))))
def checkR (f : Flow) : Int := if formedB f = true then (if readsOkR f.blocks f.args.toNat = true then 0 else 81) else 80
def RegIn (l : List Int) (r : Int) : Prop := 0 <= r /\ r < l.length
theorem kind_in {l : List Int} {r : Int} (h : kindR l r ≠ 0) : RegIn l r := Classical.byContradiction fun hn => h (kindR_out hn)
theorem value_in {l : List Int} {r : Int} (h : valueR l r = true) : RegIn l r := by
 refine kind_in fun e => ?_
 simp [valueR, e] at h
theorem values_in {l rs : List Int} (h : valuesR l rs = true) : ∀ r ∈ rs, RegIn l r := fun r hr => value_in (List.all_eq_true.1 h r hr)
theorem field_in {l : List Int} {r want of : Int} (h : fieldR l r want of = true) (hw : want ≠ 0) : RegIn l r := by
 unfold fieldR at h
 rw [if_neg hw] at h
 split at h
 ·refine kind_in fun e => ?_
  simp [e] at h
 ·split at h
  ·refine kind_in fun e => ?_
   simp [e] at h
  ·split at h
   ·exact value_in h
   ·refine kind_in fun e => ?_
    simp [e] at h
structure ShOk (l : List Int) (x : Ins) (s : Shape) : Prop where
 to : s.to ≠ 0 -> RegIn l x.to
 a : s.a ≠ 0 -> RegIn l x.a
 b : s.b ≠ 0 -> RegIn l x.b
 args : s.args = 5 \/ s.args = 6 -> x.args.length <= 6 /\ ∀ r ∈ x.args, RegIn l r
theorem shaped_in {l : List Int} {x : Ins} {s : Shape} (h : shapedR l x s = true) : ShOk l x s := by
 unfold shapedR at h
 simp only [Bool.and_eq_true] at h
 obtain ⟨h1, h2, h3, h4, _⟩ := h
 refine ⟨field_in h1, field_in h2, field_in h3, fun hs => ?_⟩
 unfold shapedArgs at h4
 rcases hs with hs | hs
 ·rw [if_pos hs, Bool.and_eq_true] at h4
  have := inR_true.1 h4.1
  exact ⟨by omega, values_in h4.2⟩
 ·rw [if_neg oG, if_pos hs, Bool.and_eq_true] at h4
  have : (x.args.length : Int) = 1 := by simpa using h4.1
  exact ⟨by omega, values_in h4.2⟩
theorem shapeAt_mem {l : List (Int × Shape)} {op : Int} {s : Shape} (h : shapeAt l op = some s) : (op, s) ∈ l := by
 unfold shapeAt at h
 rw [Option.map_eq_some_iff] at h
 obtain ⟨⟨o, s'⟩, h1, rfl⟩ := h
 have h2 := List.find?_some h1
 have h3 := List.mem_of_find?_eq_some h1
 have : o = op := by simpa using h2
 subst this; exact h3
theorem insOk_shape {l : List Int} {x : Ins} {s : Shape} (hl : l.length <= 1200) (hm : (x.op, s) ∈ plainT \/ (x.op, s) ∈ triesT) (h : ShOk l x s) : InsOk x := by
 obtain ⟨h1, h2, h3, h4⟩ := h
 unfold RegIn at h1 h2 h3 h4
 have hr : ∀ {r : Int}, 0 <= r /\ r < l.length -> 0 <= r /\ r < 1200 := fun h => by omega
 have hw : ∀ {r : Int}, 0 <= r /\ r < l.length -> -1000000 <= r /\ r < 1200 := fun h => by omega
 obtain ⟨op, to, a, b, n, args⟩ := x
 dsimp only at h1 h2 h3 h4 hm
 simp only [plainT, triesT, List.mem_cons, Prod.mk.injEq, List.not_mem_nil, or_false] at hm
 rcases hm with hm | hm
 ·rcases hm with hm | hm | hm | hm | hm | hm | hm | hm | hm | hm | hm | hm | hm | hm | hm <;> obtain ⟨rfl, rfl⟩ := hm <;> refine ⟨fun r hr' => ?_, fun h => ?_, ?_, fun h => ?_⟩ <;>
   simp_all [readsR, writesR, isIn, readsL1, readsL2, writesL1, writesL2] <;> first | omega | (rcases hr' with rfl | rfl <;> omega) | (have := h4.2 r hr'; omega)
 ·rcases hm with hm | hm | hm | hm | hm | hm | hm | hm | hm <;> obtain ⟨rfl, rfl⟩ := hm <;> refine ⟨fun r hr' => ?_, fun h => ?_, ?_, fun h => ?_⟩ <;>
   simp_all [readsR, writesR, isIn, readsL1, readsL2, writesL1, writesL2] <;> first | omega | (rcases hr' with rfl | rfl <;> omega) | (rcases hr' with rfl | rfl | hr' <;> first | omega | (have := h4.2 r hr'; omega))
end Go.Argus
end
section
open Go Go.Abs Go.Proofs Go.Argus
namespace Go.Argus
open Go.Proofs.Tryz.K (nextR)
theorem eqb_true {a b : Int} : eqb a b = true ↔ a = b := by simp [eqb]
theorem slot_in {l slots : List Int} {r n : Int} (hs : ∀ k ∈ slots, k ≠ 0) (h : slotR l slots r n = true) : RegIn l r /\ 0 <= n /\ n < slots.length := by
 unfold slotR at h
 rw [Bool.and_eq_true, inR_true] at h
 obtain ⟨⟨h1, h2⟩, h3⟩ := h
 have h4 : kindR slots n ≠ 0 := by
  obtain ⟨k, rfl⟩ := Int.eq_ofNat_of_zero_le h1
  have hk : k < slots.length := by omega
  rw [kindR_in (List.getElem?_eq_getElem hk)]
  exact hs _ (List.getElem_mem hk)
 refine ⟨kind_in ?_, h1, by omega⟩
 rw [show kindR l r = kindR slots n by simpa using h3]; exact h4
theorem insOk_right {f : Flow} {b ahead : Int} {x : Ins} {phis : Bool} (hl : f.regs.length <= 1200) (hs : ∀ k ∈ f.slots, k ≠ 0) (hsl : f.slots.length <= 60) (h : rightB f b x phis ahead = true) :
  InsOk x /\ (x.op = 19 -> (x.args.length : Int) = ahead /\ phis = true /\ 0 < b /\ RegIn f.regs x.to /\ ∀ r ∈ x.args, kindR f.regs r = kindR f.regs x.to /\ RegIn f.regs r) := by
 unfold rightB at h
 split at h
 ·rename_i h16
  simp only [Bool.and_eq_true, eqb_true] at h
  have hr := kind_in (l := f.regs) (r := x.a) oG
  unfold RegIn at hr
  refine ⟨⟨fun r h' => ?_, fun h' => by omega, ?_, fun h' => by omega⟩, fun h' => by omega⟩
  ·simp [readsR, isIn, readsL1, h16] at h'; omega
  ·simp [writesR, isIn, writesL1, writesL2, h16]
 ·rename_i h16
  split at h
  ·rename_i h17
   simp only [Bool.and_eq_true, eqb_true] at h
   obtain ⟨h1, h2, h3⟩ := slot_in hs h.2.2.2
   unfold RegIn at h1
   refine ⟨⟨fun r h' => ?_, fun h' => by omega, ?_, fun h' => by omega⟩, fun h' => by omega⟩
   ·simp [readsR, isIn, readsL1, readsL2, h17] at h'
   ·simp [writesR, isIn, writesL1, h17]; omega
  ·rename_i h17
   split at h
   ·rename_i h18
    simp only [Bool.and_eq_true, eqb_true] at h
    obtain ⟨h1, h2, h3⟩ := slot_in hs h.2.2.2
    unfold RegIn at h1
    refine ⟨⟨fun r h' => ?_, fun h' => by omega, ?_, fun h' => by omega⟩, fun h' => by omega⟩
    ·simp [readsR, isIn, readsL1, h18] at h'; omega
    ·simp [writesR, isIn, writesL1, writesL2, h18]
   ·rename_i h18
    split at h
    ·rename_i h19
     simp only [Bool.and_eq_true, eqb_true, decide_eq_true_eq] at h
     obtain ⟨g1, g2, g3, g4, g5, g6, g7, g8⟩ := h
     have hr := value_in g3
     have hk : kindR f.regs x.to ≠ 0 := fun e => by simp [valueR, e] at g3
     refine ⟨⟨fun r h' => ?_, fun h' => by omega, ?_, fun h' => by omega⟩, fun _ => ⟨g7, g1, g2, hr, fun r hr' => ?_⟩⟩
     ·simp [readsR, isIn, readsL1, readsL2, h19] at h'
     ·unfold RegIn at hr; simp [writesR, isIn, writesL1, h19]; omega
     ·have : eqb (kindR f.regs r) (kindR f.regs x.to) = true := by
       simp only [Bool.not_eq_true', List.any_eq_false] at g8
       simpa using g8 r hr'
      rw [eqb_true] at this
      exact ⟨this, kind_in (by rw [this]; exact hk)⟩
    ·rename_i h19
     rw [Bool.and_eq_true] at h
     cases hs : shapeAt plainT x.op with
     | none => rw [hs] at h; simp at h
     | some s =>
      rw [hs] at h
      exact ⟨insOk_shape hl (.inl (shapeAt_mem hs)) (shaped_in h.2), fun h' => absurd h' h19⟩
structure EndIn (f : Flow) (x : End) : Prop where
 fin : FinOk x
 wh : x.whens.length <= 7
 to : ∀ t ∈ toR x, 0 <= t /\ t < f.blocks.length
theorem handles_in {f : Flow} {x : End} (h : handlesB f x = true) : x.whens.length <= 7 /\ (∀ w ∈ x.whens, 0 <= w.to /\ w.to < f.blocks.length) /\ (0 <= x.others -> x.others < f.blocks.length) := by
 unfold handlesB at h
 rw [Bool.and_eq_true, Bool.and_eq_true] at h
 obtain ⟨h1, h2, h3⟩ := h
 have h2 : (x.whens.length : Int) <= 7 := by simpa using h2
 refine ⟨by omega, fun w hw => ?_, fun h0 => ?_⟩
 ·obtain ⟨i, hi⟩ := List.getElem?_of_mem hw
  have hm : (w, i) ∈ x.whens.zipIdx := List.mem_zipIdx_iff_getElem?.2 hi
  have := List.all_eq_true.1 h1 _ hm
  simp only [whenB, Bool.and_eq_true, blockR, inR_true] at this
  omega
 ·rw [Bool.or_eq_true] at h3
  rcases h3 with h3 | h3
  ·have : x.others = -1 := by simpa using h3
   omega
  ·rw [blockR, inR_true] at h3; omega
theorem bare_in {x : End} (h : bareB x = true) : x.kind = 0 /\ x.a = 0 /\ x.b = 0 /\ x.to = 0 /\ x.els = 0 /\ x.others = -1 /\ x.args.length = 0 /\ x.whens.length = 0 := by
 simp only [bareB, Bool.and_eq_true, decide_eq_true_eq] at h
 omega
theorem ended_in {f : Flow} {x : End} (hl : f.regs.length <= 1200) (hr : resultOk f = true) (h : endedB f x = true) : EndIn f x := by
 have hreg : ∀ {r : Int}, RegIn f.regs r -> 0 <= r /\ r < 1200 := fun h => by unfold RegIn at h; omega
 unfold endedB at h
 rw [Bool.and_eq_true] at h
 obtain ⟨h, hb⟩ := h
 have hb := bare_in hb
 have hbl : ∀ {t : Int}, blockR f t = true -> 0 <= t /\ t < f.blocks.length := fun h => by rw [blockR, inR_true] at h; omega
 obtain ⟨kind, a, b, to, els, name, ins, args, whens, others⟩ := x
 simp only [endOk] at h hb
 by_cases h1 : kind = 1
 ·subst h1
  simp only [if_true] at h hb
  have hto := hbl h
  have hw : whens = [] := List.length_eq_zero_iff.1 hb.2.2.2.2.2.2.2
  subst hw
  refine ⟨⟨fun r h' => ?_, ?_, by simp, by simp, by simp⟩, by simp, fun t ht => ?_⟩
  ·simp [readsEnd, isIn] at h'
  ·simp [writesEnd, isIn]
  ·simp [toR, toC, isIn] at ht; subst ht; exact hto
 by_cases h2 : kind = 2
 ·subst h2
  simp only [Int.reduceEq, if_false, if_true, Bool.and_eq_true, eqb_true] at h hb
  have hw : whens = [] := List.length_eq_zero_iff.1 hb.2.2.2.2.2.2.2
  subst hw
  have hra := hreg (kind_in (l := f.regs) (r := a) oG)
  have hto := hbl h.2.1
  have hel := hbl h.2.2
  refine ⟨⟨fun r h' => ?_, ?_, by simp, by simp, by simp⟩, by simp, fun t ht => ?_⟩
  ·simp [readsEnd, isIn] at h'; subst h'; exact hra
  ·simp [writesEnd, isIn]
  ·simp [toR, toC, isIn] at ht
   rcases ht with rfl | rfl
   ·exact hto
   ·exact hel
 by_cases h3 : kind = 3
 ·subst h3
  simp only [Int.reduceEq, if_false, if_true] at h hb
  have hw : whens = [] := List.length_eq_zero_iff.1 hb.2.2.2.2.2.2.2
  subst hw
  refine ⟨⟨fun r h' => ?_, ?_, by simp, by simp, by simp⟩, by simp, fun t ht => ?_⟩
  ·simp [readsEnd, isIn] at h'
   obtain ⟨h1, rfl⟩ := h'
   split at h
   ·rename_i hc
    rw [eqb_true] at h
    exact hreg (kind_in (by rw [h]; exact hc.1))
   ·rw [eqb_true] at h
    exact absurd h h1
  ·simp [writesEnd, isIn]
  ·simp [toR, isIn] at ht
 by_cases h4 : kind = 4
 ·subst h4
  simp only [Int.reduceEq, if_false, if_true] at h hb
  have hw : whens = [] := List.length_eq_zero_iff.1 hb.2.2.2.2.2.2.2
  subst hw
  refine ⟨⟨fun r h' => ?_, ?_, by simp, by simp, by simp⟩, by simp, fun t ht => ?_⟩
  ·simp [readsEnd, isIn] at h'
  ·simp [writesEnd, isIn]
  ·simp [toR, isIn] at ht
 by_cases h5 : kind = 5
 ·subst h5
  simp only [Int.reduceEq, if_false, if_true, Bool.and_eq_true] at h hb
  obtain ⟨g1, g2, g3, g4⟩ := h
  obtain ⟨hw1, hw2, hw3⟩ := handles_in g4
  have hto := hbl g3
  have hi : InsOk ins := by
   cases hs : shapeAt triesT ins.op with
   | none => rw [hs] at g1; simp at g1
   | some s => rw [hs] at g2; exact insOk_shape hl (.inr (shapeAt_mem hs)) (shaped_in g2)
  refine ⟨⟨fun r h' => ?_, ?_, ?_, fun _ => hi.ar, by simp⟩, hw1, fun t ht => ?_⟩
  ·simp [readsEnd, isIn] at h'; exact hi.rd r h'
  ·simp only [writesEnd, if_true]; exact hi.wr
  ·dsimp only at hw1 ⊢; omega
  ·simp [toR, toC, isIn] at ht
   rcases ht with rfl | ⟨w, hw, rfl⟩ | ⟨h0, rfl⟩
   ·exact hto
   ·exact hw2 w hw
   ·exact ⟨h0, hw3 h0⟩
 by_cases h6 : kind = 6
 ·subst h6
  simp only [Int.reduceEq, if_false, if_true, Bool.and_eq_true, Bool.or_eq_true, eqb_true, decide_eq_true_eq] at h hb
  obtain ⟨g1, g2, g3, g4, g5, g6⟩ := h
  obtain ⟨hw1, hw2, hw3⟩ := handles_in g6
  have hto := hbl g5
  have hv := values_in g3
  refine ⟨⟨fun r h' => ?_, ?_, ?_, by simp, fun _ => ?_⟩, hw1, fun t ht => ?_⟩
  ·simp [readsEnd, isIn] at h'; exact hreg (hv r h')
  ·simp only [writesEnd, isIn]
   rcases g4 with g4 | g4
   ·simp [g4]
   ·have := hreg (value_in g4); simp; omega
  ·dsimp only at hw1 ⊢; omega
  ·dsimp only; omega
  ·simp [toR, toC, isIn] at ht
   rcases ht with rfl | ⟨w, hw, rfl⟩ | ⟨h0, rfl⟩
   ·exact hto
   ·exact hw2 w hw
   ·exact ⟨h0, hw3 h0⟩
 by_cases h7 : kind = 7
 ·subst h7
  simp only [Int.reduceEq, if_false, if_true, Bool.and_eq_true, eqb_true, decide_eq_true_eq] at h hb
  obtain ⟨g1, g2, g3, g4, g5⟩ := h
  have hw : whens = [] := List.length_eq_zero_iff.1 hb.2.2.2.2.2.2.2
  subst hw
  have hto := hbl g5
  have hv := values_in g3
  have hra := hreg (kind_in (l := f.regs) (r := a) oG)
  refine ⟨⟨fun r h' => ?_, ?_, by simp, by simp, fun _ => ?_⟩, by simp, fun t ht => ?_⟩
  ·simp [readsEnd, isIn] at h'; exact hreg (hv r h')
  ·simp only [writesEnd, isIn]; simp; omega
  ·dsimp only; omega
  ·simp [toR, toC, isIn] at ht; subst ht; exact hto
 by_cases h8 : kind = 8
 ·subst h8
  simp only [Int.reduceEq, if_false, if_true, Bool.and_eq_true, eqb_true] at h hb
  obtain ⟨g1, g2, g3, g4, g5⟩ := h
  obtain ⟨hw1, hw2, hw3⟩ := handles_in g5
  have hto := hbl g3
  have hel := hbl g4
  have hra := hreg (kind_in (l := f.regs) (r := a) oG)
  have hrb := hreg (value_in g2)
  refine ⟨⟨fun r h' => ?_, ?_, ?_, by simp, by simp⟩, hw1, fun t ht => ?_⟩
  ·simp [readsEnd, isIn] at h'; subst h'; exact hra
  ·simp [writesEnd, isIn]; omega
  ·dsimp only at hw1 ⊢; omega
  ·simp [toR, toC, isIn] at ht
   rcases ht with rfl | rfl | ⟨w, hw, rfl⟩ | ⟨h0, rfl⟩
   ·exact hto
   ·exact hel
   ·exact hw2 w hw
   ·exact ⟨h0, hw3 h0⟩
 by_cases h9 : kind = 9
 ·subst h9
  simp only [Int.reduceEq, if_false, if_true, Bool.and_eq_true, eqb_true] at h hb
  obtain ⟨g1, g2, g3⟩ := h
  have hw : whens = [] := List.length_eq_zero_iff.1 hb.2.2.2.2.2.2.2
  subst hw
  have hto := hbl g3
  have hra := hreg (kind_in (l := f.regs) (r := a) (by
   rw [g2]
   intro e
   simp [resultOk, e, g1] at hr))
  refine ⟨⟨fun r h' => ?_, ?_, by simp, by simp, by simp⟩, by simp, fun t ht => ?_⟩
  ·simp [readsEnd, isIn] at h'; subst h'; exact hra
  ·simp [writesEnd, isIn]
  ·simp [toR, toC, isIn] at ht; subst ht; exact hto
 ·simp [h1, h2, h3, h4, h5, h6, h7, h8, h9] at h
end Go.Argus
end
section
open Go Go.Abs Go.Proofs Go.Argus
namespace Go.Abs
section
variable {P : Program} {env : Env} {m : Mem} {nx : Nat} {x y : Operand} {t e : TypeId} {k : IntKind}
theorem e_sliceT {α : Type} {f : α -> D} {l : List α} {b : Int} (hx : (opd env x).core = .sl (l.map f) l.length) (he : elemP P t = e) (hs : P.cellsOf e = 1) (hb : (opd env y).core = .s (.int .i64 b)) (hc : slT P t = true) (hb' : 0 <= b /\ b <= l.length) :
  Ef P (.slice t x none (some y) none) env m nx ⟨True, .sl ((l.take b.toNat).map f) (l.take b.toNat).length, [], [], 0⟩ := by
 have h := e_slice (P := P) (env := env) (m := m) (nx := nx) (t := t) (lo := none) (hi := some y) (a := 0) (b := b) (es' := (l.take b.toNat).map f) hx he hs (by simp [bndD]) (by simp [bndD, hb, D.int?]) (by simp [List.map_take])
 have h2 : (slT P t = true /\ (0 : Int) <= 0 /\ (0 : Int) <= b /\ b <= (l.length : Int)) = True := by
  apply propext; constructor
  ·exact fun _ => trivial
  ·exact fun _ => ⟨hc, by omega, hb'.1, hb'.2⟩
 have h3 : (b - 0).toNat = (l.take b.toNat).length := by rw [List.length_take]; omega
 rw [h2, h3] at h
 exact h
theorem fr_keepM {i j sz : Nat} {cs0 : List D} {r : Row} (hji : j ≠ i) (hm : m j = some r) (h : Row.sub (fz0 i cs0 sz) r = r) : (if j = i then none else (m j).map (Row.sub (fz0 i cs0 sz))) = some r := by
 rw [if_neg hji, hm]; exact congrArg some h
theorem ghost_fzk {i : Nat} {cs : List D} {l : List (Nat × D)} {ml : List (Nat × Row)} (hm : m i = some (.cells cs e)) (hl : EnvHas l fun t => sub (fz0 i cs (P.cellsOf e)) (env t)) (hml : MemHas ml fun j => if j = i then none else (m j).map (Row.sub (fz0 i cs (P.cellsOf e)))) : Ghost P ⟨env, m, nx⟩ ⟨envL l, memL ml, nx⟩ :=
 (Ghost.freeze env m nx i cs e hm).trans (ghost_st hl hml)
end
end Go.Abs
namespace Go.Argus
theorem hd6 : ∀ b1 b2 b3 b4 b5 b6 : Bool, (if (if (if (if (if (!b1) = true then true else !b2) = true then true else !b3) = true then true else b4) = true then true else b5) = true then true else !b6) = !(b1 && (b2 && (b3 && (!b4 && (!b5 && b6))))) := by decide
theorem hd5 : ∀ b1 b2 b3 b4 b5 : Bool, (if (if (if (if (!b1) = true then true else !b2) = true then true else !b3) = true then true else b4) = true then true else b5) = !(b1 && (b2 && (b3 && (!b4 && !b5)))) := by decide
theorem hd3 : ∀ b1 b2 b3 b4 : Bool, (if (if b1 = true then true else b2) = true then true else if b3 = true then !b4 else false) = (b1 || (b2 || (b3 && !b4))) := by decide
def opM (l : List Int) : List (Value × D) := l.map fun a => (.int .i64 a, B true)
theorem look_op (a : Int) : ∀ l : List Int, (lookD (.int .i64 a) (opM l)).map (·.2) = if (l.any (· == a)) = true then some (B true) else none
 | [] => rfl
 | b :: l => by
  have ih := look_op a l
  unfold opM at ih ⊢
  simp only [List.map_cons, lookD, veq, veq1, List.any_cons, beq_self_eq_true, Bool.true_and] at ih ⊢
  by_cases h : b = a
  ·subst h; simp
  ·have hb : (b == a) = false := by simpa using h
   simp only [hb, Bool.false_eq_true, if_false, Option.map_map, Bool.false_or]
   exact ih
theorem got_op {P : Program} {t : TypeId} (hz : zeroD P (melP P t) = B false) (a : Int) (l : List Int) : gotD P t false (lookD (.int .i64 a) (opM l)) = B (l.any (· == a)) := by
 have h := look_op a l
 cases h1 : lookD (.int .i64 a) (opM l) with
 | none =>
  rw [h1] at h
  cases h2 : l.any (· == a) with
  | true => rw [h2] at h; simp at h
  | false => simp [gotD, hz]
 | some x =>
  rw [h1] at h
  cases h2 : l.any (· == a) with
  | false => rw [h2] at h; simp at h
  | true => rw [h2] at h; simp at h; simp [gotD, h]
theorem put_op {a : Int} {l : List Int} (h : l.any (· == a) = false) : putD (.int .i64 a) (B true) (opM l) = opM (l ++ [a]) := by
 have h1 := look_op a l
 rw [h] at h1
 unfold putD
 cases h2 : lookD (.int .i64 a) (opM l) with
 | none => simp [opM]
 | some x => rw [h2] at h1; simp at h1
theorem keys_op {P : Program} {kt : TypeId} (hk : P.underlying kt = some (.int .i64)) (l : List Int) : (opM l).all (fun e => keyP P kt e.1) = true := by
 refine List.all_eq_true.2 fun x hx => ?_
 obtain ⟨y, _, rfl⟩ := List.mem_map.1 hx
 simp [keyP, hk]
theorem key_op {P : Program} {kt : TypeId} (hk : P.underlying kt = some (.int .i64)) (a : Int) : keyP P kt (.int .i64 a) = true := by simp [keyP, hk]
theorem sub_opM {i sz : Nat} {cs0 : List D} (l : List Int) : Row.sub (fz0 i cs0 sz) (.map (opM l)) = .map (opM l) := by
 show Row.map ((opM l).map _) = _
 unfold opM
 rw [List.map_map]; rfl
theorem opensAt_succ {bs : List Block} {k : Nat} {x : Block} (hx : bs[k]? = some x) : opensAt bs (k + 1) = if (x.fin.kind == 7) = true then opensAt bs k ++ [x.fin.a] else opensAt bs k := by
 unfold opensAt
 rw [List.take_add_one, hx]
 by_cases h : (x.fin.kind == 7) = true
 ·simp [h]
 ·simp [h]
end Go.Argus
namespace Go.Proofs.Tryz.K
set_option maxRecDepth 10000
theorem uk3 : prog.underlying 3 = some (.int .i64) := by kernel_rfl
theorem zk127 : zeroD prog (melP prog 127) = B false := by kernel_rfl
set_option maxHeartbeats 1000000 in
theorem k153 {f : Flow} : PCall prog 153 [.agg (encFlow f)] (B (formedB f)) := by
 have htr : ∀ a ∈ [D.agg (encFlow f)], Tr a := .cons (.agg (trs_flow f)) .nil
 refine pcall_of mixed ok153 (by rw [nt153]; rfl) htr (.s _) ?_
 rw [rs153, sk153]
 refine w_seq_region_g ?_
 refine J43 ?_;refine J1 ?_
 refine ao_end (w_ghost (ghost_fz (i := 0) (l := [(1, .pt (encFlow f))]) rfl eH) (w_seq_region_g ?_))
 have k189 := k189 (f := f)
 refine J29 ?_;refine cl k189 ?_;refine J24 ?_
 refine ao_w (e_storeA (cs' := encCode _ _ _) rfl rfl rfl rfl) ak (p_store V.h V.h (by first | (simp; done) | exact ⟨rfl, Nat.le_of_ble_eq_true rfl⟩ | (simp; omega)) (by rfl)) ?_
 refine ao_end (w_ghost (ghost_fz (i := 1) (l := [(1, .pt (encFlow f)), (3, .pt (encCode P0 Q0 f))]) rfl eH) (w_seq_region_g ?_))
 refine J5 ?_;refine J4 ?_;refine J8 ?_;refine J2 ?_;refine J7 ?_;refine J6 ?_;refine J20 ?_;refine J9 ?_;refine J2 ?_;refine J7 ?_;refine J6 ?_;refine J20 ?_;refine J27 ?_;refine J7 ?_;refine J6 ?_;refine J33 ?_;refine J63 ?_;refine J9 ?_;refine J1 ?_
 refine ao_end (w_ghost (ghost_dn (l := [(1, .pt (encFlow f)), (3, .pt (encCode P0 Q0 f)), (4, B (resultOk f))]) ⟨rfl, rfl, congrArg B (hd3 (f.result == 1) (f.result == 2) (f.result == 0) f.iter), trivial⟩) (w_assoc (w_seq_region ?_)))
 have hdef : formedB f = (formedH f && (formedK f && (formedS f && ((List.range f.blocks.length).all (blkEnds f) && (List.range f.blocks.length).all (blkRight f))))) := rfl
 rw [hdef]
 have hH : formedH f = (isFlow f.name && (inR f.args 0 (if (f.regs.length : Int) < 6 then (f.regs.length : Int) else 6) && (resultOk f && (!decide ((1200 : Int) < f.regs.length) && (!decide ((60 : Int) < f.slots.length) && inR f.blocks.length 1 1200))))) := rfl
 generalize hres : resultOk f = res at hH ⊢
 refine J5 ?_;refine J4 ?_;refine cl k190 ?_;refine J32 ?_;refine J2 ?_;refine J7 ?_;refine J6 ?_;refine J7 ?_;refine J6 ?_;refine J30 ?_
 refine ao_g rfl rfl (e_min rfl rfl) (fun hc => ⟨ak, rfl⟩) ?_
 refine gc k96 ?_;refine J33 ?_;refine J9 ?_;refine J2 ?_;refine J27 ?_;refine J33 ?_;refine J9 ?_;refine J2 ?_;refine J7 ?_;refine J6 ?_;refine J30 ?_;refine J41 ?_;refine J9 ?_;refine J2 ?_;refine J7 ?_;refine J6 ?_;refine J30 ?_;refine J41 ?_;refine J9 ?_;refine J2 ?_;refine J7 ?_;refine J6 ?_;refine J30 ?_;refine gc k96 ?_;refine J33 ?_;refine J9 ?_
 refine ao_end (w_seq_if rfl (fun h => ?_) fun h => w_seq_skip (w_assoc (w_seq_region ?_)))
 ·have h := (hd6 _ _ _ _ _ _).symm.trans h
  rw [<- hH] at h
  have h : formedH f = false := by simpa using h
  refine w_assoc (w_seq_region ?_)
  refine J1 ?_
  refine ao_end (w_seq_ret (q_ret1 (d := B false) rfl ?_))
  rw [h]; rfl
 have h := (hd6 _ _ _ _ _ _).symm.trans h
 rw [<- hH] at h
 have hh : formedH f = true := by simpa using h
 rw [hh, Bool.true_and]
 rw [hH] at hh
 simp only [Bool.and_eq_true, inR_true, Bool.not_eq_true', decide_eq_false_iff_not] at hh
 obtain ⟨_, ha, hr, hrl, hsl, hbl⟩ := hh
 subst hr
 clear h hH
 have ha1 : 0 <= f.args /\ f.args <= f.regs.length /\ f.args <= 6 := by
  split at ha <;> omega
 have hK : formedK f = (kindsOk f.regs 3 && (kindsOk (f.regs.take f.args.toNat) 2 && (kindsOk f.slots 2 && (!decide ((6 : Int) < f.signals.length) && !f.signals.any fun s => !isName s)))) := rfl
 have k192 := k192 (l := f.signals) (g := 193) (fs := []) (cs := []) (p := fun s => !isName s) (.fn (by simp) (by simp)) (fun x _ => k193)
 have ha2 : 0 <= f.args /\ f.args <= f.regs.length := ⟨ha1.1, ha1.2.1⟩
 refine J5 ?_;refine J4 ?_;refine cl k191 ?_;refine J32 ?_;refine J2 ?_;refine J7 ?_;refine J6 ?_;refine J7 ?_;refine J6 ?_
 refine ao_g rfl rfl (e_sliceT rfl e22 c5 rfl sl22 ha2) (fun hc => ⟨(by repeat' (first | exact trivial | exact hc | exact rfl | refine And.intro ?_ ?_)), trivial⟩) ?_
 refine gc k191 ?_;refine J33 ?_;refine J9 ?_;refine J2 ?_;refine J7 ?_;refine J6 ?_;refine gc k191 ?_;refine J33 ?_;refine J9 ?_;refine J2 ?_;refine J7 ?_;refine J6 ?_;refine J30 ?_;refine J41 ?_;refine J9 ?_;refine J2 ?_;refine J7 ?_;refine J6 ?_;refine gc k192 ?_;refine J9 ?_
 refine ao_end (w_seq_if rfl (fun h => ?_) fun h => w_seq_skip (w_assoc (w_seq_region_g ?_)))
 ·have h := (hd5 _ _ _ _ _).symm.trans h
  rw [<- hK] at h
  have h : formedK f = false := by simpa using h
  refine w_assoc (w_seq_region ?_)
  refine J1 ?_
  refine ao_end (w_seq_ret (q_ret1 (d := B false) rfl ?_))
  rw [h]; rfl
 have h := (hd5 _ _ _ _ _).symm.trans h
 rw [<- hK] at h
 have hh : formedK f = true := by simpa using h
 rw [hh, Bool.true_and]
 rw [hK] at hh
 simp only [Bool.and_eq_true, Bool.not_eq_true', decide_eq_false_iff_not] at hh
 obtain ⟨_, _, hks, hsg, _⟩ := hh
 clear h hK k192
 have hS : formedS f = (List.range (f.signals.length - 1)).all (sigLess f.signals) := rfl
 rw [hS]
 have hsn : f.signals.length <= 6 := by omega
 refine J3 ?_
 refine ao_end (w_then (fun s => Ghost prog s ⟨envL [(1, .pt (encFlow f)), (3, .pt (encCode P0 Q0 f))], fun _ => none, 2⟩ /\ (List.range (f.signals.length - 1)).all (sigLess f.signals) = true) (w_for (α := Nat) (fun k => ⟨envL [(1, .pt (encFlow f)), (3, .pt (encCode P0 Q0 f)), (5, I (k + 1 : Nat))], fun _ => none, 2⟩) (fun k => k <= f.signals.length - 1 /\ (List.range k).all (sigLess f.signals) = true) (fun k => f.signals.length - k) 0 (ghost_dn eH) ⟨Nat.zero_le _, rfl⟩ ?_) ?_)
 ·rintro k ⟨hk, hall⟩
  refine J0 ?_;refine J5 ?_;refine J4 ?_;refine J15 ?_;refine J16 ?_
  refine ao_end ⟨_, rfl, fun h => ?_, fun h => ?_⟩
  ·have hlt : k + 1 < f.signals.length := by have : ((k + 1 : Nat) : Int) < f.signals.length := by simpa using h
                                             omega
   have h1 : f.signals[k]? = some f.signals[k] := List.getElem?_eq_getElem oG
   have h2 : f.signals[k + 1]? = some f.signals[k + 1] := List.getElem?_eq_getElem oG
   have hsl : sigLess f.signals k = Op.bytesLess f.signals[k].toList f.signals[k + 1].toList := by rw [sigLess, getD_some h1, getD_some h2]
   generalize f.signals[k] = s1 at h1 hsl
   generalize f.signals[k + 1] = s2 at h2 hsl
   have ksub : ((k + 1 : Nat) : Int) - 1 = (k : Int) /\ -9223372036854775808 <= (k : Int) /\ (k : Int) <= 9223372036854775807 := by omega
   refine w_seq_draw di_r153_10 ?_
   refine J5 ?_;refine J4 ?_;refine J0 ?_;refine J84 ?_;refine J21 ?_;refine J4 ?_;refine J5 ?_;refine J4 ?_;refine J0 ?_;refine J21 ?_;refine J4 ?_
   refine ao_p (e_sgeq rfl rfl) ak trivial ?_
   refine ao_endc (by simp [apartT]) (w_if rfl (fun h => ?_) fun h => w_end ?_)
   ·have hf : sigLess f.signals k = false := by rw [hsl]; simpa using h
    refine ws ?_;refine J1 ?_
    refine ao_end (w_ret (j_body (j_seq (q_ret1 (d := B false) rfl ?_))))
    rw [range_all_false oG hf]; rfl
   ·have ht : sigLess f.signals k = true := by rw [hsl]; simpa using h
    refine J0 ?_;refine J11 ?_;refine J3 ?_
    exact ao_end (next_of (k + 1) (ghost_dn eH) ⟨by omega, range_all_succ hall ht⟩ oG)
  ·have hge : ¬ k + 1 < f.signals.length := by intro hh; simp at h; omega
   have : k = f.signals.length - 1 := by omega
   subst this
   exact ⟨ghost_dn eH, hall⟩
 rintro s ⟨hg, hall⟩
 rw [hall, Bool.true_and]
 clear hall hS
 refine ⟨_, hg, w_seq_region_g ?_⟩
 refine J110 ?_;refine J95 ?_
 refine ao_end (w_ghost (ghost_st (l := [(1, .pt (encFlow f)), (3, .pt (encCode P0 Q0 f)), (6, .mp 2)]) (ml := [(2, .map (opM []))]) eH eH) (w_assoc (w_seq_region_g ?_)))
 refine J5 ?_;refine J4 ?_;refine J15 ?_;refine J0 ?_
 generalize hn : f.blocks.length = n at hbl ⊢
 refine ao_end (w_then (fun s => ∃ N, Ghost prog s ⟨envL [(1, .pt (encFlow f)), (3, .pt (encCode P0 Q0 f))], fun _ => none, N⟩ /\ (List.range n).all (blkEnds f) = true) (w_range (α := Nat × Nat) (fun k => ⟨envL [(1, .pt (encFlow f)), (3, .pt (encCode P0 Q0 f)), (6, .mp 2), (123, encBlocks f.blocks), (124, I n), (125, I k.1)], memL [(2, .map (opM (opensAt f.blocks k.1)))], k.2⟩) (fun k => k.1 <= n /\ (List.range k.1).all (blkEnds f) = true /\ 3 <= k.2) (fun k => n - k.1) (0, 3) (ghost_st eH eH) ⟨Nat.zero_le _, rfl, Nat.le_refl _⟩ ?_) ?_)
 ·rintro ⟨k, N⟩ ⟨hk, hall, hN⟩
  dsimp only at hk hall hN ⊢
  refine J16 ?_
  refine ao_end ⟨_, rfl, fun h => ?_, fun h => ?_⟩
  ·have hlt : k < n := by simpa using h
   have hx : f.blocks[k]? = some f.blocks[k] := List.getElem?_eq_getElem oG
   generalize f.blocks[k] = x at hx
   have hbe : blkEnds f k = (endedB f x.fin && (!decide ((200 : Int) < x.ins.length) && !(x.fin.kind == 7 && (opensAt f.blocks k).any (· == x.fin.a)))) := by rw [blkEnds, getD_some hx]
   have hop := opensAt_succ hx
   have k195 := k195 (f := f) (x := x.fin)
   generalize opensAt f.blocks k = l at hbe hop
   refine w_seq_region_g ?_
   refine J54 ?_;refine J62 ?_;refine J24 ?_;refine J78 ?_
   refine ao_end (w_ghost (ghost_fzk (i := N) (l := [(1, .pt (encFlow f)), (3, .pt (encCode P0 Q0 f)), (6, .mp 2), (8, .pt (encBlock x)), (123, encBlocks f.blocks), (124, I n), (125, I k)]) (ml := [(2, .map (opM l))]) (up_same _ _ _) ⟨rfl, rfl, rfl, fz_rp, rfl, rfl, rfl, trivial⟩ ⟨fr_keepM oG (mskip oG (mskip oG rfl)) (sub_opM l), trivial⟩) (w_assoc (w_seq_region ?_)))
   generalize endedB f x.fin = e at k195 hbe
   refine J48 ?_;refine J5 ?_;refine J72 ?_;refine cl k195 ?_;refine J32 ?_;refine J2 ?_;refine J7 ?_;refine J6 ?_;refine J30 ?_;refine J41 ?_;refine J9 ?_
   refine ao_end (w_seq_if rfl (fun h => ?_) fun h => w_seq_skip (w_seq_region ?_))
   ·have hf : blkEnds f k = false := by
     rw [hbe]
     cases e with
     | false => rfl
     | true => have : decide ((200 : Int) < x.ins.length) = true := by simpa using h
               rw [this]; rfl
    refine w_assoc (w_seq_region ?_)
    refine J1 ?_
    refine ao_end (w_seq_ret (j_body (j_seq (q_ret1 (d := B false) rfl ?_))))
    rw [range_all_false hlt hf]; rfl
   have hbe : blkEnds f k = !(x.fin.kind == 7 && l.any (· == x.fin.a)) := by
    rw [hbe]
    cases e with
    | false => simp at h
    | true => have : decide ((200 : Int) < x.ins.length) = false := by simpa using h
              rw [this]; rfl
   refine J5 ?_;refine J5 ?_;refine J4 ?_;refine J8 ?_
   refine ao_end (w_if rfl (fun h7 => ?_) fun h7 => w_end ?_)
   ·rw [h7] at hbe hop
    refine w_assoc (w_seq_region ?_)
    refine J81 ?_;refine J5 ?_;refine J5 ?_;refine J4 ?_
    refine ao_p (e_lookup rfl rfl rfl mk127 (got_op zk127 _ _)) (by repeat' (first | exact trivial | exact rfl | refine And.intro ?_ ?_)) ⟨mt127, key_op uk3 _, keys_op uk3 _⟩ ?_
    refine ao_end (w_seq_if rfl (fun h => ?_) fun h => w_seq_skip (w_regB2 ?_))
    ·have hf : blkEnds f k = false := by rw [hbe, h]; rfl
     refine w_assoc (w_seq_region ?_)
     refine J1 ?_
     refine ao_end (w_seq_ret (j_body (j_seq (q_ret1 (d := B false) rfl ?_))))
     rw [range_all_false hlt hf]; rfl
    ·have ht : blkEnds f k = true := by rw [hbe, h]; rfl
     refine J81 ?_;refine J5 ?_;refine J5 ?_;refine J4 ?_
     refine ao_w (e_mput rfl rfl rfl rfl mk127) (by repeat' (first | exact trivial | exact rfl | refine And.intro ?_ ?_)) ⟨mt127, key_op uk3 _, keys_op uk3 _⟩ ?_
     refine ao_end ?_
     refine J11 ?_;refine J0 ?_
     refine ao_end (next_of (k + 1, _) (ghost_st eH ⟨?_, trivial⟩) ⟨by dsimp only; omega, range_all_succ hall ht, by dsimp only; omega⟩ (by dsimp only; omega))
     dsimp only
     rw [hop, if_pos rfl, <- put_op h]
     exact up_same _ _ _
   ·rw [h7] at hbe hop
    refine J11 ?_;refine J0 ?_
    refine ao_end (next_of (k + 1, _) (ghost_st eH ⟨?_, trivial⟩) ⟨by dsimp only; omega, range_all_succ hall hbe, by dsimp only; omega⟩ (by dsimp only; omega))
    dsimp only
    rw [hop, if_neg (by simp)]
    rfl
  ·have hge : ¬ k < n := by simpa using h
   have : k = n := by omega
   subst this
   exact ⟨N, ghost_dn eH, hall⟩
 rintro s ⟨N, hg, hall⟩
 rw [hall, Bool.true_and]
 have hE : ∀ x ∈ f.blocks, EndIn f x.fin := fun x hx => by
  obtain ⟨k, hk⟩ := List.getElem?_of_mem hx
  have hlt : k < n := by rw [<- hn]; exact (List.getElem?_eq_some_iff.1 hk).1
  have := List.all_eq_true.1 hall k (by simpa using hlt)
  rw [blkEnds, getD_some hk] at this
  simp only [Bool.and_eq_true] at this
  exact ended_in oG hres this.1
 have k97 := k97 (f := f) tr_P0 tr_Q0 rfl rfl hn oG (fun b h => by have := (hE b h).wh; omega) (fun b h t ht => hn ▸ (hE b h).to t (mem_sortedR.1 ht))
 refine ⟨_, hg, w_seq_region ?_⟩
 refine J48 ?_;refine cl k97 ?_;refine J44 ?_
 refine ao_end (w_assoc (w_seq_region_g ?_))
 refine J5 ?_;refine J4 ?_;refine J15 ?_;refine J0 ?_
 refine ao_end (w_then (fun s => (List.range n).all (blkRight f) = true) (w_range (α := Nat × Nat) (fun k => ⟨envL [(1, .pt (encFlow f)), (3, .pt (encCode P0 Q0 f)), (9, encLists (aheadR f.blocks)), (157, encBlocks f.blocks), (158, I n), (159, I k.1)], fun _ => none, k.2⟩) (fun k => k.1 <= n /\ (List.range k.1).all (blkRight f) = true) (fun k => n - k.1) (0, N) (ghost_dn ⟨rfl, rfl, rfl, rfl, congrArg (fun k : Nat => I k) hn, rfl, trivial⟩) ⟨Nat.zero_le _, rfl⟩ ?_) ?_)
 ·rintro ⟨k, N⟩ ⟨hk, hall⟩
  dsimp only at hk hall ⊢
  refine J16 ?_
  refine ao_end ⟨_, rfl, fun h => ?_, fun h => ?_⟩
  ·have hlt : k < n := by simpa using h
   have hx : f.blocks[k]? = some f.blocks[k] := List.getElem?_eq_getElem oG
   have hxm : f.blocks[k] ∈ f.blocks := List.getElem_mem _
   generalize f.blocks[k] = x at hx hxm
   have hA := aheadR_get hn hlt
   have hbr : blkRight f k = (List.range x.ins.length).all (insRight f k x.ins) := by rw [blkRight, getD_some hx]
   have hir : ∀ j, insRight f k x.ins j = rightB f k (x.ins.getD j noIns0) ((x.ins.take (j + 1)).all isPhi) (aheadL f.blocks n k).length := fun j => by rw [insRight, hn]
   generalize aheadL f.blocks n k = A at hA hir
   refine w_seq_region_g ?_
   refine J0 ?_;refine J54 ?_;refine J62 ?_;refine J24 ?_;refine J3 ?_;refine J78 ?_
   refine ao_end (w_ghost (ghost_fz (i := N) (l := [(1, .pt (encFlow f)), (3, .pt (encCode P0 Q0 f)), (9, encLists (aheadR f.blocks)), (10, I k), (11, .pt (encBlock x)), (157, encBlocks f.blocks), (158, I n), (159, I k)]) (up_same _ _ _) ⟨rfl, rfl, rfl, rfl, fz_rp, rfl, rfl, rfl, trivial⟩) (w_seq_region ?_))
   refine J1 ?_
   refine ao_end (w_seq_region_g ?_)
   refine J5 ?_;refine J4 ?_;refine J15 ?_;refine J0 ?_
   have hreal : x.ins.length <= 200 := by
    have := List.all_eq_true.1 ‹(List.range n).all (blkEnds f) = true› k (by simpa using hlt)
    rw [blkEnds, getD_some hx] at this
    simp only [Bool.and_eq_true, Bool.not_eq_true', decide_eq_false_iff_not] at this
    omega
   refine ao_end (w_range (α := Nat × Nat) (fun j => ⟨envL [(1, .pt (encFlow f)), (3, .pt (encCode P0 Q0 f)), (9, encLists (aheadR f.blocks)), (10, I k), (12, B ((x.ins.take j.1).all isPhi)), (157, encBlocks f.blocks), (158, I n), (159, I k), (165, encInss x.ins), (166, I x.ins.length), (167, I j.1)], fun _ => none, j.2⟩) (fun j => j.1 <= x.ins.length /\ (List.range j.1).all (insRight f k x.ins) = true) (fun j => x.ins.length - j.1) (0, N + 1) (ghost_dn eH) ⟨Nat.zero_le _, rfl⟩ ?_)
   rintro ⟨j, N⟩ ⟨hj, hjall⟩
   dsimp only at hj hjall ⊢
   refine J16 ?_
   refine ao_end ⟨_, rfl, fun h => ?_, fun h => ?_⟩
   ·have hjl : j < x.ins.length := by simpa using h
    have hy : x.ins[j]? = some x.ins[j] := List.getElem?_eq_getElem hjl
    generalize x.ins[j] = y at hy
    have htk : (x.ins.take (j + 1)).all isPhi = ((x.ins.take j).all isPhi && isPhi y) := by rw [List.take_add_one, hy, List.all_append]; simp
    have hir := hir j
    rw [getD_some hy] at hir
    generalize (x.ins.take j).all isPhi = ph at htk
    refine w_seq_region_g ?_
    refine J76 ?_;refine J59 ?_;refine J24 ?_;refine J90 ?_
    refine ao_end (w_ghost (ghost_fz (i := N) (l := [(1, .pt (encFlow f)), (3, .pt (encCode P0 Q0 f)), (9, encLists (aheadR f.blocks)), (10, I k), (12, B ph), (14, .pt (encIns y)), (157, encBlocks f.blocks), (158, I n), (159, I k), (165, encInss x.ins), (166, I x.ins.length), (167, I j)]) (up_same _ _ _) ⟨rfl, rfl, rfl, rfl, rfl, fz_rp, rfl, rfl, rfl, rfl, rfl, rfl, trivial⟩) (w_seq_region_g ?_))
    refine J2 ?_;refine J2 ?_;refine J7 ?_;refine J6 ?_;refine J20 ?_;refine J9 ?_;refine J1 ?_
    refine ao_end (w_ghost (ghost_dn (l := [(1, .pt (encFlow f)), (3, .pt (encCode P0 Q0 f)), (9, encLists (aheadR f.blocks)), (10, I k), (12, B ((x.ins.take (j + 1)).all isPhi)), (14, .pt (encIns y)), (157, encBlocks f.blocks), (158, I n), (159, I k), (165, encInss x.ins), (166, I x.ins.length), (167, I j)]) ⟨rfl, rfl, rfl, rfl, ?_, rfl, rfl, rfl, rfl, rfl, rfl, rfl, trivial⟩) (w_seq_draw di_r153_32 ?_))
    ·rw [htk]; cases ph <;> rfl
    have k196 := k196 (f := f) (b := (k : Int)) (ahead := (A.length : Int)) (x := y) (phis := (x.ins.take (j + 1)).all isPhi)
    rw [<- hir] at k196
    refine J48 ?_;refine J0 ?_;refine J59 ?_;refine J2 ?_;refine J17 ?_;refine J0 ?_;refine J21 ?_;refine J4 ?_;refine J15 ?_;refine cl k196 ?_;refine J32 ?_
    refine ao_endc (by simp [apartT]) (w_if rfl (fun h => ?_) fun h => w_end ?_)
    ·have hf : insRight f k x.ins j = false := by simpa using h
     refine ws ?_;refine J1 ?_
     refine ao_end (w_ret (j_body (j_body (j_seq (q_ret1 (d := B false) rfl ?_)))))
     rw [range_all_false hlt (by rw [hbr]; exact range_all_false hjl hf)]
    ·have ht : insRight f k x.ins j = true := by simpa using h
     refine J11 ?_;refine J0 ?_
     exact ao_end (next_of (j + 1, _) (ghost_dn eH) ⟨by dsimp only; omega, range_all_succ hjall ht⟩ (by dsimp only; omega))
   ·have hge : ¬ j < x.ins.length := by simpa using h
    have hjj : j = x.ins.length := by omega
    subst hjj
    show AOps _ _ _ _ _ _ _ _ _
    refine J11 ?_;refine J0 ?_
    exact ao_end (next_of (k + 1, _) (ghost_dn eH) ⟨by dsimp only; omega, range_all_succ (by assumption) (hbr.trans hjall)⟩ (by dsimp only; omega))
  ·have hge : ¬ k < n := by simpa using h
   have : k = n := by omega
   subst this
   show (List.range k).all (blkRight f) = true
   assumption
 ·rintro ⟨env, m, nx⟩ hall
  refine ⟨_, .refl _, w_seq_region ?_⟩
  refine J1 ?_
  refine ao_end (q_ret1 (d := B true) rfl ?_)
  rw [hall]
end Go.Proofs.Tryz.K
end
section
open Go Go.Abs Go.Proofs Go.Argus
namespace Go.Argus
open Go.Proofs.Tryz.K (nextR)
theorem U64R_orU (a b : Int) : U64R (orU a b) := by
 unfold orU intBitsV U64R
 simp only
 rw [wrap_u64 (n := (BitVec.ofInt IntKind.u64.bits a ||| BitVec.ofInt IntKind.u64.bits b).toNat) (BitVec.isLt (w := 64) _)]
 have h : (BitVec.ofInt IntKind.u64.bits a ||| BitVec.ofInt IntKind.u64.bits b).toNat < 18446744073709551616 := BitVec.isLt (w := 64) _
 exact ⟨Int.natCast_nonneg _, Int.ofNat_lt.2 h⟩
theorem U64R_withI {w : List Int} {n : Int} (h : ∀ u ∈ w, U64R u) : ∀ u ∈ withI w n, U64R u := fun u hu => by
 unfold withI at hu
 split at hu
 ·unfold withW at hu
  rcases List.mem_or_eq_of_mem_set hu with h1 | h1
  ·exact h u h1
  ·rw [h1]; exact U64R_orU _ _
 ·exact h u hu
theorem U64R_argsW : ∀ k, ∀ u ∈ argsW k, U64R u
 | 0, u, hu => by
  rw [List.eq_of_mem_replicate hu]; simp [U64R]
 | k + 1, u, hu => U64R_withI (U64R_argsW k) u hu
theorem InsOk.rl {x : Ins} (h : InsOk x) : (readsR x).length <= 100000 := by
 unfold readsR
 split
 ·simp
 ·split
  ·simp
  ·split
   ·rename_i h10; have := h.ar (.inl h10); omega
   ·split
    ·rename_i h38; have := h.ar (.inr h38); simp; omega
    ·simp
theorem FinOk.rf {x : End} (h : FinOk x) (hi : x.kind = 5 -> InsOk x.ins) : (readsEnd x).length <= 100000 := by
 unfold readsEnd
 split
 ·simp
 ·split
  ·split <;> simp
  ·split
   ·rename_i h5; exact (hi h5).rl
   ·split
    ·rename_i h67
     have := h.a2 (by simpa [isIn] using h67)
     omega
    ·simp
structure FlowOk (f : Flow) : Prop where
 pos : 0 < f.blocks.length
 lim : f.blocks.length <= 1200
 regs : f.regs.length <= 1200
 args : 0 <= f.args /\ f.args <= 6
 blk : ∀ b ∈ f.blocks, BlkOk f.blocks.length b
 ends : ∀ b ∈ f.blocks, EndIn f b.fin
 right : ∀ (b : Nat) x, f.blocks[b]? = some x -> ∀ (j : Nat) y, x.ins[j]? = some y -> rightB f b y ((x.ins.take (j + 1)).all isPhi) (aheadL f.blocks f.blocks.length b).length = true
 slots : (∀ k ∈ f.slots, k ≠ 0) /\ f.slots.length <= 60
 end5 : ∀ b ∈ f.blocks, b.fin.kind = 5 -> InsOk b.fin.ins
theorem kinds_ne {l : List Int} {m : Int} (h : kindsOk l m = true) : ∀ k ∈ l, k ≠ 0 := fun k hk e => by
 subst e
 simp only [kindsOk, Bool.not_eq_true', List.any_eq_false] at h
 have := h 0 hk
 simp [kindByte] at this
theorem end5_ok {f : Flow} {x : End} (hl : f.regs.length <= 1200) (h : endedB f x = true) (h5 : x.kind = 5) : InsOk x.ins := by
 unfold endedB at h
 rw [Bool.and_eq_true] at h
 have h := h.1
 unfold endOk at h
 simp only [h5, Int.reduceEq, if_false, if_true, Bool.and_eq_true] at h
 obtain ⟨g1, g2, _⟩ := h
 cases hs : shapeAt triesT x.ins.op with
 | none => rw [hs] at g1; simp at g1
 | some s => rw [hs] at g2; exact insOk_shape hl (.inr (shapeAt_mem hs)) (shaped_in g2)
theorem flowOk {f : Flow} (h : formedB f = true) : FlowOk f := by
 unfold formedB at h
 simp only [Bool.and_eq_true] at h
 obtain ⟨hH, hK, _, hE, hR⟩ := h
 unfold formedH at hH
 simp only [Bool.and_eq_true, inR_true, Bool.not_eq_true', decide_eq_false_iff_not] at hH
 obtain ⟨_, ha, hr, hrl, hsl, hbl⟩ := hH
 unfold formedK at hK
 simp only [Bool.and_eq_true, Bool.not_eq_true', decide_eq_false_iff_not] at hK
 obtain ⟨_, _, hks, _, _⟩ := hK
 have hrl' : f.regs.length <= 1200 := by omega
 have hEb : ∀ x ∈ f.blocks, endedB f x.fin = true /\ x.ins.length <= 200 := fun x hx => by
  obtain ⟨k, hk⟩ := List.getElem?_of_mem hx
  have hlt : k < f.blocks.length := (List.getElem?_eq_some_iff.1 hk).1
  have := List.all_eq_true.1 hE k (by simpa using hlt)
  rw [blkEnds, getD_some hk] at this
  simp only [Bool.and_eq_true, Bool.not_eq_true', decide_eq_false_iff_not] at this
  exact ⟨this.1, by omega⟩
 have hEi : ∀ x ∈ f.blocks, EndIn f x.fin := fun x hx => ended_in hrl' hr (hEb x hx).1
 have hRi : ∀ (b : Nat) x, f.blocks[b]? = some x -> ∀ (j : Nat) y, x.ins[j]? = some y -> rightB f b y ((x.ins.take (j + 1)).all isPhi) (aheadL f.blocks f.blocks.length b).length = true := fun b x hx j y hy => by
  have hlt : b < f.blocks.length := (List.getElem?_eq_some_iff.1 hx).1
  have := List.all_eq_true.1 hR b (by simpa using hlt)
  rw [blkRight, getD_some hx] at this
  have := List.all_eq_true.1 this j (by simpa using (List.getElem?_eq_some_iff.1 hy).1)
  rw [insRight, getD_some hy] at this
  exact this
 have h5 : ∀ b ∈ f.blocks, b.fin.kind = 5 -> InsOk b.fin.ins := fun b hb h5 => end5_ok hrl' (hEb b hb).1 h5
 have hins : ∀ b ∈ f.blocks, ∀ x ∈ b.ins, InsOk x := fun b hb x hx => by
  obtain ⟨k, hk⟩ := List.getElem?_of_mem hb
  obtain ⟨j, hj⟩ := List.getElem?_of_mem hx
  exact (insOk_right hrl' (kinds_ne hks) oG (hRi k b hk j x hj)).1
 refine ⟨by omega, by omega, hrl', ⟨ha.1, by have := ha.2; split at this <;> omega⟩, fun b hb => ⟨by have := (hEb b hb).2; omega, hins b hb, (hEi b hb).fin, fun x hx => (hins b hb x hx).rl, (hEi b hb).fin.rf (h5 b hb), fun t ht => (hEi b hb).to t (mem_sortedR.1 ht)⟩, hEi, hRi, ⟨kinds_ne hks, by omega⟩, h5⟩
theorem FlowOk.phi {f : Flow} (h : FlowOk f) {b : Nat} {x : Block} (hx : f.blocks[b]? = some x) {y : Ins} (hy : y ∈ x.ins) (h19 : y.op = 19) : y.args.length = (aheadL f.blocks f.blocks.length b).length /\ ∀ r ∈ y.args, 0 <= r /\ r < 1280 := by
 obtain ⟨j, hj⟩ := List.getElem?_of_mem hy
 obtain ⟨h1, _, _, _, h2⟩ := (insOk_right h.regs h.slots.1 h.slots.2 (h.right b x hx j y hj)).2 h19
 refine ⟨by omega, fun r hr => ?_⟩
 have := (h2 r hr).2
 unfold RegIn at this
 have := h.regs
 omega
end Go.Argus
namespace Go.Proofs.Tryz.K
set_option maxRecDepth 10000
theorem k95 {f : Flow} : PCall prog 95 [.agg (encFlow f)] (I (checkR f)) := by
 have htr : ∀ a ∈ [D.agg (encFlow f)], Tr a := .cons (.agg (trs_flow f)) .nil
 refine pcall_of mixed ok95 (by rw [nt95]; rfl) htr (.s _) ?_
 rw [rs95, sk95]
 have k153 := k153 (f := f)
 refine w_seq_region_g ?_
 refine J43 ?_;refine J3 ?_
 refine ao_end (w_ghost (ghost_fz (i := 0) (l := [(1, .pt (encFlow f))]) rfl eH) (w_seq_blk (w_seq_region ?_)))
 refine J29 ?_;refine cl k153 ?_;refine J32 ?_;refine J1 ?_
 refine ao_end (w_if rfl (fun h => w_seq_region ?_) fun h => w_seq_region ?_)
 ·have hf : formedB f = false := by simpa using h
  refine J3 ?_
  refine ao_end (w_ret (j_block (j_seq (q_ret1 (d := I 80) rfl ?_))))
  rw [checkR, if_neg (by simp [hf])]
 ·have hf : formedB f = true := by simpa using h
  have hok := flowOk hf
  obtain ⟨args, ha⟩ := Int.eq_ofNat_of_zero_le hok.args.1
  have ha1 := hok.args.2
  have k154 := k154 (p := .s (.map none)) (q := .s (.map none)) (f := f) (.s _) (.s _) rfl rfl rfl hok.pos (by have := hok.lim; omega) ha oG (U64R_argsW args) hok.blk (fun b x hx y hy h19 => hok.phi hx hy h19)
  have hck : checkR f = if readsOkR f.blocks args = true then 0 else 81 := by rw [checkR, if_pos hf, ha, Int.toNat_natCast]
  generalize readsOkR f.blocks args = r at k154 hck
  refine J29 ?_
  refine ao_p (e_build2 (cs := encCode _ _ _) V.h V.h V.h rfl rfl) ak ⟨V.h, V.h⟩ ?_
  refine cl k154 ?_;refine J32 ?_;refine J1 ?_
  refine ao_end (w_if rfl (fun h => w_seq_region ?_) fun h => w_endB (w_seq_region ?_))
  ·have hr : r = false := by simpa using h
   refine J3 ?_
   refine ao_end (w_ret (j_block (j_seq (q_ret1 (d := I 81) rfl ?_))))
   rw [hck, hr]; rfl
  ·have hr : r = true := by simpa using h
   refine J3 ?_
   refine ao_end (w_ret (q_ret1 (d := I 0) rfl ?_))
   rw [hck, hr]; rfl
end Go.Proofs.Tryz.K
end
section
open Go Go.Abs Go.Proofs Go.Argus
namespace Go.Abs
theorem spliceS {z l : List D} (hz : z.length = 19) (hl : l.length = 19) : splice z 0 l = l := by
 unfold splice
 split
 ·simp at hl
 ·rw [List.take_zero, List.nil_append, List.drop_eq_nil_of_le oG, List.append_nil]
end Go.Abs
namespace Go.Argus
def nandU (a b : Int) : Int := intBitsV .andNot .u64 a b
def lessW (w : List Int) (m : Nat) : List Int := w.set (m / 64) (nandU (w.getD (m / 64) 0) (IntKind.u64.wrap (1 * 2 ^ (min (m % 64) 64))))
def lessI (w : List Int) (n : Int) : List Int := if 0 <= n then lessW w n.toNat else w
def bothK (w v : List Int) : Nat -> List Int
 | 0 => w
 | k + 1 => (bothK w v k).set k (orU ((bothK w v k).getD k 0) (v.getD k 0))
def bothW (w v : List Int) : List Int := bothK w v 19
@[simp] theorem len_lessW (w : List Int) (m : Nat) : (lessW w m).length = w.length := by simp [lessW]
@[simp] theorem len_lessI (w : List Int) (n : Int) : (lessI w n).length = w.length := by unfold lessI; split <;> simp
@[simp] theorem len_bothK (w v : List Int) : ∀ k, (bothK w v k).length = w.length
 | 0 => rfl
 | k + 1 => by simp [bothK, len_bothK w v k]
@[simp] theorem len_bothW (w v : List Int) : (bothW w v).length = w.length := len_bothK w v 19
end Go.Argus
namespace Go.Proofs.Tryz.K
set_option maxRecDepth 10000
theorem p_storeS {off : Nat} {vs cs : List D} (hv : vs.length = 19) (hl : off + 19 <= cs.length) (ho : vs.all D.one = true) : tyOk prog 100 = true /\ vs.length = prog.cellsOf 100 /\ off + prog.cellsOf 100 <= cs.length /\ vs.all D.one = true := by
 rw [c100]; exact ⟨t100, hv, hl, ho⟩
end Go.Proofs.Tryz.K
end
section
namespace Go.Argus
open Go Go.Abs
theorem tbV (v : BitVec 64) (i : Nat) : (IntKind.u64.wrap (v.toNat : Int)).toNat.testBit i = v.getLsbD i := by
 rw [wrap_u64 v.isLt, Int.toNat_natCast, BitVec.testBit_toNat]
theorem tbO {a : Int} (ha : U64R a) (i : Nat) : (BitVec.ofInt 64 a).getLsbD i = a.toNat.testBit i := by
 obtain ⟨n, rfl⟩ := Int.eq_ofNat_of_zero_le ha.1
 have h := ha.2
 rw [<- BitVec.testBit_toNat, BitVec.toNat_ofInt]
 congr 1
 omega
theorem tb_or {a b : Int} (ha : U64R a) (hb : U64R b) (i : Nat) : (orU a b).toNat.testBit i = (a.toNat.testBit i || b.toNat.testBit i) := by
 have : orU a b = IntKind.u64.wrap (((BitVec.ofInt 64 a ||| BitVec.ofInt 64 b).toNat : Nat) : Int) := rfl
 rw [this, tbV, BitVec.getLsbD_or, tbO ha, tbO hb]
theorem tb_and {a b : Int} (ha : U64R a) (hb : U64R b) (i : Nat) : (andU a b).toNat.testBit i = (a.toNat.testBit i && b.toNat.testBit i) := by
 have : andU a b = IntKind.u64.wrap (((BitVec.ofInt 64 a &&& BitVec.ofInt 64 b).toNat : Nat) : Int) := rfl
 rw [this, tbV, BitVec.getLsbD_and, tbO ha, tbO hb]
theorem U64R_wrap (v : BitVec 64) : U64R (IntKind.u64.wrap (v.toNat : Int)) := by
 rw [wrap_u64 v.isLt]
 have := v.isLt
 unfold U64R
 omega
theorem U64R_nandU (a b : Int) : U64R (nandU a b) := U64R_wrap (BitVec.ofInt 64 a &&& ~~~ BitVec.ofInt 64 b)
theorem U64R_orU' (a b : Int) : U64R (orU a b) := U64R_wrap (BitVec.ofInt 64 a ||| BitVec.ofInt 64 b)
theorem one_bit {k : Nat} (hk : k < 64) : IntKind.u64.wrap (1 * 2 ^ (min k 64)) = ((2 ^ k : Nat) : Int) := by
 have h1 : min k 64 = k := by omega
 have h2 : (2 : Nat) ^ k < 2 ^ 64 := Nat.pow_lt_pow_right oG hk
 rw [h1, Int.one_mul, <- wrap_u64 h2]
 norm_cast
def bitW (w : List Int) (r : Nat) : Bool := (w.getD (r / 64) 0).toNat.testBit (r % 64)
def AllU (w : List Int) : Prop := ∀ u ∈ w, U64R u
theorem AllU.get {w : List Int} (h : AllU w) (i : Nat) : U64R (w.getD i 0) := by
 rw [List.getD_eq_getElem?_getD]
 cases hx : w[i]? with
 | none => exact ⟨by simp, by simp⟩
 | some u => exact h u (List.mem_of_getElem? hx)
theorem U64R_pow {k : Nat} (hk : k < 64) : U64R ((2 ^ k : Nat) : Int) := by
 have h2 : (2 : Nat) ^ k < 2 ^ 64 := Nat.pow_lt_pow_right oG hk
 generalize (2 : Nat) ^ k = z at h2
 unfold U64R; omega
theorem hasW_bit {w : List Int} (h : AllU w) (m : Nat) : hasW w m = bitW w m := by
 have hu := h.get (m / 64)
 unfold hasW bitW
 generalize w.getD (m / 64) 0 = u at hu
 have hk : min (m % 64) 64 = m % 64 := by omega
 rw [hk]
 obtain ⟨n, rfl⟩ := Int.eq_ofNat_of_zero_le hu.1
 have e : ((n : Int).fdiv (2 ^ (m % 64))) = ((n / 2 ^ (m % 64) : Nat) : Int) := by
  rw [Int.fdiv_eq_ediv_of_nonneg _ (Int.le_of_lt (Int.pow_pos oG)), Int.natCast_ediv, Int.natCast_pow]
  rfl
 rw [e]
 have hd : n / 2 ^ (m % 64) <= n := Nat.div_le_self _ _
 have hq : U64R ((n / 2 ^ (m % 64) : Nat) : Int) := by
  have := hu.2
  revert hd
  generalize n / 2 ^ (m % 64) = z
  intro hd
  unfold U64R; omega
 have h1 : U64R 1 := by unfold U64R; omega
 have hb : ∀ i, (andU ((n / 2 ^ (m % 64) : Nat) : Int) 1).toNat.testBit i = (n.testBit (m % 64) && decide (i = 0)) := fun i => by
  rw [tb_and hq h1, Int.toNat_natCast]
  by_cases hi : i = 0
  ·subst hi
   simp [Nat.testBit_eq_decide_div_mod_eq]
  ·have : (1 : Int).toNat.testBit i = false := by
    show Nat.testBit 1 i = false
    cases i with
    | zero => omega
    | succ j => simp [Nat.testBit_succ]
   rw [this]; simp [hi]
 have hp : U64R (andU ((n / 2 ^ (m % 64) : Nat) : Int) 1) := U64R_wrap (BitVec.ofInt 64 _ &&& BitVec.ofInt 64 1)
 generalize andU ((n / 2 ^ (m % 64) : Nat) : Int) 1 = z at hb hp
 obtain ⟨q, rfl⟩ := Int.eq_ofNat_of_zero_le hp.1
 simp only [Int.toNat_natCast] at hb ⊢
 cases hn : n.testBit (m % 64) with
 | false =>
  have : q = 0 := Nat.eq_of_testBit_eq fun i => by rw [hb i, hn]; simp
  subst this; rfl
 | true =>
  have : q = 1 := Nat.eq_of_testBit_eq fun i => by
   rw [hb i, hn]
   cases i with
   | zero => simp
   | succ j => simp [Nat.testBit_succ]
  subst this; rfl
theorem bit_set {w : List Int} {i : Nat} {u : Int} (hi : i < w.length) (r : Nat) : bitW (w.set i u) r = if r / 64 = i then u.toNat.testBit (r % 64) else bitW w r := by
 unfold bitW
 simp only [List.getD_eq_getElem?_getD, List.getElem?_set]
 split
 ·rename_i h; subst h; simp [hi]
 ·rename_i h; rw [if_neg fun e => h e.symm]
theorem bit_with {w : List Int} (h : AllU w) {m : Nat} (hm : m / 64 < w.length) (r : Nat) : bitW (withW w m) r = (bitW w r || decide (r = m)) := by
 have hk : m % 64 < 64 := by omega
 unfold withW
 rw [one_bit hk, bit_set hm]
 split
 ·rename_i e
  rw [tb_or (h.get _) (U64R_pow hk), Int.toNat_natCast, Nat.testBit_two_pow, bitW, e]
  congr 1
  apply decide_eq_decide.2
  omega
 ·rename_i e
  have : ¬ r = m := fun h => e (by rw [h])
  simp [this]
theorem AllU.set {w : List Int} (h : AllU w) {i : Nat} {u : Int} (hu : U64R u) : AllU (w.set i u) := fun x hx => by
 rcases List.mem_or_eq_of_mem_set hx with h1 | h1
 ·exact h x h1
 ·subst h1; exact hu
theorem AllU.with {w : List Int} (h : AllU w) (m : Nat) : AllU (withW w m) := h.set (U64R_orU' _ _)
theorem AllU.less {w : List Int} (h : AllU w) (m : Nat) : AllU (lessW w m) := h.set (U64R_nandU _ _)
theorem AllU.lessI {w : List Int} (h : AllU w) (n : Int) : AllU (lessI w n) := by
 unfold Argus.lessI; split
 ·exact h.less _
 ·exact h
theorem AllU.bothK {w v : List Int} (h : AllU w) : ∀ k, AllU (bothK w v k)
 | 0 => h
 | k + 1 => (AllU.bothK h k).set (U64R_orU' _ _)
theorem AllU_zero (n : Nat) : AllU (List.replicate n 0) := fun u hu => by
 rw [List.eq_of_mem_replicate hu]; simp [U64R]
end Go.Argus
end
section
namespace Go.Argus
open Go Go.Abs
section
variable (beh : Nat -> List Int) (fate : Nat -> Bool -> Int) (ent : Nat -> Nat -> Int)
inductive Lv : Nat -> Prop
 | here {b : Nat} : fate b true = 1 -> Lv b
 | read {b : Nat} {c : Int} : fate b true = 0 -> c ∈ beh b -> ent b c.toNat = 1 -> Lv b
 | on {b : Nat} {c : Int} : fate b true = 0 -> c ∈ beh b -> ent b c.toNat = 0 -> Lv c.toNat -> Lv b
variable {beh fate ent} {phiW : Nat -> Bool} {wIn : Nat -> Bool -> Bool}
inductive GP (beh : Nat -> List Int) (fate : Nat -> Bool -> Int) (ent : Nat -> Nat -> Int) (b0 : Int) : List Int -> Int -> Prop
 | one : GP beh fate ent b0 [b0] b0
 | snoc {p : List Int} {a c : Int} : GP beh fate ent b0 p a -> fate a.toNat true = 0 -> c ∈ beh a.toNat -> ent a.toNat c.toNat = 0 -> GP beh fate ent b0 (p ++ [c]) c
theorem GP.head {b0 : Int} {p : List Int} {b : Int} (h : GP beh fate ent b0 p b) : ∃ t, p = b0 :: t := by
 induction h with
 | one => exact ⟨[], rfl⟩
 | snoc _ _ _ _ ih =>
  obtain ⟨t, rfl⟩ := ih
  exact ⟨t ++ _, rfl⟩
theorem closed_not_lv {V : Nat -> Prop} (hV : ∀ b, V b -> fate b true ≠ 1 /\ (fate b true = 0 -> ∀ c ∈ beh b, ent b c.toNat ≠ 1 /\ (ent b c.toNat = 0 -> V c.toNat))) {b : Nat} (hb : V b) : ¬ Lv beh fate ent b := by
 intro h
 induction h with
 | here h => exact (hV _ hb).1 h
 | read h1 h2 h3 => exact ((hV _ hb).2 h1 _ h2).1 h3
 | on h1 h2 h3 _ ih => exact ih (((hV _ hb).2 h1 _ h2).2 h3)
end
end Go.Argus
end
