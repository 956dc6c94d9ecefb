/- DomNested: for every flow the law answers true, and its argument reads as before. No condition. -/
import Derived.Test.YtonoegleildfnaaGreatNested5
import Derived.Test.YtonoegleildfnaaGreatRows
section
open Go Go.Abs Go.Proofs Go.Argus
namespace Go.Abs
theorem w_absm {P : Program} {Y : YSpec} {rf : Bool} {b : Code} {Q : Exit -> St -> Prop} {env : Env} {m : Mem} {nx : Nat} {l : List (Nat × D)} (he : EnvHas l env) (K : ∀ M, M = m -> AW P Y rf b Q ⟨envL l, M, nx⟩) :
  ∃ st', Ghost P ⟨env, m, nx⟩ st' /\ AW P Y rf b Q st' := ⟨_, ghost_of he, K m rfl⟩
end Go.Abs
namespace Go.Argus
def encLoop (p : Int × List Int) : List D := [I p.1, encInts p.2]
@[simp] theorem len_encLoop (p : Int × List Int) : (encLoop p).length = 2 := rfl
def encLoops (l : List (Int × List Int)) : D := if l = [] then .z else .sl (l.flatMap encLoop) l.length
theorem tr_loops (l : List (Int × List Int)) : Tr (encLoops l) := by
 unfold encLoops
 split
 ·exact .z
 ·exact .sl (.flat fun p => .cons (.s _) (.cons (tr_ints _) .nil))
def loopsG (f : Flow) : List (Int × List Int) := loopsR (reachR (behG f) f.blocks.length (-1)) (parentsR (behG f) (ahdG f) f.blocks.length) (ahdG f) f.blocks.length
def loopsD (f : Flow) : D := if checkR f = 0 then .tup [encLoops (loopsG f), I 0] else .tup [.z, I (checkR f)]
theorem tr_loopsD (f : Flow) : Tr (loopsD f) := by
 unfold loopsD
 split
 ·exact .tup (.cons (tr_loops _) (.cons (.s _) .nil))
 ·exact .tup (.cons .z (.cons (.s _) .nil))
def bodyK (s : List Int) (i : Nat) : List Int := ((List.range i).filter fun (i : Nat) => decide ((i : Int) ∈ s)).map fun (i : Nat) => (i : Int)
theorem bodyK_succ (s : List Int) (i : Nat) : bodyK s (i + 1) = if (i : Int) ∈ s then bodyK s i ++ [(i : Int)] else bodyK s i := by
 unfold bodyK
 rw [List.range_succ, List.filter_append, List.map_append]
 by_cases h : (i : Int) ∈ s
 ·rw [if_pos h, List.filter_cons_of_pos (by simpa using h)]; rfl
 ·rw [if_neg h, List.filter_cons_of_neg (by simpa using h), List.filter_nil, List.map_nil, List.append_nil]
theorem bodyK_len (s : List Int) (i : Nat) : (bodyK s i).length <= i := by
 unfold bodyK
 rw [List.length_map]
 exact Nat.le_trans (List.length_filter_le _ _) (by simp)
theorem vis_mem {cnt : List Bool} {ahd : Nat -> List Int} {x : Int} : ∀ (k : Nat) (s : List Int) (b : Int), x ∈ s -> x ∈ visV cnt ahd k s b
 | 0, s, b, h => h
 | k + 1, s, b, h => by
  rw [visV]
  split
  ·exact h
  ·have hF : ∀ (l : List Int) (t : List Int), x ∈ t -> x ∈ l.foldl (visV cnt ahd k) t := fun l => by
    induction l with
    | nil => exact fun t ht => ht
    | cons a l ih => exact fun t ht => ih _ (vis_mem k t a ht)
   exact hF _ _ (by simp [h])
structure LoS2 (cs : List D) (l : Nat) (p : Int × List Int) (m : Mem) (nx : Nat) : Prop where
 nx4 : 4 <= nx
 row : ∃ q, m 3 = some (.cells [.rs q 0 (l + 1)] 59) /\ 4 <= q /\ q < nx /\ m q = some (.cells (cs ++ encLoop p) 74)
theorem loops_len {cnt : List Bool} {par : List Int} {ahd : Nat -> List Int} {n : Nat} (xs : List Int) : (xs.foldl (loopsB cnt par ahd n) []).length <= xs.length := by
 induction xs using rev_ind with
 | h0 => exact Nat.le_refl _
 | h1 xs b ih =>
  rw [List.foldl_append, List.length_append, List.length_singleton]
  show (loopsB cnt par ahd n _ b).length <= _
  generalize xs.foldl (loopsB cnt par ahd n) [] = o at ih ⊢
  unfold loopsB
  split
  ·rw [List.length_append, List.length_singleton]; omega
  ·omega
structure LoB (s : List Int) (b nx qb : Nat) (m m' : Mem) (nx' i : Nat) : Prop where
 nx4 : nx + 4 <= nx'
 mp : m' nx = some (.map (bm s))
 m1 : m' (nx + 1) = some (.cells [.mp nx] 127)
 row : m' (nx + 3) = some (.cells [I b, if bodyK s i = [] then .z else .rs qb 0 (bodyK s i).length] 74)
 bod : bodyK s i ≠ [] -> nx + 4 <= qb /\ qb < nx' /\ m' qb = some (.cells ((bodyK s i).map I) 3)
 old : ∀ p, p < nx -> m' p = m p
structure LoS (L : List (Int × List Int)) (m : Mem) (nx : Nat) : Prop where
 nx4 : 4 <= nx
 row : ∃ q, m 3 = some (.cells [if L = [] then .z else .rs q 0 L.length] 59) /\ (L ≠ [] -> 4 <= q /\ q < nx /\ m q = some (.cells (L.flatMap encLoop) 74))
end Go.Argus
namespace Go.Proofs.Tryz.K
set_option maxRecDepth 10000
theorem k41_err {f : Flow} (hck : checkR f ≠ 0) : PCall prog 41 [.agg (encFlow f)] (loopsD f) := by
 have k51 := k51_err hck
 refine pcall_of mixed ok41 (by rw [nt41]; rfl) (.cons (.agg (trs_flow f)) .nil) (tr_loopsD f) ?_
 rw [loopsD, if_neg hck]
 generalize checkR f = e at k51 hck
 have kneq : (e != 0) = true := by simpa using hck
 rw [rs41, sk41]
 refine w_seq_region_g ?_
 refine J37 ?_;refine J20 ?_;refine J2 ?_
 refine ao_end (w_ghost (ghost_fr [(0, encFlow f, 26)] eH (l := [(1, .pt (encFlow f))]) eH) (w_seq_region ?_))
 refine J28 ?_;refine cl k51 ?_;refine J26 ?_;refine J88 ?_;refine J31 ?_;refine J19 ?_
 refine ao_w (e_store1 (d := .s (.pointer none)) (cs' := [_]) rfl rfl rfl rfl rfl) ak (p_store V.h V.h (by first | (simp; done) | exact ⟨rfl, Nat.le_of_ble_eq_true rfl⟩ | (simp; omega)) rfl) ?_
 refine J2 ?_
 refine ao_end (w_assoc (w_seq_region ?_))
 refine J0 ?_;refine J56 ?_
 refine ao_end (w_seq_if rfl (fun _ => ?_) fun h => (by cases h))
 refine w_assoc (w_seq_region ?_)
 refine J0 ?_;refine J20 ?_;refine J2 ?_
 exact ao_end (w_seq_ret (q_ret2 rfl rfl rfl))
set_option maxHeartbeats 2000000 in
theorem k41_ok {f : Flow} (hck : checkR f = 0) : PCall prog 41 [.agg (encFlow f)] (loopsD f) := by
 have k51 := k51_ok hck
 have hf : formedB f = true := by
  unfold checkR at hck
  split at hck
  ·assumption
  ·cases hck
 have hok := flowOk hf
 have hg := parG hok
 refine pcall_of mixed ok41 (by rw [nt41]; rfl) (.cons (.agg (trs_flow f)) .nil) (tr_loopsD f) ?_
 rw [loopsD, if_pos hck]
 obtain ⟨n, hn⟩ : ∃ n, f.blocks.length = n := ⟨_, rfl⟩
 have hlim := hok.lim
 have hgr : graphR f = encGraph f (behR f) (aheadR f.blocks) (encBools (reachR (behG f) f.blocks.length (-1))) := rfl
 have k60 := k60f hok (c := encBools (reachR (behG f) f.blocks.length (-1))) (.sl (.map fun _ => .s _)) rfl
 have s61 := s61 (f := f) (beh := behR f) (ahd := aheadR f.blocks) (cnt := reachR (behG f) f.blocks.length (-1)) (by rw [reach_len hg.to hg.pos]; omega)
 have hrl := reach_len (w := -1) hg.to hg.pos
 have hax : ∀ b, b < f.blocks.length -> (aheadR f.blocks)[b]? = some (ahdG f b) := fun b hb => behF_get (by simp [aheadR]; omega)
 have hal := ahdG_len hok
 have har : ∀ b, ∀ a ∈ ahdG f b, 0 <= a /\ a.toNat < f.blocks.length := fun b a ha => by have := (hg.fro b a).1 ha; exact ⟨this.1, this.2.1⟩
 have h87 : ∀ (h a : Nat), (reachR (behG f) f.blocks.length (-1)).getD a false = true -> PCall prog 87 [encInts (parentsR (behG f) (ahdG f) f.blocks.length), I h, I a] (B (overI (parentsR (behG f) (ahdG f) f.blocks.length) (f.blocks.length + 1) h a)) := fun h a ha =>
  k87 (upTo (behG f) f.blocks.length) (.inr ⟨a, rfl, ha, by have := plN_lt hg ha; have := ord_le hg; omega⟩) (upTo_step hg)
 have h93 := fun M i9 i11 (h1 : M ≠ i9) (h2 : M ≠ i11) k m nx s b => k93 (f := f) (BL := behR f) (AL := aheadR f.blocks) hrl hlim hax har hal h1 h2 k m nx s b
 have hlG : loopsG f = loopsR (reachR (behG f) f.blocks.length (-1)) (parentsR (behG f) (ahdG f) f.blocks.length) (ahdG f) f.blocks.length := rfl
 rw [hgr] at k51
 rw [hrl] at s61
 rw [hlG]
 clear hlG
 rw [rs41, sk41]
 generalize aheadR f.blocks = AL at k51 k60 s61 hax h93
 generalize behR f = BL at k51 k60 s61 h93
 generalize parentsR (behG f) (ahdG f) f.blocks.length = par at k60 h87 ⊢
 generalize reachR (behG f) f.blocks.length (-1) = cnt at k51 k60 s61 hrl h87 h93 ⊢
 generalize ahdG f = ahd at hax hal har h93 ⊢
 rw [hn] at hrl hax har s61 hlim h87 h93 ⊢
 refine w_seq_region_g ?_
 refine J37 ?_;refine J20 ?_;refine J2 ?_
 refine ao_end (w_ghost (ghost_fr [(0, encFlow f, 26)] eH (l := [(1, .pt (encFlow f))]) eH) (w_seq_region_g ?_))
 refine J28 ?_;refine cl k51 ?_;refine J26 ?_;refine J89 ?_;refine J31 ?_;refine J19 ?_
 refine ao_w (e_store1 (d := .pt _) (cs' := [_]) rfl rfl rfl rfl rfl) ak (p_store V.h V.h (by first | (simp; done) | exact ⟨rfl, Nat.le_of_ble_eq_true rfl⟩ | (simp; omega)) rfl) ?_
 refine J2 ?_
 refine ao_end (w_ghost (ghost_fr [(1, [.pt (encGraph f BL AL (encBools cnt))], 79)] eH (l := [(4, .pt [.pt (encGraph f BL AL (encBools cnt))]), (5, I 0)]) eH) (w_assoc (w_seq_region ?_)))
 refine J0 ?_;refine J35 ?_
 refine ao_end (w_seq_if rfl (fun h => (by cases h)) fun _ => w_seq_skip (w_seq_region_g ?_))
 refine J4 ?_;refine cl k60 ?_;refine J19 ?_
 refine ao_w (e_store1 (d := .sl _ _) (cs' := [_]) rfl rfl rfl rfl rfl) ak (p_store V.h V.h (by first | (simp; done) | exact ⟨rfl, Nat.le_of_ble_eq_true rfl⟩ | (simp; omega)) rfl) ?_
 refine ao_end (w_ghost (ghost_fr [(2, [encInts par], 27)] eH (l := [(4, .pt [.pt (encGraph f BL AL (encBools cnt))]), (6, .pt [encInts par])]) eH) (w_seq_region ?_))
 refine J19 ?_
 refine ao_end ?_
 have hlR : loopsR cnt par ahd n = (allI cnt n).foldl (loopsB cnt par ahd n) [] := rfl
 rw [hlR]
 clear hlR
 have hxn : (allI cnt n).length <= n := by
  unfold allI
  rw [List.length_map]
  exact Nat.le_trans (List.length_filter_le _ _) (by simp)
 have hxm : ∀ (k : Nat) x, (allI cnt n)[k]? = some x -> ∃ b : Nat, x = b /\ b < n := fun k x hx => by
  have := List.mem_of_getElem? hx
  unfold allI at this
  obtain ⟨b, hb, rfl⟩ := List.mem_map.1 this
  rw [List.mem_filter, List.mem_range] at hb
  exact ⟨b, rfl, hb.1⟩
 generalize allI cnt n = xs at s61 hxn hxm ⊢
 refine w_cut_g (fun s => ∃ m nx, Ghost prog s ⟨envL [(7, .rp 3 0)], m, nx⟩ /\ LoS (xs.foldl (loopsB cnt par ahd n) []) m nx) (w_seq_region ?_) fun s hs => ?_
 ·refine J4 ?_;refine J58 ?_
  refine ao_end (w_block ?_)
  refine ⟨rfl, trivial, 61, _, [], xs.map (fun n => [I n]), fun k m nx => LoS ((xs.take k).foldl (loopsB cnt par ahd n) []) m nx, rfl, s61, ?_, ?_, ?_, ?_⟩
  ·intro y hy
   obtain ⟨n, _, rfl⟩ := List.mem_map.1 hy
   exact ⟨rfl, .cons (.s _) .nil⟩
  ·exact ⟨Nat.le_refl _, 0, rfl, fun h => absurd rfl h⟩
  ·rintro k m nx y hy hI
   simp only [List.getElem?_map, Option.map_eq_some_iff] at hy
   obtain ⟨b, hb, rfl⟩ := hy
   obtain ⟨bn, rfl, hbn⟩ := hxm k b hb
   have hk : k < xs.length := (List.getElem?_eq_some_iff.1 hb).1
   have hstep : (xs.take (k + 1)).foldl (loopsB cnt par ahd n) [] = loopsB cnt par ahd n ((xs.take k).foldl (loopsB cnt par ahd n) []) bn := foldl_take hb
   have hLk : ((xs.take k).foldl (loopsB cnt par ahd n) []).length <= k := Nat.le_trans (loops_len _) (by simp; omega)
   generalize (xs.take k).foldl (loopsB cnt par ahd n) [] = L at hI hstep hLk
   have hlb : loopsB cnt par ahd n L (bn : Int) = if (loopS cnt par ahd n bn).2 = true then L ++ [((bn : Int), bodyR n (loopS cnt par ahd n bn).1)] else L := rfl
   have hls : loopS cnt par ahd n (bn : Int) = (ahd bn).foldl (latchR cnt par ahd n bn) ([(bn : Int)], false) := rfl
   rw [hls] at hlb
   rw [hlb] at hstep
   clear hlb hls
   obtain ⟨S, hS⟩ : ∃ S, (ahd bn).foldl (latchR cnt par ahd n bn) ([(bn : Int)], false) = S := ⟨_, rfl⟩
   rw [hS] at hstep
   have hyes : S.2 = true -> ∀ m nx, LoS (L ++ [((bn : Int), bodyR n S.1)]) m nx -> LoS ((xs.take (k + 1)).foldl (loopsB cnt par ahd n) []) m nx := fun hc m nx h => by rw [hstep, if_pos hc]; exact h
   have hno : S.2 = false -> ∀ m nx, LoS L m nx -> LoS ((xs.take (k + 1)).foldl (loopsB cnt par ahd n) []) m nx := fun hc m nx h => by rw [hstep, hc, if_neg (by simp)]; exact h
   clear hstep
   obtain ⟨hnx4, q, hr3, hrq⟩ := hI
   have hbx := hax bn hbn
   have hbl := hal bn
   have hbr := har bn
   have h87 := h87 bn
   have h93 := h93 nx (nx + 1) (nx + 2) oG oG
   have hlat : ∀ (s : List Int × Bool) (a : Nat), latchR cnt par ahd n (bn : Int) s a = if cnt.getD a false = true /\ overI par (n + 1) bn a = true then (visV cnt ahd n s.1 a, true) else s := fun s a => rfl
   have hvk : ∀ (s : List Int) (a : Nat), VisOk n s -> a < n -> VisOk n (visV cnt ahd n s a) := fun s a hs ha => (vis_keep har n s a hs ⟨by omega, by simpa using ha⟩).1
   have hs0 : VisOk n [(bn : Int)] := ⟨by simp, fun x hx => by rw [List.mem_singleton] at hx; subst hx; exact ⟨by omega, by simpa using hbn⟩⟩
   generalize ahd bn = l at hbx hbl hbr hS
   refine w_regE ?_
   refine J2 ?_
   refine ao_end (show AW _ _ _ _ _ _ from w_block (w_seq_region ?_))
   refine J102 ?_;refine J0 ?_
   refine ao_w (e_insert rfl (up_same _ _ _) rfl rfl mk127) (by repeat' (first | exact trivial | exact rfl | refine And.intro ?_ ?_)) ⟨mt127, by rfl, by rfl⟩ ?_
   refine J77 ?_;refine J19 ?_
   refine ao_w (e_store1 (d := .mp _) (cs' := [_]) rfl rfl (up_same _ _ _) rfl rfl) ak (p_store V.h V.h (by first | (simp; done) | exact ⟨rfl, Nat.le_of_ble_eq_true rfl⟩ | (simp; omega)) rfl) ?_
   refine er ?_;refine J1 ?_;refine er ?_;refine J19 ?_
   refine ao_end (w_seq_region_g ?_)
   refine J58 ?_
   refine ao_w (e_store1 (d := .fn _ _ _) (cs' := [_]) rfl rfl (up_same _ _ _) rfl rfl) ak (p_store V.h V.h (by first | (simp; done) | exact ⟨rfl, Nat.le_of_ble_eq_true rfl⟩ | (simp; omega)) rfl) ?_
   have hput : putD (.int .i64 (bn : Int)) (B true) (bm []) = bm [(bn : Int)] := put_bm (by simp)
   refine ao_end (w_absm (l := [(4, .pt [.pt (encGraph f BL AL (encBools cnt))]), (6, .pt [encInts par]), (7, .rp 3 0), (8, I bn), (9, .rp (nx + 1) 0), (10, B false), (11, .rp (nx + 2) 0)]) ⟨rfl, rfl, rfl, rfl, rfl, rfl, rfl, trivial⟩ fun M1 hM1 => w_assoc (w_seq_region_g ?_))
   have m0 : M1 nx = some (.map (bm [(bn : Int)])) := by rw [hM1, <- hput]; exact mskip oG (mskip oG (mskip oG (mskip oG (up_same _ _ _))))
   have m1 : M1 (nx + 1) = some (.cells [.mp nx] 127) := by rw [hM1]; exact mskip oG (mskip oG (up_same _ _ _))
   have m2 : M1 (nx + 2) = some (.cells [.fn (.func 93) [] [.rp (nx + 1) 0, .pt [.pt (encGraph f BL AL (encBools cnt))], .rp (nx + 2) 0]] 128) := by rw [hM1]; exact up_same _ _ _
   have mold : ∀ p, p < nx -> M1 p = m p := fun p hp => by
    have a1 : p ≠ nx := by omega
    have a2 : p ≠ nx + 1 := by omega
    have a3 : p ≠ nx + 2 := by omega
    rw [hM1]; exact mskip a3 (mskip a3 (mskip a2 (mskip a2 (mskip a1 (mskip a1 rfl)))))
   clear hM1 hput
   refine J4 ?_;refine J40 ?_;refine J5 ?_;refine J4 ?_;refine J0 ?_;refine J18 ?_;refine J4 ?_;refine J13 ?_;refine J0 ?_
   refine ao_end (w_then (fun s => Ghost prog s ⟨envL [(4, .pt [.pt (encGraph f BL AL (encBools cnt))]), (7, .rp 3 0), (8, I bn), (9, .rp (nx + 1) 0), (10, B S.2)], up M1 nx (some (.map (bm S.1))), nx + 3⟩ /\ (bn : Int) ∈ S.1) (w_range (α := Nat × (List Int × Bool))
    (fun j => ⟨envL [(4, .pt [.pt (encGraph f BL AL (encBools cnt))]), (6, .pt [encInts par]), (7, .rp 3 0), (8, I bn), (9, .rp (nx + 1) 0), (10, B j.2.2), (11, .rp (nx + 2) 0), (39, encInts l), (40, I l.length), (41, I j.1)], up M1 nx (some (.map (bm j.2.1))), nx + 3⟩)
    (fun j => j.1 <= l.length /\ (VisOk n j.2.1 /\ (bn : Int) ∈ j.2.1) /\ (True -> (l.take j.1).foldl (latchR cnt par ahd n bn) ([(bn : Int)], false) = j.2)) (fun j => l.length - j.1) (0, ([(bn : Int)], false))
    (ghost_mem eH ?_) ⟨Nat.zero_le _, ⟨hs0, by simp⟩, fun _ => rfl⟩ ?_) ?_)
   ·funext p
    simp only [up]
    split
    ·rename_i e; rw [e]; exact m0
    ·rfl
   ·rintro ⟨j, s⟩ ⟨hj, ⟨hs, hmem⟩, heq⟩
    dsimp only at hj hs hmem heq ⊢
    refine J15 ?_
    refine ao_end ⟨_, rfl, fun h => ?_, fun h => ?_⟩
    ·have hlt : j < l.length := by simpa using h
     have hx : l[j]? = some l[j] := List.getElem?_eq_getElem hlt
     have htt := hbr _ (List.getElem_mem hlt)
     generalize l[j] = a at hx htt
     obtain ⟨an, rfl⟩ := Int.eq_ofNat_of_zero_le htt.1
     have han : an < n := htt.2
     have hnext : True -> (l.take (j + 1)).foldl (latchR cnt par ahd n bn) ([(bn : Int)], false) = if cnt.getD an false = true /\ overI par (n + 1) bn an = true then (visV cnt ahd n s.1 an, true) else s := fun _ => by rw [foldl_take hx, heq trivial]; exact hlat s an
     have hca : cnt[an]? = some (cnt.getD an false) := by
      have := List.getElem?_eq_getElem (show an < cnt.length by omega)
      rw [List.getD_eq_getElem?_getD, this]; rfl
     have k87 : (cnt.getD an false == true) = true -> PCall prog 87 [encInts par, I bn, I an] (B (overI par (n + 1) bn an)) := fun hc => h87 an (by simpa using hc)
     have hv := hvk s.1 an hs han
     have hvm : (bn : Int) ∈ visV cnt ahd n s.1 an := vis_mem n s.1 an hmem
     have hsl := hs.len
     generalize overI par (n + 1) bn an = ov at k87 hnext
     generalize cnt.getD an false = ca at hca k87 hnext
     refine ws ?_;refine J18 ?_;refine J4 ?_;refine J2 ?_;refine er ?_;refine J4 ?_;refine J40 ?_;refine J5 ?_;refine J4 ?_;refine J0 ?_;refine J18 ?_;refine J4 ?_;refine J3 ?_;refine J6 ?_;refine J11 ?_;refine J11 ?_
     refine ao_gpc rfl rfl rfl (fun hc => ⟨ak, k87 hc⟩) ?_
     refine J9 ?_
     refine ao_end (w_if rfl (fun h => w_seq_region ?_) fun h => w_end ?_)
     ·have hc : ca = true /\ ov = true := by revert h; cases ca <;> simp
      refine J1 ?_
      refine ao_end (w_regB2 ?_)
      have hrow : up M1 nx (some (.map (bm s.1))) (nx + 2) = some (.cells [.fn (.func 93) [] [.rp (nx + 1) 0, .pt [.pt (encGraph f BL AL (encBools cnt))], .rp (nx + 2) 0]] 128) := mskip oG m2
      have hr1 : up M1 nx (some (.map (bm s.1))) (nx + 1) = some (.cells [.mp nx] 127) := mskip oG m1
      refine J38 ?_;refine J0 ?_
      refine ao_ac (h93 n _ (nx + 3) s.1 an oG oG oG hr1 hrow (up_same _ _ _) hs han oG) rfl (by repeat' (first | exact trivial | exact rfl | refine And.intro ?_ ?_)) fun d m' nx' hp => ?_
      obtain ⟨rfl, rfl, rfl⟩ := hp
      refine ao_end ?_
      refine J10 ?_;refine J0 ?_
      refine ao_end (next_of (j + 1, (visV cnt ahd n s.1 an, true)) (ghost_mem eH (up_up _ _ _ _)) ⟨by dsimp only; omega, ⟨hv, hvm⟩, fun _ => by rw [hnext trivial, if_pos hc]⟩ (by dsimp only; omega))
     ·have hc : ¬ (ca = true /\ ov = true) := by revert h; cases ca <;> cases ov <;> simp
      refine J10 ?_;refine J0 ?_
      refine ao_end (next_of (j + 1, s) (ghost_of eH) ⟨by dsimp only; omega, ⟨hs, hmem⟩, fun _ => by rw [hnext trivial, if_neg hc]⟩ (by dsimp only; omega))
    ·have hge : ¬ j < l.length := by simpa using h
     have e := heq trivial
     rw [List.take_of_length_le oG, hS] at e
     subst e
     exact ⟨ghost_of eH, hmem⟩
   rintro s ⟨hg1, hSm⟩
   have hMo : ∀ p, p < nx -> up M1 nx (some (.map (bm S.1))) p = m p := fun p hp => (up_ne _ _ oG).trans (mold p hp)
   refine ⟨_, hg1, w_assoc (w_seq_region ?_)⟩
   refine J3 ?_;refine J33 ?_
   refine ao_end (w_seq_if rfl (fun h => w_seq_exit ?_) fun h => w_seq_skip (w_seq_region_g ?_))
   ·have hc : S.2 = false := by simpa using h
    simp only [blockQ, if_true]
    refine hno hc _ _ ⟨by dsimp only; omega, q, (hMo 3 oG).trans hr3, fun hne => ?_⟩
    obtain ⟨q1, q2, q3⟩ := hrq hne
    exact ⟨q1, by dsimp only; omega, (hMo q q2).trans q3⟩
   have hc : S.2 = true := by simpa using h
   have hyes := hyes hc
   clear hno hc h h87 h93 hlat hvk hs0 hS
   obtain ⟨sS, sB⟩ := S
   dsimp only at hMo hyes hSm ⊢
   have hmM : up M1 nx (some (.map (bm sS))) nx = some (.map (bm sS)) := up_same _ _ _
   have hm1 : up M1 nx (some (.map (bm sS))) (nx + 1) = some (.cells [.mp nx] 127) := (up_ne _ _ oG).trans m1
   generalize up M1 nx (some (.map (bm sS))) = M2 at hMo hmM hm1
   refine J0 ?_;refine J36 ?_;refine J19 ?_
   refine ao_w (e_storeA rfl rfl (up_same _ _ _) rfl) ak (p_store V.h V.h (by first | (simp; done) | exact ⟨rfl, Nat.le_of_ble_eq_true rfl⟩ | (simp; omega)) (by rfl)) ?_
   refine ao_end (w_absm (l := [(4, .pt [.pt (encGraph f BL AL (encBools cnt))]), (7, .rp 3 0), (8, I bn), (9, .rp (nx + 1) 0), (14, .rp (nx + 3) 0)]) ⟨rfl, rfl, rfl, rfl, rfl, trivial⟩ fun M3 hM3 => w_assoc (w_seq_region_g ?_))
   have m3 : M3 (nx + 3) = some (.cells [I bn, .z] 74) := by rw [hM3]; exact up_same _ _ _
   have hMo : ∀ p, p < nx -> M3 p = m p := fun p hp => by rw [hM3]; exact mskip oG (mskip oG (hMo p hp))
   have hmM : M3 nx = some (.map (bm sS)) := by rw [hM3]; exact mskip oG (mskip oG hmM)
   have hm1 : M3 (nx + 1) = some (.cells [.mp nx] 127) := by rw [hM3]; exact mskip oG (mskip oG hm1)
   clear hM3 hg1 m0 m1 m2 mold
   refine J4 ?_;refine J40 ?_;refine J5 ?_;refine J5 ?_;refine J4 ?_;refine J13 ?_;refine J0 ?_
   refine ao_end (w_then (fun s => ∃ qb m' nx', Ghost prog s ⟨envL [(7, .rp 3 0), (14, .rp (nx + 3) 0)], m', nx'⟩ /\ LoB sS bn nx qb m m' nx' n) (w_range (α := Nat × Nat × Mem × Nat)
    (fun s => ⟨envL [(7, .rp 3 0), (9, .rp (nx + 1) 0), (14, .rp (nx + 3) 0), (71, I n), (72, I s.1)], s.2.2.1, s.2.2.2⟩)
    (fun s => s.1 <= n /\ LoB sS bn nx s.2.1 m s.2.2.1 s.2.2.2 s.1) (fun s => n - s.1) (0, 0, M3, nx + 4)
    (ghost_of ⟨rfl, rfl, rfl, congrArg (fun k : Nat => I k) hn, rfl, trivial⟩) ⟨Nat.zero_le _, Nat.le_refl _, hmM, hm1, m3, fun h => absurd rfl h, hMo⟩ ?_) ?_)
   ·clear hMo hmM hm1 m3
    rintro ⟨i, qb, M4, nx'⟩ ⟨hi, hB⟩
    dsimp only at hi hB ⊢
    have ⟨hn4, hmM, hm1, hro, hqb, hMo⟩ := hB
    refine J15 ?_
    refine ao_end ⟨_, rfl, fun h => ?_, fun h => ?_⟩
    ·have hlt : i < n := by simpa using h
     refine ws ?_;refine J0 ?_;refine J2 ?_;refine er ?_
     have hrow := hm1
     refine J38 ?_;refine J0 ?_
     refine ao_p (e_lookup rfl hmM rfl mk127 (got_bm zb127 _ _)) (by repeat' (first | exact trivial | exact rfl | refine And.intro ?_ ?_)) ⟨mt127, key_op uk3 _, keys_bm uk3 _⟩ ?_
     have hbl := bodyK_len sS i
     have hbs := bodyK_succ sS i
     refine ao_end (w_if rfl (fun h => w_regB2 ?_) fun h => w_end ?_)
     ·have hin : (i : Int) ∈ sS := by simpa using h
      rw [if_pos hin] at hbs
      have hrow := hro
      by_cases hz : bodyK sS i = []
      ·rw [if_pos hz] at hrow
       refine J115 ?_;refine J38 ?_;refine J0 ?_;refine J42 ?_;refine J107 ?_
       refine ao_p (e_faddrR rfl (mskip oG (mskip oG hrow)) V.h) ak (p_pos V.h) ?_
       refine J163 ?_
       refine ao_end ?_
       show AOps _ _ _ _ _ _ _ _ _
       refine J10 ?_;refine J0 ?_
       refine ao_end (next_of (i + 1, nx' + 1, up (up (up M4 nx' (some (.cells [I i] 3))) (nx' + 1) (some (.cells [I i] 3))) (nx + 3) (some (.cells [I bn, .rs (nx' + 1) 0 1] 74)), nx' + 2) (ghost_of eH) ⟨by dsimp only; omega, by dsimp only; omega, ?_, ?_, ?_, fun _ => ⟨by dsimp only; omega, by dsimp only; omega, ?_⟩, fun p hp => ?_⟩ (by dsimp only; omega))
       ·exact mskip oG (mskip oG (mskip oG hmM))
       ·exact mskip oG (mskip oG (mskip oG hm1))
       ·dsimp only
        rw [hbs, hz]; exact up_same _ _ _
       ·dsimp only
        rw [hbs, hz]; exact mskip oG (up_same _ _ _)
       ·exact mskip oG (mskip oG (mskip oG (hMo p hp)))
      ·have hzm : (bodyK sS i).map I ≠ [] := by simpa using hz
       rw [if_neg hz] at hrow
       obtain ⟨q1, q2, hrow3⟩ := hqb hz
       refine J115 ?_;refine J38 ?_;refine J0 ?_;refine J42 ?_
       refine ao_m (e_appR rfl (mskip oG hrow3) rfl V.h V.h (cells_rs (up_same _ _ _) rfl) rfl) ak ⟨V.h, rfl, (by first | omega | exact Nat.le_of_ble_eq_true rfl | (simp; done) | (simp; omega)), (by decide), (by first | rfl | (simp; done) | (simp; omega)), (by unfold maxLen; first | omega | (simp; omega)), (by rw [b3]; first | omega | (simp; omega)), (by first | (simp; done) | (simp; omega))⟩ ?_
       refine ao_p (e_faddrR rfl (mskip oG (mskip oG (mskip oG hrow))) V.h) ak (p_pos V.h) ?_
       refine J164 ?_
       refine ao_end ?_
       show AOps _ _ _ _ _ _ _ _ _
       refine J10 ?_;refine J0 ?_
       refine ao_end (next_of (i + 1, nx' + 1, up (up (up (up M4 nx' (some (.cells [I i] 3))) qb none) (nx' + 1) (some (.cells ((bodyK sS i).map I ++ [I i]) 3))) (nx + 3) (some (.cells [I bn, .rs (nx' + 1) 0 ((bodyK sS i).length + 1)] 74)), nx' + 2) (ghost_of eH) ⟨by dsimp only; omega, by dsimp only; omega, ?_, ?_, ?_, fun _ => ⟨by dsimp only; omega, by dsimp only; omega, ?_⟩, fun p hp => ?_⟩ (by dsimp only; omega))
       ·exact mskip oG (mskip oG (mskip oG (mskip oG hmM)))
       ·exact mskip oG (mskip oG (mskip oG (mskip oG hm1)))
       ·dsimp only
        rw [hbs, if_neg (by simp), List.length_append, List.length_singleton]; exact up_same _ _ _
       ·dsimp only
        rw [hbs, List.map_append]; exact mskip oG (up_same _ _ _)
       ·exact mskip oG (mskip oG (mskip oG (mskip oG (hMo p hp))))
     ·have hin : ¬ (i : Int) ∈ sS := by simpa using h
      rw [if_neg hin] at hbs
      refine J10 ?_;refine J0 ?_
      refine ao_end (next_of (i + 1, qb, M4, nx') (ghost_of eH) ⟨by dsimp only; omega, hn4, hmM, hm1, ?_, ?_, hMo⟩ (by dsimp only; omega))
      ·dsimp only; rw [hbs]; exact hro
      ·dsimp only; rw [hbs]; exact hqb
    ·have hge : ¬ i < n := by simpa using h
     have : i = n := by omega
     subst this
     exact ⟨qb, M4, nx', ghost_of eH, hB⟩
   rintro s ⟨qb, M4, nx', hg2, hB⟩
   obtain ⟨hn4, hmM, hm1, hro, hqb, hMo⟩ := hB
   have hbe : bodyK sS n ≠ [] := fun e => by
    have : (bn : Int) ∈ bodyK sS n := (mem_body (n := n) (s := sS) (x := bn)).2 ⟨hbn, hSm⟩
    rw [e] at this
    simp at this
   obtain ⟨q1, q2, hbd⟩ := hqb hbe
   rw [if_neg hbe] at hro
   have hbl := bodyK_len sS n
   refine ⟨_, hg2.trans (ghost_fzm (i := qb) (e := 3) (cs := (bodyK sS n).map I) (l := [(7, .rp 3 0), (14, .rp (nx + 3) 0)]) hbd ⟨fz_rp_ne oG, fz_rp_ne oG, trivial⟩), w_regE ?_⟩
   have hro : (fun j => if j = qb then none else (M4 j).map (Row.sub (fz0 qb ((bodyK sS n).map I) (prog.cellsOf 3)))) (nx + 3) = some (.cells (encLoop ((bn : Int), bodyR n sS)) 74) := by
    dsimp only
    rw [if_neg oG, hro]
    show some (Row.cells [I bn, sub _ (.rs qb 0 (bodyK sS n).length)] 74) = _
    rw [sub_rs_eq (by rw [c3]; simp)]
    rfl
   have hr3 : (fun j => if j = qb then none else (M4 j).map (Row.sub (fz0 qb ((bodyK sS n).map I) (prog.cellsOf 3)))) 3 = some (.cells [if L = [] then .z else .rs q 0 L.length] 59) := by
    dsimp only
    rw [if_neg oG, hMo 3 oG, hr3]
    refine congrArg some (InertR.cells (X := fun p => p = qb) (fun d hd => ?_) _ _ _ rfl)
    rw [List.mem_singleton] at hd
    subst hd
    split
    ·exact .z
    ·rename_i hne
     have := (hrq hne).2.1
     exact .rs oG
   have hrq : L ≠ [] -> 4 <= q /\ q < nx /\ (fun j => if j = qb then none else (M4 j).map (Row.sub (fz0 qb ((bodyK sS n).map I) (prog.cellsOf 3)))) q = some (.cells (L.flatMap encLoop) 74) := fun hne => by
    obtain ⟨a, b, c⟩ := hrq hne
    refine ⟨a, b, ?_⟩
    dsimp only
    rw [if_neg oG, hMo q b, c]
    refine congrArg some (InertR.cells (X := fun p => p = qb) (fun d hd => ?_) _ _ _ rfl)
    obtain ⟨p, _, hp⟩ := List.mem_flatMap.1 hd
    simp only [encLoop, List.mem_cons, List.not_mem_nil, or_false] at hp
    rcases hp with rfl | rfl
    ·exact .s _
    ·exact .sl _ _
   generalize (fun j => if j = qb then none else (M4 j).map (Row.sub (fz0 qb ((bodyK sS n).map I) (prog.cellsOf 3)))) = M5 at hro hr3 hrq ⊢
   clear hMo hmM hm1 hqb hbd hg2
   have hL : L.length < 100000 := by omega
   have hrow := hr3
   have hrow2 := hro
   by_cases hz : L = []
   ·rw [if_pos hz] at hrow
    subst hz
    refine J38 ?_
    refine ao_p (e_loadRA rfl hrow2 V.h V.h rfl) ak (p_loadRA V.h V.h (by first | (simp; done) | omega | exact Nat.le_of_ble_eq_true rfl)) ?_
    refine ao_a (e_buildSl V.h V.h V.h rfl rfl) ak ⟨rfl, by decide, V.h, by decide⟩ ?_
    refine ao_a (e_appZ rfl rfl V.h V.h (cells_rs (up_same _ _ _) rfl)) ak ⟨V.h, (by first | omega | exact Nat.le_of_ble_eq_true rfl | (simp; done) | (simp; omega)), (by decide), (by unfold maxLen; first | omega | (simp; omega)), (by rw [b74]; first | omega | (simp; omega))⟩ ?_
    refine J148 ?_
    refine ao_end ?_
    refine hyes _ _ ⟨by dsimp only; omega, nx' + 1, ?_, fun _ => ⟨by omega, by dsimp only; omega, ?_⟩⟩
    ·dsimp only; exact up_same _ _ _
    ·dsimp only; exact mskip oG (up_same _ _ _)
   ·rw [if_neg hz] at hrow
    obtain ⟨a1, a2, hrow3⟩ := hrq hz
    have hcl : (L.flatMap encLoop).length = L.length * 2 := flat_length (fun p => len_encLoop p) L
    obtain ⟨cs, hcs⟩ : ∃ cs, L.flatMap encLoop = cs := ⟨_, rfl⟩
    have hfin : ∀ m nx, LoS2 cs L.length ((bn : Int), bodyR n sS) m nx -> LoS ((xs.take (k + 1)).foldl (loopsB cnt par ahd n) []) m nx := fun m nx ⟨h1, q, h2, h3, h4, h5⟩ => hyes m nx ⟨h1, q, by rw [if_neg (by simp), List.length_append, List.length_singleton]; exact h2, fun _ => ⟨h3, h4, by rw [List.flatMap_append, hcs, List.flatMap_singleton]; exact h5⟩⟩
    rw [hcs] at hcl hrow3
    clear hcs hyes
    refine J38 ?_
    refine ao_p (e_loadRA rfl hrow2 V.h V.h rfl) ak (p_loadRA V.h V.h (by first | (simp; done) | omega | exact Nat.le_of_ble_eq_true rfl)) ?_
    refine ao_a (e_buildSl V.h V.h V.h rfl rfl) ak ⟨rfl, by decide, V.h, by decide⟩ ?_
    refine ao_m (e_appR rfl (mskip oG hrow3) rfl V.h V.h (cells_rs (up_same _ _ _) rfl) rfl) ak ⟨V.h, rfl, (by first | omega | exact Nat.le_of_ble_eq_true rfl | (simp; done) | (simp; omega)), (by decide), (by first | rfl | (simp; done) | (simp; omega)), (by unfold maxLen; first | omega | (simp; omega)), (by rw [b74]; first | omega | (simp; omega)), (by first | (simp; done) | (simp; omega))⟩ ?_
    refine J150 ?_
    refine ao_end ?_
    refine hfin _ _ ⟨by dsimp only; omega, nx' + 1, ?_, by omega, by dsimp only; omega, ?_⟩
    ·dsimp only; exact up_same _ _ _
    ·dsimp only; exact mskip oG (up_same _ _ _)
  ·rintro m nx hI
   rw [List.length_map, List.take_length] at hI
   exact ⟨m, nx, ghost_of eH, hI⟩
 obtain ⟨m, nx, hg1, hI⟩ := hs
 generalize xs.foldl (loopsB cnt par ahd n) [] = L at hI ⊢
 obtain ⟨_, q, h3, hq⟩ := hI
 unfold encLoops
 by_cases hz : L = []
 ·rw [if_pos hz] at h3 ⊢
  have hrow := h3
  refine ⟨_, hg1, w_seq_region ?_⟩
  refine J38 ?_;refine J20 ?_;refine J2 ?_
  exact ao_end (q_ret2 rfl rfl rfl)
 ·rw [if_neg hz] at h3 ⊢
  obtain ⟨q1, q2, hq⟩ := hq hz
  have hcl : (L.flatMap encLoop).length = L.length * 2 := flat_length (fun p => len_encLoop p) L
  refine ⟨_, hg1.trans (ghost_fzk (i := q) (e := 74) (cs := L.flatMap encLoop) (l := [(7, .rp 3 0)]) (ml := [(3, .cells [.sl (L.flatMap encLoop) L.length] 59)]) hq ⟨fz_rp_ne oG, trivial⟩ ⟨?_, trivial⟩), w_seq_region ?_⟩
  ·dsimp only
   rw [if_neg oG, h3]
   show some (Row.cells [sub _ (.rs q 0 L.length)] 59) = _
   rw [sub_rs_eq (by rw [c74]; exact hcl)]
  refine J27 ?_;refine J44 ?_;refine J2 ?_
  exact ao_end (q_ret2 rfl rfl rfl)
theorem k41 {f : Flow} : PCall prog 41 [.agg (encFlow f)] (loopsD f) := by
 by_cases h : checkR f = 0
 ·exact k41_ok h
 ·exact k41_err h
end Go.Proofs.Tryz.K
end
section
open Go Go.Abs Go.Proofs Go.Argus
namespace Go.Abs
theorem q_retc2 {P : Program} {st : St} {K : D -> St -> Prop} {a b i j : Nat} {ta tb e e' : TypeId} {v w : D} {cs cs' : List D}
  (ha : st.env a = .rp i 0) (hm : st.mem i = some (.cells (v :: cs) e)) (ga : aggP P ta = false) (ca : P.cellsOf ta = 1) (ya : tyOk P ta = true)
  (hb : st.env b = .rp j 0) (hn : st.mem j = some (.cells (w :: cs') e')) (gb : aggP P tb = false) (cb : P.cellsOf tb = 1) (yb : tyOk P tb = true)
  (h : K (.tup [v, w]) st) : retQ P [.cell a ta, .cell b tb] K .ret st := by
 obtain ⟨p, e1, hp⟩ := resD_cell1 (P := P) (ty := ta) ha hm ga ca rfl ya
 obtain ⟨p', e2, hp'⟩ := resD_cell1 (P := P) (ty := tb) hb hn gb cb rfl yb
 show retL P st [.cell a ta, .cell b tb] [] _
 simp only [retL, e1, e2]
 exact ⟨hp, hp', h⟩
theorem q_round {env : Env} {I' : Mem -> Nat -> Prop} {Q : Exit -> St -> Prop} {st : St} (h : Q .ret ⟨env, st.mem, st.nx⟩) : roundQ env I' Q .ret st := h
theorem w_absr {P : Program} {Y : YSpec} {rf : Bool} {b : Code} {Q : Exit -> St -> Prop} {st s1 : St} (hg : Ghost P st s1) (h : ∃ st', Ghost P s1 st' /\ AW P Y rf b Q st') : ∃ st', Ghost P st st' /\ AW P Y rf b Q st' := by
 obtain ⟨s2, h1, h2⟩ := h
 exact ⟨s2, hg.trans h1, h2⟩
end Go.Abs
namespace Go.Argus
def orderD (f : Flow) : D := if checkR f = 0 then .tup [encInts (orderR (behG f) f.blocks.length), I 0] else .tup [.z, I (checkR f)]
theorem tr_orderD (f : Flow) : Tr (orderD f) := by
 unfold orderD
 split
 ·exact .tup (.cons (tr_ints _) (.cons (.s _) .nil))
 ·exact .tup (.cons .z (.cons (.s _) .nil))
def plM (ord : List Int) (n : Nat) : Nat -> List Int
 | 0 => List.replicate n (-1)
 | i + 1 => (plM ord n i).set (ord.getD i 0).toNat i
theorem plM_len {ord : List Int} {n : Nat} : ∀ i, (plM ord n i).length = n
 | 0 => by simp [plM]
 | i + 1 => by simp [plM, plM_len i]
theorem plM_get {ord : List Int} {n : Nat} (nd : ord.Nodup) (hin : ∀ b ∈ ord, 0 <= b /\ b.toNat < n) : ∀ i, i <= ord.length -> ∀ j b, j < i -> ord[j]? = some b -> (plM ord n i).getD b.toNat (-1) = j
 | 0, _, j, _, h, _ => absurd h (Nat.not_lt_zero j)
 | i + 1, hi, j, b, hj, hb => by
  have hl : i < ord.length := hi
  have ha := List.getElem?_eq_getElem hl
  have hd : ord.getD i 0 = ord[i] := by rw [List.getD_eq_getElem?_getD, ha]; rfl
  rw [plM, hd, List.getD_eq_getElem?_getD, List.getElem?_set]
  have hia := hin _ (List.getElem_mem hl)
  by_cases e : j = i
  ·subst e
   rw [ha] at hb
   cases hb
   rw [if_pos rfl, if_pos (by rw [plM_len]; exact hia.2)]
   rfl
  ·have hne : ¬ ord[i].toNat = b.toNat := fun e' => by
    obtain ⟨hj', e2⟩ := List.getElem?_eq_some_iff.1 hb
    have hib := hin b (e2 ▸ List.getElem_mem hj')
    have : ord[i] = ord[j] := by rw [e2]; omega
    have := (List.getElem_inj nd).1 this
    omega
   rw [if_neg hne, <- List.getD_eq_getElem?_getD]
   exact plM_get nd hin i oG j b oG hb
def redA (cnt : List Bool) (PM par : List Int) (n : Nat) (b a : Int) : Bool :=
 if (if cnt.getD a.toNat false = true then decide (PM.getD b.toNat (-1) <= PM.getD a.toNat (-1)) else false) = true then overI par (n + 1) b a else true
def redB (cnt : List Bool) (PM par : List Int) (ahd : Nat -> List Int) (n : Nat) (b : Int) : Bool := (ahd b.toNat).all (redA cnt PM par n b)
def redR (cnt : List Bool) (PM par : List Int) (ahd : Nat -> List Int) (n : Nat) : Bool := (allI cnt n).all (redB cnt PM par ahd n)
def redG (f : Flow) : Bool := redR (reachR (behG f) f.blocks.length (-1)) (plM (orderR (behG f) f.blocks.length) f.blocks.length (orderR (behG f) f.blocks.length).length) (parentsR (behG f) (ahdG f) f.blocks.length) (ahdG f) f.blocks.length
def redD (f : Flow) : D := if checkR f = 0 then .tup [B (redG f), I 0] else .tup [B false, I (checkR f)]
theorem tr_redD (f : Flow) : Tr (redD f) := by
 unfold redD
 split <;> exact .tup (.cons (.s _) (.cons (.s _) .nil))
end Go.Argus
namespace Go.Proofs.Tryz.K
set_option maxRecDepth 10000
theorem k33_err {f : Flow} (hck : checkR f ≠ 0) : PCall prog 33 [.agg (encFlow f)] (orderD f) := by
 have k51 := k51_err hck
 refine pcall_of mixed ok33 (by rw [nt33]; rfl) (.cons (.agg (trs_flow f)) .nil) (tr_orderD f) ?_
 rw [orderD, if_neg hck]
 generalize checkR f = e at k51 hck
 have kneq : (e != 0) = true := by simpa using hck
 rw [rs33, sk33]
 refine w_seq_region_g ?_
 refine J37 ?_;refine J20 ?_;refine J2 ?_
 refine ao_end (w_ghost (ghost_fr [(0, encFlow f, 26)] eH (l := [(1, .pt (encFlow f))]) eH) (w_seq_region ?_))
 refine J28 ?_;refine cl k51 ?_;refine J26 ?_;refine J88 ?_;refine J31 ?_;refine J81 ?_;refine J2 ?_
 refine ao_end (w_assoc (w_seq_region ?_))
 refine J0 ?_;refine J56 ?_
 refine ao_end (w_seq_if rfl (fun _ => ?_) fun h => (by cases h))
 refine w_assoc (w_seq_region ?_)
 refine J0 ?_;refine J20 ?_;refine J2 ?_
 exact ao_end (w_seq_ret (q_ret2 rfl rfl rfl))
theorem k33_ok {f : Flow} (hck : checkR f = 0) : PCall prog 33 [.agg (encFlow f)] (orderD f) := by
 have k51 := k51_ok hck
 have hf : formedB f = true := by
  unfold checkR at hck
  split at hck
  ·assumption
  ·cases hck
 have hok := flowOk hf
 have hlim := hok.lim
 refine pcall_of mixed ok33 (by rw [nt33]; rfl) (.cons (.agg (trs_flow f)) .nil) (tr_orderD f) ?_
 rw [orderD, if_pos hck]
 have hgr : graphR f = encGraph f (behR f) (aheadR f.blocks) (encBools (reachR (behG f) f.blocks.length (-1))) := rfl
 have k85 := k85 (f := f) (beh := behR f) (ahd := aheadR f.blocks) (c := encBools (reachR (behG f) f.blocks.length (-1))) (.sl (.map fun _ => .s _)) rfl (n := f.blocks.length) (by simp [behR]) rfl hok.pos oG (beh_in hok) (beh_len hok)
 rw [<- hgr] at k85
 have hO : orderR (behG f) f.blocks.length = orderR (behF (behR f)) f.blocks.length := rfl
 rw [hO]
 generalize orderR (behF (behR f)) f.blocks.length = O at k85 ⊢
 rw [rs33, sk33]
 refine w_seq_region_g ?_
 refine J37 ?_;refine J20 ?_;refine J2 ?_
 refine ao_end (w_ghost (ghost_fr [(0, encFlow f, 26)] eH (l := [(1, .pt (encFlow f))]) eH) (w_seq_region ?_))
 refine J28 ?_;refine cl k51 ?_;refine J26 ?_;refine J89 ?_;refine J31 ?_;refine J96 ?_;refine J2 ?_
 refine ao_end (w_assoc (w_seq_region ?_))
 refine J0 ?_;refine J35 ?_
 refine ao_end (w_seq_if rfl (fun h => (by cases h)) fun _ => w_seq_skip (w_seq_region_g ?_))
 refine J29 ?_
 refine ao_oc k85 rfl (by repeat' (first | exact trivial | exact rfl | refine And.intro ?_ ?_)) ?_
 refine J21 ?_;refine J2 ?_
 refine ao_end ⟨_, ghost_fzk (i := 1) (e := 3) (cs := O.map I) (l := [(2, encInts O), (3, I 0)]) (ml := []) rfl ⟨?_, rfl, trivial⟩ trivial, q_ret2 rfl rfl rfl⟩
 exact sub_rs_eq (by rw [c3]; simp)
theorem k33 {f : Flow} : PCall prog 33 [.agg (encFlow f)] (orderD f) := by
 by_cases h : checkR f = 0
 ·exact k33_ok h
 ·exact k33_err h
theorem k43_err {f : Flow} (hck : checkR f ≠ 0) : PCall prog 43 [.agg (encFlow f)] (redD f) := by
 have k51 := k51_err hck
 refine pcall_of mixed ok43 (by rw [nt43]; rfl) (.cons (.agg (trs_flow f)) .nil) (tr_redD f) ?_
 rw [redD, if_neg hck]
 generalize checkR f = e at k51 hck
 have kneq : (e != 0) = true := by simpa using hck
 rw [rs43, sk43]
 refine w_seq_region_g ?_
 refine J37 ?_;refine J19 ?_;refine J19 ?_
 refine ao_end (w_ghost (ghost_fzk (i := 0) (e := 26) (cs := encFlow f) (l := [(1, .pt (encFlow f)), (2, .rp 1 0), (3, .rp 2 0)]) (ml := [(1, .cells [B false] 4), (2, .cells [I 0] 34)]) rfl eH eH) (w_seq_region ?_))
 refine J28 ?_;refine cl k51 ?_;refine J26 ?_;refine J88 ?_;refine J31 ?_;refine J19 ?_
 refine ao_w (e_store1 (d := .s (.pointer none)) (cs' := [_]) rfl rfl rfl rfl rfl) ak (p_store V.h V.h (by first | (simp; done) | exact ⟨rfl, Nat.le_of_ble_eq_true rfl⟩ | (simp; omega)) rfl) ?_
 refine J2 ?_
 refine ao_end (w_assoc (w_seq_region ?_))
 refine J0 ?_;refine J56 ?_
 refine ao_end (w_seq_if rfl (fun _ => ?_) fun h => (by cases h))
 refine w_assoc (w_seq_region ?_)
 refine J0 ?_
 refine ao_w (e_store1 (d := .s (.bool _)) (cs' := [_]) rfl rfl rfl rfl rfl) ak (p_store V.h V.h (by first | (simp; done) | exact ⟨rfl, Nat.le_of_ble_eq_true rfl⟩ | (simp; omega)) rfl) ?_
 refine J141 ?_
 exact ao_end (w_seq_ret (q_retc2 rfl rfl a4 c4 t4 rfl rfl a34 c34 t34 rfl))
set_option maxHeartbeats 1000000 in
theorem k43_ok {f : Flow} (hck : checkR f = 0) : PCall prog 43 [.agg (encFlow f)] (redD f) := by
 have k51 := k51_ok hck
 have hf : formedB f = true := by
  unfold checkR at hck
  split at hck
  ·assumption
  ·cases hck
 have hok := flowOk hf
 have hg := parG hok
 refine pcall_of mixed ok43 (by rw [nt43]; rfl) (.cons (.agg (trs_flow f)) .nil) (tr_redD f) ?_
 rw [redD, if_pos hck]
 obtain ⟨n, hn⟩ : ∃ n, f.blocks.length = n := ⟨_, rfl⟩
 have hlim := hok.lim
 have hgr : graphR f = encGraph f (behR f) (aheadR f.blocks) (encBools (reachR (behG f) f.blocks.length (-1))) := rfl
 have k60 := k60f hok (c := encBools (reachR (behG f) f.blocks.length (-1))) (.sl (.map fun _ => .s _)) rfl
 have k85 := k85 (f := f) (beh := behR f) (ahd := aheadR f.blocks) (c := encBools (reachR (behG f) f.blocks.length (-1))) (.sl (.map fun _ => .s _)) rfl (n := f.blocks.length) (by simp [behR]) rfl hok.pos oG (beh_in hok) (beh_len hok)
 have hO : orderR (behG f) f.blocks.length = orderR (behF (behR f)) f.blocks.length := rfl
 rw [<- hO] at k85
 have s61 := s61 (f := f) (beh := behR f) (ahd := aheadR f.blocks) (cnt := reachR (behG f) f.blocks.length (-1)) (by rw [reach_len hg.to hg.pos]; omega)
 have hrl := reach_len (w := -1) hg.to hg.pos
 have hax : ∀ b, b < f.blocks.length -> (aheadR f.blocks)[b]? = some (ahdG f b) := fun b hb => behF_get (by simp [aheadR]; omega)
 have hal := ahdG_len hok
 have har : ∀ b, ∀ a ∈ ahdG f b, 0 <= a /\ a.toNat < f.blocks.length := fun b a ha => by have := (hg.fro b a).1 ha; exact ⟨this.1, this.2.1⟩
 have h87 : ∀ (h a : Nat), (reachR (behG f) f.blocks.length (-1)).getD a false = true -> PCall prog 87 [encInts (parentsR (behG f) (ahdG f) f.blocks.length), I h, I a] (B (overI (parentsR (behG f) (ahdG f) f.blocks.length) (f.blocks.length + 1) h a)) := fun h a ha =>
  k87 (upTo (behG f) f.blocks.length) (.inr ⟨a, rfl, ha, by have := plN_lt hg ha; have := ord_le hg; omega⟩) (upTo_step hg)
 have hor := ord_rng hg
 have hol := ord_le hg
 have hrG : redG f = redR (reachR (behG f) f.blocks.length (-1)) (plM (orderR (behG f) f.blocks.length) f.blocks.length (orderR (behG f) f.blocks.length).length) (parentsR (behG f) (ahdG f) f.blocks.length) (ahdG f) f.blocks.length := rfl
 rw [hgr] at k51
 rw [hrl] at s61
 rw [hrG]
 clear hrG hO
 rw [rs43, sk43]
 generalize aheadR f.blocks = AL at k51 k60 s61 hax k85
 generalize behR f = BL at k51 k60 s61 k85
 generalize parentsR (behG f) (ahdG f) f.blocks.length = par at k60 h87 ⊢
 generalize reachR (behG f) f.blocks.length (-1) = cnt at k51 k60 s61 hrl h87 k85 ⊢
 generalize ahdG f = ahd at hax hal har ⊢
 generalize orderR (behG f) f.blocks.length = O at k85 hor hol ⊢
 have k94 : OCall prog 94 [I f.blocks.length, I (-1)] ((List.replicate n (-1)).map I) n 3 := by rw [hn]; exact k94 oG
 rw [hn] at hrl hax har s61 hlim h87 hor hol ⊢
 refine w_seq_region_g ?_
 refine J37 ?_;refine J19 ?_;refine J19 ?_
 refine ao_end (w_ghost (ghost_fzk (i := 0) (e := 26) (cs := encFlow f) (l := [(1, .pt (encFlow f)), (2, .rp 1 0), (3, .rp 2 0)]) (ml := [(1, .cells [B false] 4), (2, .cells [I 0] 34)]) rfl eH eH) (w_seq_region_g ?_))
 refine J28 ?_;refine cl k51 ?_;refine J26 ?_;refine J89 ?_;refine J31 ?_;refine J19 ?_
 refine ao_w (e_store1 (d := .pt _) (cs' := [_]) rfl rfl rfl rfl rfl) ak (p_store V.h V.h (by first | (simp; done) | exact ⟨rfl, Nat.le_of_ble_eq_true rfl⟩ | (simp; omega)) rfl) ?_
 refine J2 ?_
 refine ao_end (w_ghost (ghost_fzk (i := 3) (e := 79) (cs := [.pt (encGraph f BL AL (encBools cnt))]) (l := [(2, .rp 1 0), (3, .rp 2 0), (4, .pt [.pt (encGraph f BL AL (encBools cnt))]), (5, I 0)]) (ml := [(1, .cells [B false] 4), (2, .cells [I 0] 34)]) rfl eH eH) (w_assoc (w_seq_region ?_)))
 refine J0 ?_;refine J35 ?_
 refine ao_end (w_seq_if rfl (fun h => (by cases h)) fun _ => w_seq_skip (w_seq_region_g ?_))
 refine J4 ?_;refine cl k60 ?_;refine J19 ?_
 refine ao_w (e_store1 (d := .sl _ _) (cs' := [_]) rfl rfl rfl rfl rfl) ak (p_store V.h V.h (by first | (simp; done) | exact ⟨rfl, Nat.le_of_ble_eq_true rfl⟩ | (simp; omega)) rfl) ?_
 refine ao_end (w_ghost (ghost_fzk (i := 4) (e := 27) (cs := [encInts par]) (l := [(2, .rp 1 0), (3, .rp 2 0), (4, .pt [.pt (encGraph f BL AL (encBools cnt))]), (6, .pt [encInts par])]) (ml := [(1, .cells [B false] 4), (2, .cells [I 0] 34)]) rfl eH eH) (w_seq_region_g ?_))
 refine J4 ?_;refine J40 ?_;refine J5 ?_;refine J5 ?_;refine J4 ?_;refine J13 ?_
 refine ao_oc k94 rfl (by repeat' (first | exact trivial | exact rfl | refine And.intro ?_ ?_)) ?_
 refine J19 ?_;refine J166 ?_
 refine ao_end (w_ghost (ghost_st (l := [(2, .rp 1 0), (3, .rp 2 0), (4, .pt [.pt (encGraph f BL AL (encBools cnt))]), (6, .pt [encInts par]), (7, .rp 6 0)]) (ml := [(1, .cells [B false] 4), (2, .cells [I 0] 34), (5, .cells ((plM O n 0).map I) 3), (6, .cells [.rs 5 0 n] 27)]) eH ⟨rfl, rfl, rfl, ?_, trivial⟩) (w_assoc (w_seq_region_g ?_)))
 ·exact congrArg (fun k => some (Row.cells [D.rs 5 0 k] 27)) (by simp)
 refine J4 ?_
 refine ao_oc k85 rfl (by repeat' (first | exact trivial | exact rfl | refine And.intro ?_ ?_)) ?_
 refine J112 ?_;refine J0 ?_
 have hpd : plM O n O.length = plM O n O.length := rfl
 refine ao_end (w_then (fun s => Ghost prog s ⟨envL [(2, .rp 1 0), (3, .rp 2 0), (4, .pt [.pt (encGraph f BL AL (encBools cnt))]), (6, .pt [encInts par]), (7, .rp 6 0)], memL [(1, .cells [B false] 4), (2, .cells [I 0] 34), (5, .cells ((plM O n O.length).map I) 3), (6, .cells [.rs 5 0 n] 27)], 8⟩)
  (w_absr (ghost_fzk (i := 7) (e := 3) (cs := O.map I) (l := [(2, .rp 1 0), (3, .rp 2 0), (4, .pt [.pt (encGraph f BL AL (encBools cnt))]), (6, .pt [encInts par]), (7, .rp 6 0), (31, encInts O), (32, I O.length), (33, I ((0 : Nat) : Int))]) (ml := [(1, .cells [B false] 4), (2, .cells [I 0] 34), (5, .cells ((plM O n 0).map I) 3), (6, .cells [.rs 5 0 n] 27)]) rfl ⟨rfl, rfl, rfl, rfl, rfl, ?_, rfl, rfl, trivial⟩ ⟨rfl, rfl, keepM oG rfl .map, ?_, trivial⟩) (w_range (α := Nat)
  (fun k => ⟨envL [(2, .rp 1 0), (3, .rp 2 0), (4, .pt [.pt (encGraph f BL AL (encBools cnt))]), (6, .pt [encInts par]), (7, .rp 6 0), (31, encInts O), (32, I O.length), (33, I k)], memL [(1, .cells [B false] 4), (2, .cells [I 0] 34), (5, .cells ((plM O n k).map I) 3), (6, .cells [.rs 5 0 n] 27)], 8⟩)
  (fun k => k <= O.length) (fun k => O.length - k) 0 (.refl _) (Nat.zero_le _) ?_)) ?_)
 ·exact sub_rs_eq (by rw [c3]; simp)
 ·dsimp only
  rw [if_neg oG]
  rfl
 ·intro k hk
  have hpk := plM_len (ord := O) (n := n) k
  refine J15 ?_
  refine ao_end ⟨_, rfl, fun h => ?_, fun h => ?_⟩
  ·have hlt : k < O.length := by simpa using h
   have hx : O[k]? = some O[k] := List.getElem?_eq_getElem hlt
   have hxr := hor _ (List.getElem_mem hlt)
   have hst : plM O n (k + 1) = (plM O n k).set (O.getD k 0).toNat k := rfl
   rw [getD_some hx] at hst
   generalize O[k] = b at hx hxr hst
   obtain ⟨bn, rfl⟩ := Int.eq_ofNat_of_zero_le hxr.1
   have hbn : bn < n := hxr.2
   rw [Int.toNat_natCast] at hst
   refine ws ?_;refine J0 ?_;refine J18 ?_;refine J4 ?_;refine J2 ?_;refine J2 ?_
   refine ao_end (w_regB2 ?_)
   refine J27 ?_;refine J0 ?_;refine J0 ?_;refine J39 ?_;refine J25 ?_
   refine ao_end ?_
   refine J10 ?_;refine J0 ?_
   refine ao_end (next_of (k + 1) (ghost_st eH ⟨rfl, rfl, ?_, rfl, trivial⟩) oG oG)
   rw [hst, List.map_set]; rfl
  ·have hge : ¬ k < O.length := by simpa using h
   have : k = O.length := by omega
   subst this
   exact ghost_st eH eH
 have hPl := plM_len (ord := O) (n := n) O.length
 generalize plM O n O.length = PM at hPl ⊢
 have hrR : redR cnt PM par ahd n = (allI cnt n).all (redB cnt PM par ahd n) := rfl
 rw [hrR]
 clear hrR
 have hxm : ∀ (k : Nat) x, (allI cnt n)[k]? = some x -> ∃ b : Nat, x = b /\ b < n := fun k x hx => by
  have := List.mem_of_getElem? hx
  unfold allI at this
  obtain ⟨b, hb, rfl⟩ := List.mem_map.1 this
  rw [List.mem_filter, List.mem_range] at hb
  exact ⟨b, rfl, hb.1⟩
 generalize allI cnt n = xs at s61 hxm ⊢
 rintro s hg1
 have hg2 := hg1.trans ((ghost_fzk (i := 5) (e := 3) (cs := PM.map I) (l := [(2, .rp 1 0), (3, .rp 2 0), (4, .pt [.pt (encGraph f BL AL (encBools cnt))]), (6, .pt [encInts par]), (7, .rp 6 0)]) (ml := [(1, .cells [B false] 4), (2, .cells [I 0] 34), (6, .cells [encInts PM] 27)]) rfl eH ⟨rfl, rfl, (by
  dsimp only
  rw [if_neg oG]
  show some (Row.cells [sub _ (.rs 5 0 n)] 27) = _
  rw [sub_rs_eq (by rw [c3]; simp [hPl]), <- hPl]), trivial⟩).trans (ghost_fzk (i := 6) (e := 27) (cs := [encInts PM]) (l := [(2, .rp 1 0), (3, .rp 2 0), (4, .pt [.pt (encGraph f BL AL (encBools cnt))]), (6, .pt [encInts par]), (7, .pt [encInts PM])]) (ml := [(1, .cells [B false] 4), (2, .cells [I 0] 34)]) rfl eH eH))
 refine ⟨_, hg2, w_cut_g (fun s => ∃ m nx, Ghost prog s ⟨envL [(2, .rp 1 0), (3, .rp 2 0)], m, nx⟩ /\ m 1 = some (.cells [B false] 4) /\ m 2 = some (.cells [I 0] 34) /\ xs.all (redB cnt PM par ahd n) = true) (w_seq_region ?_) fun s hs => ?_⟩
 ·clear hg1 hg2 k60 k85 k94 k51
  refine J4 ?_;refine J58 ?_
  refine ao_end (w_block ?_)
  refine ⟨rfl, trivial, 61, _, [], xs.map (fun n => [I n]), fun k m nx => m 1 = some (.cells [B false] 4) /\ m 2 = some (.cells [I 0] 34) /\ 3 <= nx /\ (True -> (xs.take k).all (redB cnt PM par ahd n) = true), rfl, s61, ?_, ⟨rfl, rfl, by dsimp only; omega, fun _ => rfl⟩, ?_, ?_⟩
  ·intro y hy
   obtain ⟨n, _, rfl⟩ := List.mem_map.1 hy
   exact ⟨rfl, .cons (.s _) .nil⟩
  ·rintro k m nx y hy ⟨m1, m2, hnx, hI⟩
   simp only [List.getElem?_map, Option.map_eq_some_iff] at hy
   obtain ⟨b, hb, rfl⟩ := hy
   obtain ⟨bn, rfl, hbn⟩ := hxm k b hb
   have hbad : (∃ a ∈ ahd bn, redA cnt PM par n bn a = false) -> xs.all (redB cnt PM par ahd n) = false := fun ⟨a, ha, he⟩ => by
    refine List.all_eq_false.2 ⟨_, List.mem_of_getElem? hb, ?_⟩
    show ¬ redB cnt PM par ahd n (bn : Int) = true
    unfold redB
    rw [Int.toNat_natCast, Bool.not_eq_true]
    exact List.all_eq_false.2 ⟨a, ha, by rw [he]; exact Bool.noConfusion⟩
   have hgood : (ahd bn).all (redA cnt PM par n bn) = true -> (xs.take (k + 1)).all (redB cnt PM par ahd n) = true := fun hg => by
    rw [List.take_add_one, hb, List.all_append, hI trivial]
    show (true && (redB cnt PM par ahd n (bn : Int) && true)) = true
    unfold redB
    rw [Int.toNat_natCast, hg]; rfl
   have hbx := hax bn hbn
   have hbl := hal bn
   have hbr := har bn
   have h87 := h87 bn
   have hpb : PM[bn]? = some (PM.getD bn (-1)) := by
    have := List.getElem?_eq_getElem (show bn < PM.length by omega)
    rw [List.getD_eq_getElem?_getD, this]; rfl
   have hrA : ∀ a : Nat, redA cnt PM par n (bn : Int) a = if (if cnt.getD a false = true then decide (PM.getD bn (-1) <= PM.getD a (-1)) else false) = true then overI par (n + 1) bn a else true := fun a => rfl
   clear hI
   generalize ahd bn = l at hbx hbl hbr hbad hgood
   generalize redA cnt PM par n (bn : Int) = ra at hbad hgood hrA
   generalize PM.getD bn (-1) = pb at hpb hrA
   refine w_regE ?_
   refine J2 ?_
   refine ao_end (show AW _ _ _ _ _ _ from w_block (w_seq_region_g ?_))
   refine J4 ?_;refine J40 ?_;refine J5 ?_;refine J4 ?_;refine J0 ?_;refine J18 ?_;refine J4 ?_;refine J13 ?_;refine J0 ?_
   refine ao_end (w_range (α := Nat) (fun j => ⟨envL [(2, .rp 1 0), (3, .rp 2 0), (4, .pt [.pt (encGraph f BL AL (encBools cnt))]), (6, .pt [encInts par]), (7, .pt [encInts PM]), (10, I bn), (52, encInts l), (53, I l.length), (54, I j)], m, nx⟩)
    (fun j => j <= l.length /\ (True -> (l.take j).all ra = true)) (fun j => l.length - j) 0 (ghost_of eH) ⟨Nat.zero_le _, fun _ => rfl⟩ ?_)
   rintro j ⟨hj, hall⟩
   refine J15 ?_
   refine ao_end ⟨_, rfl, fun h => ?_, fun h => ?_⟩
   ·have hlt : j < l.length := by simpa using h
    have hx : l[j]? = some l[j] := List.getElem?_eq_getElem hlt
    have hxm := List.getElem_mem hlt
    generalize l[j] = a at hx hxm
    have htt := hbr a hxm
    obtain ⟨an, rfl⟩ := Int.eq_ofNat_of_zero_le htt.1
    have han : an < n := htt.2
    have hbad := fun e => hbad ⟨(an : Int), hxm, e⟩
    have hrA := hrA an
    have hca : cnt[an]? = some (cnt.getD an false) := by
     have := List.getElem?_eq_getElem (show an < cnt.length by omega)
     rw [List.getD_eq_getElem?_getD, this]; rfl
    have hpa : PM[an]? = some (PM.getD an (-1)) := by
     have := List.getElem?_eq_getElem (show an < PM.length by omega)
     rw [List.getD_eq_getElem?_getD, this]; rfl
    have hstep : ra an = true -> (l.take (j + 1)).all ra = true := fun e => by
     rw [List.take_add_one, hx, List.all_append, hall trivial]
     show (true && (ra (an : Int) && true)) = true
     rw [e]; rfl
    have h87 := h87 an
    generalize overI par (n + 1) bn an = ov at h87 hrA
    generalize cnt.getD an false = ca at hca h87 hrA
    generalize PM.getD an (-1) = pa at hpa hrA
    have k87 : ((if ca = true then decide (pb <= pa) else false) == true) = true -> PCall prog 87 [encInts par, I bn, I an] (B ov) := fun hc => h87 (by revert hc; cases ca <;> simp)
    refine ws ?_;refine J18 ?_;refine J4 ?_;refine J2 ?_
    refine ao_end (w_seq_draw di_r43_16 ?_)
    refine J4 ?_;refine J40 ?_;refine J5 ?_;refine J4 ?_;refine J0 ?_;refine J18 ?_;refine J4 ?_;refine J3 ?_;refine J6 ?_;refine J11 ?_;refine J51 ?_;refine J6 ?_;refine J6 ?_;refine J11 ?_;refine J51 ?_;refine J6 ?_;refine J97 ?_;refine J9 ?_;refine J3 ?_;refine J6 ?_;refine J11 ?_;refine J11 ?_
    refine ao_gpc rfl rfl rfl (fun hc => ⟨ak, k87 hc⟩) ?_
    refine J34 ?_;refine J9 ?_
    refine ao_endc (by simp [apartT]) (w_if rfl (fun h => w_seq_region ?_) fun h => w_end ?_)
    ·have hrow := m1
     have hrow2 := m2
     have hfalse : ra an = false := by
      rw [hrA]
      revert h
      cases ca <;> cases ov <;> simp
     have hF := hbad hfalse
     refine ao_w (e_store1 (d := .s (.bool _)) (cs' := [_]) rfl rfl hrow rfl rfl) ak (p_store V.h V.h (by first | (simp; done) | exact ⟨rfl, Nat.le_of_ble_eq_true rfl⟩ | (simp; omega)) rfl) ?_
     refine ao_w (e_store1 (d := .s (.int _ _)) (cs' := [_]) rfl rfl hrow2 rfl rfl) ak (p_store V.h V.h (by first | (simp; done) | exact ⟨rfl, Nat.le_of_ble_eq_true rfl⟩ | (simp; omega)) rfl) ?_
     refine ao_end (w_ret (j_body (j_block (q_round (j_block (j_seq ?_))))))
     refine q_retc2 (i := 1) (j := 2) rfl (v := B false) (cs := []) (e := 4) ?_ a4 c4 t4 rfl (w := I 0) (cs' := []) (e' := 34) ?_ a34 c34 t34 (by rw [hF])
     ·dsimp only
      rw [up_ne _ _ (by decide), up_same]
     ·dsimp only
      rw [up_same]
    ·have htrue : ra an = true := by
      rw [hrA]
      revert h
      cases ca <;> cases ov <;> simp
     refine J10 ?_;refine J0 ?_
     refine ao_end (next_of (j + 1) (ghost_of eH) ⟨by omega, fun _ => hstep htrue⟩ oG)
   ·have hge : ¬ j < l.length := by simpa using h
    have e := hall trivial
    rw [List.take_of_length_le oG] at e
    exact ⟨m1, m2, hnx, fun _ => hgood e⟩
  ·rintro m nx ⟨m1, m2, _, hI⟩
   rw [List.length_map, List.take_length] at hI
   exact ⟨m, nx, ghost_of eH, m1, m2, hI trivial⟩
 ·obtain ⟨m, nx, hg3, m1, m2, hall⟩ := hs
  rw [hall]
  refine ⟨_, hg3, w_seq_region ?_⟩
  have hrow := m1
  have hrow2 := m2
  refine ao_w (e_store1 (d := .s (.bool _)) (cs' := [_]) rfl rfl hrow rfl rfl) ak (p_store V.h V.h (by first | (simp; done) | exact ⟨rfl, Nat.le_of_ble_eq_true rfl⟩ | (simp; omega)) rfl) ?_
  refine ao_w (e_store1 (d := .s (.int _ _)) (cs' := [_]) rfl rfl hrow2 rfl rfl) ak (p_store V.h V.h (by first | (simp; done) | exact ⟨rfl, Nat.le_of_ble_eq_true rfl⟩ | (simp; omega)) rfl) ?_
  refine ao_end (q_retc2 (i := 1) (j := 2) rfl (v := B true) (cs := []) (e := 4) ?_ a4 c4 t4 rfl (w := I 0) (cs' := []) (e' := 34) ?_ a34 c34 t34 rfl)
  ·dsimp only
   rw [up_ne _ _ (by decide), up_same]
  ·dsimp only
   rw [up_same]
theorem k43 {f : Flow} : PCall prog 43 [.agg (encFlow f)] (redD f) := by
 by_cases h : checkR f = 0
 ·exact k43_ok h
 ·exact k43_err h
end Go.Proofs.Tryz.K
end
section
namespace Go.Argus
open Go Go.Abs
theorem allI_mem {cnt : List Bool} {n : Nat} {x : Int} : x ∈ allI cnt n ↔ ∃ b : Nat, x = b /\ b < n /\ cnt.getD b false = true := by
 unfold allI
 rw [List.mem_map]
 constructor
 ·rintro ⟨b, hb, rfl⟩
  rw [List.mem_filter, List.mem_range] at hb
  exact ⟨b, rfl, hb.1, hb.2⟩
 ·rintro ⟨b, rfl, h1, h2⟩
  exact ⟨b, by rw [List.mem_filter, List.mem_range]; exact ⟨h1, h2⟩, rfl⟩
theorem allI_asc (cnt : List Bool) (n : Nat) : (allI cnt n).Pairwise (· < ·) := by
 unfold allI
 rw [List.pairwise_map]
 exact ((List.pairwise_lt_range).filter _).imp fun h => by omega
structure LoopsOk (beh : Nat -> List Int) (n : Nat) (L : List (Int × List Int)) : Prop where
 ok : ∀ p ∈ L, ∃ hd : Nat, p.1 = hd /\ inRch beh n hd /\ ∃ q : Nat -> Bool, p.2 = ((List.range n).filter q).map (fun (i : Nat) => (i : Int)) /\ ∀ x, x < n -> (q x = true ↔ LpB beh n hd x)
 asc : L.Pairwise fun p q => p.1 < q.1
theorem loopsG_ok {f : Flow} (hok : FlowOk f) : LoopsOk (behG f) f.blocks.length (loopsG f) := by
 have h := parG hok
 have key : ∀ l : List Int, l.Pairwise (· < ·) -> (∀ x ∈ l, ∃ b : Nat, x = b /\ inRch (behG f) f.blocks.length b) ->
   LoopsOk (behG f) f.blocks.length (l.foldl (loopsB (reachR (behG f) f.blocks.length (-1)) (parentsR (behG f) (ahdG f) f.blocks.length) (ahdG f) f.blocks.length) []) /\
   ∀ p ∈ l.foldl (loopsB (reachR (behG f) f.blocks.length (-1)) (parentsR (behG f) (ahdG f) f.blocks.length) (ahdG f) f.blocks.length) [], p.1 ∈ l := fun l => by
  induction l using rev_ind with
  | h0 => exact fun _ _ => ⟨⟨fun p hp => by simp at hp, .nil⟩, fun p hp => by simp at hp⟩
  | h1 l b ih =>
   intro hp hm
   rw [List.pairwise_append] at hp
   obtain ⟨g1, g2⟩ := ih hp.1 fun x hx => hm x (by simp [hx])
   obtain ⟨bn, rfl, rb⟩ := hm b (by simp)
   rw [List.foldl_append]
   show LoopsOk _ _ (loopsB _ _ _ _ _ (bn : Int)) /\ ∀ p ∈ loopsB _ _ _ _ _ (bn : Int), _
   generalize l.foldl (loopsB (reachR (behG f) f.blocks.length (-1)) (parentsR (behG f) (ahdG f) f.blocks.length) (ahdG f) f.blocks.length) [] = o at g1 g2
   unfold loopsB
   obtain ⟨_, s2, _⟩ := loopS_ok h rb
   split
   ·refine ⟨⟨fun p hp' => ?_, ?_⟩, fun p hp' => ?_⟩
    ·rw [List.mem_append, List.mem_singleton] at hp'
     rcases hp' with hp' | rfl
     ·exact g1.ok p hp'
     ·refine ⟨bn, rfl, rb, _, rfl, fun x _ => ?_⟩
      rw [decide_eq_true_eq]
      exact s2 x
    ·rw [List.pairwise_append]
     refine ⟨g1.asc, by simp, fun p hp' q hq => ?_⟩
     rw [List.mem_singleton] at hq
     subst hq
     exact hp.2.2 _ (g2 p hp') _ (by simp)
    ·rw [List.mem_append, List.mem_singleton] at hp'
     rcases hp' with hp' | rfl
     ·simp [g2 p hp']
     ·simp
   ·exact ⟨g1, fun p hp' => by simp [g2 p hp']⟩
 exact (key _ (allI_asc _ _) fun x hx => by
  obtain ⟨b, rfl, _, hc⟩ := allI_mem.1 hx
  exact ⟨b, rfl, hc⟩).1
def bothR (bk l : List Int) : Nat := (l.filter (hasL bk)).length
theorem bothR_snoc (bk l : List Int) (c : Int) : bothR bk (l ++ [c]) = if hasL bk c = true then bothR bk l + 1 else bothR bk l := by
 unfold bothR
 rw [List.filter_append]
 by_cases h : hasL bk c = true
 ·rw [if_pos h, List.filter_cons_of_pos h, List.filter_nil, List.length_append]; rfl
 ·rw [if_neg h, List.filter_cons_of_neg h, List.filter_nil, List.append_nil]
section
variable {beh ahd : Nat -> List Int} {n : Nat} (h : ParG beh ahd n)
include h
theorem body_in {L : List (Int × List Int)} (hL : LoopsOk beh n L) {p : Int × List Int} (hp : p ∈ L) {c : Int} (hc : c ∈ p.2) : ∃ hd x : Nat, p.1 = hd /\ c = x /\ hd < n /\ x < n /\ domR beh ahd n hd x = true := by
 obtain ⟨hd, e, rh, q, e2, hq⟩ := hL.ok p hp
 rw [e2, List.mem_map] at hc
 obtain ⟨x, hx, rfl⟩ := hc
 rw [List.mem_filter, List.mem_range] at hx
 have hl := (hq x hx.1).1 hx.2
 exact ⟨hd, x, e, rfl, inR_lt h rh, hx.1, (domR_ok h).2 ⟨rh, hl.rch rh, hl.dom⟩⟩
theorem loops_small {L : List (Int × List Int)} (hL : LoopsOk beh n L) : L.length <= n /\ ∀ p ∈ L, p.2.length <= n := by
 refine ⟨?_, fun p hp => ?_⟩
 ·have := asc_len (l := L.map (·.1)) (a := 0) (k := n) (List.pairwise_map.2 hL.asc) fun x hx => by
   obtain ⟨p, hp, rfl⟩ := List.mem_map.1 hx
   obtain ⟨hd, e, rh, _⟩ := hL.ok p hp
   have := inR_lt h rh
   omega
  rw [List.length_map] at this
  omega
 ·obtain ⟨_, _, _, q, e, _⟩ := hL.ok p hp
  rw [e, List.length_map]
  exact Nat.le_trans (List.length_filter_le _ _) (by simp)
theorem both_ok {L : List (Int × List Int)} (hL : LoopsOk beh n L) {p q : Int × List Int} (hp : p ∈ L) (hq : q ∈ L) : bothR p.2 q.2 = 0 \/ bothR p.2 q.2 = q.2.length \/ bothR p.2 q.2 = p.2.length := by
 obtain ⟨h1, e1, r1, f1, b1, m1⟩ := hL.ok p hp
 obtain ⟨h2, e2, r2, f2, b2, m2⟩ := hL.ok q hq
 have hb : bothR p.2 q.2 = ((List.range n).filter fun x => f2 x && f1 x).length := by
  unfold bothR
  rw [b2, List.filter_map, List.length_map, List.filter_filter]
  congr 1
  refine List.filter_congr fun x hx => ?_
  rw [Bool.and_comm]
  congr 1
  have hx := List.mem_range.1 hx
  show hasL p.2 (x : Int) = f1 x
  rw [Bool.eq_iff_iff, hasL_iff, b1, List.mem_map]
  constructor
  ·rintro ⟨y, hy, e⟩
   have : y = x := by omega
   subst this
   exact (List.mem_filter.1 hy).2
  ·intro hf
   exact ⟨x, List.mem_filter.2 ⟨List.mem_range.2 hx, hf⟩, rfl⟩
 have l1 : p.2.length = ((List.range n).filter f1).length := by rw [b1, List.length_map]
 have l2 : q.2.length = ((List.range n).filter f2).length := by rw [b2, List.length_map]
 by_cases hc : ∃ x, x < n /\ f1 x = true /\ f2 x = true
 ·obtain ⟨x, hx, g1, g2⟩ := hc
  rcases loop_nest h r1 r2 ((m1 x hx).1 g1) ((m2 x hx).1 g2) with hs | hs
  ·refine .inr (.inl ?_)
   rw [hb, l2]
   congr 1
   refine List.filter_congr fun y hy => ?_
   have hy := List.mem_range.1 hy
   cases e : f2 y with
   | false => rfl
   | true => exact (m1 y hy).2 (hs y ((m2 y hy).1 e))
  ·refine .inr (.inr ?_)
   rw [hb, l1]
   congr 1
   refine List.filter_congr fun y hy => ?_
   have hy := List.mem_range.1 hy
   cases e : f1 y with
   | false => cases f2 y <;> rfl
   | true => rw [(m2 y hy).2 (hs y ((m1 y hy).1 e))]; rfl
 ·refine .inl ?_
  rw [hb, List.length_eq_zero_iff, List.filter_eq_nil_iff]
  intro x hx he
  have hx := List.mem_range.1 hx
  simp only [Bool.and_eq_true] at he
  exact hc ⟨x, hx, he.2, he.1⟩
end
theorem red_iff {f : Flow} (hok : FlowOk f) : redG f = true ↔ ∀ (i k : Nat) (x y : Nat), i <= k -> (orderR (behG f) f.blocks.length)[i]? = some (x : Int) -> (orderR (behG f) f.blocks.length)[k]? = some (y : Int) -> (y : Int) ∈ ahdG f x -> domR (behG f) (ahdG f) f.blocks.length x y = true := by
 have h := parG hok
 have nd := order_nodup h.to h.pos
 have hr := ord_rng h
 have hPM : ∀ (i : Nat) (x : Nat), (orderR (behG f) f.blocks.length)[i]? = some (x : Int) -> (plM (orderR (behG f) f.blocks.length) f.blocks.length (orderR (behG f) f.blocks.length).length).getD x (-1) = i := fun i x hx => by
  have := plM_get nd hr _ (Nat.le_refl _) i (x : Int) (List.getElem?_eq_some_iff.1 hx).1 hx
  rwa [Int.toNat_natCast] at this
 unfold redG redR
 rw [List.all_eq_true]
 constructor
 ·intro hall i k x y hik hx hy hm
  have rx : inRch (behG f) f.blocks.length x := (mem_ord h).1 (List.mem_of_getElem? hx)
  have ry : inRch (behG f) f.blocks.length y := (mem_ord h).1 (List.mem_of_getElem? hy)
  have h1 := hall (x : Int) (allI_mem.2 ⟨x, rfl, inR_lt h rx, rx⟩)
  unfold redB at h1
  rw [Int.toNat_natCast, List.all_eq_true] at h1
  have h2 := h1 (y : Int) hm
  unfold redA at h2
  rw [Int.toNat_natCast, Int.toNat_natCast, hPM i x hx, hPM k y hy] at h2
  have ry' : (reachR (behG f) f.blocks.length (-1)).getD y false = true := ry
  rw [if_pos ry', if_pos (decide_eq_true oG)] at h2
  unfold domR
  have rx' : (reachR (behG f) f.blocks.length (-1)).getD x false = true := rx
  rw [rx', ry', h2]; rfl
 ·intro hall b hb
  obtain ⟨x, rfl, _, rx⟩ := allI_mem.1 hb
  unfold redB
  rw [Int.toNat_natCast, List.all_eq_true]
  intro a ha
  obtain ⟨y, rfl⟩ := Int.eq_ofNat_of_zero_le ((h.fro x a).1 ha).1
  unfold redA
  rw [Int.toNat_natCast, Int.toNat_natCast]
  obtain ⟨i, hi, _, _⟩ := ord_idx h (x := x) rx
  by_cases ry : (reachR (behG f) f.blocks.length (-1)).getD y false = true
  ·rw [if_pos ry]
   obtain ⟨k, hk, _, _⟩ := ord_idx h (x := y) ry
   rw [hPM i x hi, hPM k y hk]
   by_cases hik : (i : Int) <= k
   ·rw [if_pos (decide_eq_true hik)]
    have := hall i k x y oG hi hk ha
    unfold domR at this
    rw [Bool.and_eq_true, Bool.and_eq_true] at this
    exact this.2.2
   ·rw [if_neg (by simpa using hik)]
  ·rw [if_neg ry, if_neg (by simp)]
end Go.Argus
end
section
open Go Go.Abs Go.Proofs Go.Argus
namespace Go.Abs
theorem pcall_res {P : Program} {f : FuncId} {args : List D} {r r' : D} {k : Nat} (hc : PCall P f args r') (h : eqW k r r' = true) : PCall P f args r :=
 ⟨hc.1, hc.2.1, fun F w vs hF hR => (hc.2.2 F w vs hF hR).mono fun _ _ ⟨v, h1, h2, h3⟩ => ⟨v, h1, eqW_R k h h2, h3⟩⟩
end Go.Abs
namespace Go.Argus
theorem len_enc74 (p : Int × List Int) : (encLoop p).length = 2 := rfl
end Go.Argus
namespace Go.Proofs.Tryz.K
set_option maxRecDepth 10000
theorem k13_err {f : Flow} (k17 : PCall prog 17 [] (B true)) (hck : checkR f ≠ 0) : PCall prog 13 [.agg (encFlow f)] (B true) := by
 have k15 := k15 (f := f)
 refine pcall_of mixed ok13 (by rw [nt13]; rfl) (.cons (.agg (trs_flow f)) .nil) (Tr.s _) ?_
 have k41 := k41_err hck
 have k33 := k33_err hck
 have k43 := k43_err hck
 rw [loopsD, if_neg hck] at k41
 rw [orderD, if_neg hck] at k33
 rw [redD, if_neg hck] at k43
 generalize checkR f = e at *
 have kneq : (e != 0) = true := by simpa using hck
 have keql : (e == e) = true := by simp
 rw [rs13, sk13]
 refine w_seq_region_g ?_
 refine J37 ?_;refine J1 ?_
 refine ao_end (w_ghost (ghost_fr [(0, encFlow f, 26)] eH (l := [(1, .pt (encFlow f))]) eH) (w_assoc (w_seq_region ?_)))
 refine J28 ?_;refine cl k15 ?_;refine J33 ?_
 refine ao_end (w_seq_if rfl (fun h => ?_) fun h => w_seq_skip (w_seq_region ?_))
 ·refine w_assoc (w_seq_region ?_)
  refine cl k17 ?_;refine J1 ?_
  exact ao_end (w_seq_ret (q_ret1 rfl rfl))
 refine J28 ?_;refine cl k41 ?_;refine J26 ?_;refine J90 ?_;refine J31 ?_;refine J20 ?_;refine J2 ?_;refine er ?_;refine J28 ?_;refine cl k33 ?_;refine J26 ?_;refine J90 ?_;refine J31 ?_;refine J20 ?_;refine J2 ?_;refine er ?_;refine J28 ?_;refine cl k43 ?_;refine J26 ?_;refine J48 ?_;refine J31 ?_;refine J1 ?_;refine J2 ?_
 refine ao_end (w_assoc (w_seq_region ?_))
 refine J0 ?_;refine J56 ?_;refine J3 ?_;refine z fun _ _ => ?_;refine z fun _ _ => ?_;refine J22 ?_;refine J3 ?_;refine z fun _ _ => ?_;refine z fun _ _ => ?_;refine J22 ?_
 refine ao_end (w_seq_if rfl (fun h => ?_) fun h => (by cases h))
 refine w_assoc (w_seq_region ?_)
 refine cl k17 ?_;refine J3 ?_;refine J11 ?_;refine J11 ?_;refine J119 ?_;refine J22 ?_;refine J3 ?_;refine J11 ?_;refine J11 ?_;refine J119 ?_;refine J22 ?_;refine J1 ?_
 exact ao_end (w_seq_ret (q_ret1 rfl rfl))
set_option maxHeartbeats 2000000 in
theorem k13_ok {f : Flow} (k17 : PCall prog 17 [] (B true)) (hck : checkR f = 0) : PCall prog 13 [.agg (encFlow f)] (B true) := by
 have k15 := k15 (f := f)
 refine pcall_of mixed ok13 (by rw [nt13]; rfl) (.cons (.agg (trs_flow f)) .nil) (Tr.s _) ?_
 have hf : formedB f = true := by
  unfold checkR at hck
  split at hck
  ·assumption
  ·cases hck
 have hok := flowOk hf
 have hg := parG hok
 have hlim := hok.lim
 have k41 := k41_ok hck
 have k33 := k33_ok hck
 have k43 := k43_ok hck
 rw [loopsD, if_pos hck] at k41
 rw [orderD, if_pos hck] at k33
 rw [redD, if_pos hck] at k43
 have hLo := loopsG_ok hok
 have hbod := fun p hp c hc => body_in hg hLo (p := p) hp (c := c) hc
 have hboth := fun p q hp hq => both_ok hg hLo (p := p) (q := q) hp hq
 have hred := red_iff hok
 obtain ⟨hLl, hpl⟩ := loops_small hg hLo
 have hor := ord_rng hg
 have hOn := ord_le hg
 have k37g : ∀ a b : Nat, a < f.blocks.length -> b < f.blocks.length -> PCall prog 37 [.agg (encFlow f), I a, I b] (.tup [B (domR (behG f) (ahdG f) f.blocks.length a b), I 0]) := fun a b ha hb => by
  have := k37 (f := f) (a := a) (b := b)
  rwa [domD, if_pos hck, if_pos ⟨by omega, by omega, by omega, by omega⟩, Int.toNat_natCast, Int.toNat_natCast] at this
 have k46g : ∀ b : Nat, b < f.blocks.length -> PCall prog 46 [.agg (encFlow f), I b] (.tup [encInts (ahdG f b), I 0]) := fun b hb => by
  have := k46 (f := f) (b := b)
  rwa [aheadD, if_pos hck, if_pos ⟨by omega, by omega⟩, Int.toNat_natCast] at this
 have hasc := hLo.asc
 rw [rs13, sk13]
 generalize domR (behG f) (ahdG f) f.blocks.length = dom at hbod hred k37g
 generalize ahdG f = ahd at hred k46g
 generalize orderR (behG f) f.blocks.length = O at k33 hred hor hOn
 generalize redG f = is at k43 hred
 clear hLo hf
 generalize loopsG f = L at k41 hbod hboth hasc hLl hpl
 refine w_seq_region_g ?_
 refine J37 ?_;refine J1 ?_
 refine ao_end (w_ghost (ghost_fr [(0, encFlow f, 26)] eH (l := [(1, .pt (encFlow f))]) eH) (w_assoc (w_seq_region ?_)))
 refine J28 ?_;refine cl k15 ?_;refine J33 ?_
 refine ao_end (w_seq_if rfl (fun h => ?_) fun h => w_seq_skip (w_seq_region ?_))
 ·refine w_assoc (w_seq_region ?_)
  refine cl k17 ?_;refine J1 ?_
  exact ao_end (w_seq_ret (q_ret1 rfl rfl))
 have k41 : PCall prog 41 [.agg (encFlow f)] (.tup [.sl (L.flatMap encLoop) L.length, I 0]) := by
  by_cases hz : L = []
  ·subst hz
   exact pcall_res (k := 3) k41 rfl
  ·have e : encLoops L = .sl (L.flatMap encLoop) L.length := by unfold encLoops; rw [if_neg hz]
   rw [e] at k41; exact k41
 clear h k15
 refine J28 ?_;refine cl k41 ?_;refine J26 ?_;refine J67 ?_;refine J31 ?_;refine J44 ?_;refine J2 ?_;refine er ?_;refine J28 ?_;refine cl k33 ?_;refine J26 ?_;refine J67 ?_;refine J31 ?_;refine J44 ?_;refine J2 ?_;refine er ?_;refine J28 ?_;refine cl k43 ?_;refine J26 ?_;refine J48 ?_;refine J31 ?_;refine J1 ?_;refine J2 ?_
 refine ao_end (w_assoc (w_seq_region ?_))
 refine J0 ?_;refine J35 ?_;refine J3 ?_;refine J11 ?_;refine J47 ?_;refine J17 ?_;refine J3 ?_;refine J11 ?_;refine J47 ?_;refine J17 ?_
 refine ao_end (w_seq_if rfl (fun h => (by cases h)) fun _ => w_seq_skip (w_assoc (w_seq_region_g ?_)))
 clear k41 k33 k43
 refine J2 ?_
 refine ao_end (w_then (fun s => Ghost prog s ⟨envL [(1, .pt (encFlow f)), (5, encInts O), (7, B is)], fun _ => none, 1⟩) (w_for (α := Nat)
  (fun i => ⟨envL [(1, .pt (encFlow f)), (3, .sl (L.flatMap encLoop) L.length), (5, encInts O), (7, B is), (9, I i)], fun _ => none, 1⟩) (fun i => i <= L.length) (fun i => L.length - i) 0
  (ghost_of eH) (Nat.zero_le _) ?_) ?_)
 ·intro i hi
  refine J0 ?_;refine J14 ?_;refine J13 ?_;refine J15 ?_
  refine ao_end ⟨_, rfl, fun h => ?_, fun h => ?_⟩
  ·have hlt : i < L.length := by simpa using h
   have hx : L[i]? = some L[i] := List.getElem?_eq_getElem hlt
   have hxm := List.getElem_mem hlt
   have hlow : ∀ (j : Nat) q, j < i -> L[j]? = some q -> q ∈ L /\ q.1 < L[i].1 := fun j q hj hq => by
    obtain ⟨hjl, e⟩ := List.getElem?_eq_some_iff.1 hq
    subst e
    exact ⟨List.getElem_mem hjl, List.pairwise_iff_getElem.1 hasc j i hjl hlt hj⟩
   generalize L[i] = p at hx hxm hlow
   have hbp := hbod p hxm
   have hpl := hpl p hxm
   refine w_assoc (w_seq_region_g ?_)
   refine J2 ?_
   refine ao_end (w_then (fun s => Ghost prog s ⟨envL [(1, .pt (encFlow f)), (3, .sl (L.flatMap encLoop) L.length), (5, encInts O), (7, B is), (9, I i)], fun _ => none, 1⟩) (w_for (α := Nat)
    (fun k => ⟨envL [(1, .pt (encFlow f)), (3, .sl (L.flatMap encLoop) L.length), (5, encInts O), (7, B is), (9, I i), (10, I k)], fun _ => none, 1⟩) (fun k => k <= p.2.length) (fun k => p.2.length - k) 0
    (ghost_of eH) (Nat.zero_le _) ?_) ?_)
   ·intro k hk
    refine J0 ?_;refine J14 ?_;refine J0 ?_;refine J99 ?_;refine J5 ?_;refine J4 ?_;refine J13 ?_;refine J15 ?_
    refine ao_end ⟨_, rfl, fun h => ?_, fun h => ?_⟩
    ·have hkl : k < p.2.length := by simpa using h
     have hc : p.2[k]? = some p.2[k] := List.getElem?_eq_getElem hkl
     obtain ⟨hd, x, e1, e2, hhn, hxn, hdm⟩ := hbp _ (List.getElem_mem hkl)
     generalize p.2[k] = c at hc e2
     subst e2
     have k37 := k37g hd x hhn hxn
     rw [hdm, <- e1] at k37
     refine w_seq_draw di_r13_14 ?_
     refine J28 ?_;refine J14 ?_;refine J0 ?_;refine J99 ?_;refine J5 ?_;refine J4 ?_;refine J14 ?_;refine J0 ?_;refine J99 ?_;refine J5 ?_;refine J4 ?_;refine J0 ?_;refine J18 ?_;refine J4 ?_;refine cl k37 ?_;refine J26 ?_;refine J48 ?_;refine J31 ?_;refine J1 ?_;refine J2 ?_
     refine ao_endc (by simp [apartT]) (w_seq_region ?_)
     refine J0 ?_;refine J35 ?_;refine J3 ?_;refine J30 ?_;refine J34 ?_;refine J17 ?_
     refine ao_end (w_if rfl (fun h => (by cases h)) fun _ => w_end ?_)
     refine J0 ?_;refine J10 ?_;refine J2 ?_
     exact ao_end (next_of (k + 1) (ghost_of eH) oG oG)
    ·exact ghost_of eH
   rintro s hg1
   refine ⟨_, hg1, w_seq_region_g ?_⟩
   refine J2 ?_
   refine ao_end (w_for (α := Nat)
    (fun k => ⟨envL [(1, .pt (encFlow f)), (3, .sl (L.flatMap encLoop) L.length), (5, encInts O), (7, B is), (9, I i), (13, I k)], fun _ => none, 1⟩) (fun k => k <= i) (fun k => i - k) 0
    (ghost_of eH) (Nat.zero_le _) ?_)
   intro k hk
   refine J0 ?_;refine J0 ?_;refine J15 ?_
   refine ao_end ⟨_, rfl, fun h => ?_, fun h => ?_⟩
   ·have hki : k < i := by simpa using h
    have hy : L[k]? = some L[k] := List.getElem?_eq_getElem oG
    obtain ⟨hym, hyl⟩ := hlow k _ hki hy
    generalize L[k] = q at hy hym hyl
    have hbt := hboth q p hym hxm
    refine ws ?_;refine J2 ?_
    refine ao_end (w_assoc (w_seq_region_g ?_))
    refine J2 ?_
    refine ao_end (w_then (fun s => Ghost prog s ⟨envL [(1, .pt (encFlow f)), (3, .sl (L.flatMap encLoop) L.length), (5, encInts O), (7, B is), (9, I i), (13, I k), (14, I (bothR q.2 p.2))], fun _ => none, 1⟩) (w_for (α := Nat)
     (fun m => ⟨envL [(1, .pt (encFlow f)), (3, .sl (L.flatMap encLoop) L.length), (5, encInts O), (7, B is), (9, I i), (13, I k), (14, I (bothR q.2 (p.2.take m))), (15, I m)], fun _ => none, 1⟩) (fun m => m <= p.2.length) (fun m => p.2.length - m) 0
     (ghost_of eH) (Nat.zero_le _) ?_) ?_)
    ·intro m hm
     refine J0 ?_;refine J14 ?_;refine J0 ?_;refine J99 ?_;refine J5 ?_;refine J4 ?_;refine J13 ?_;refine J15 ?_
     refine ao_end ⟨_, rfl, fun h => ?_, fun h => ?_⟩
     ·have hml : m < p.2.length := by simpa using h
      have hc : p.2[m]? = some p.2[m] := List.getElem?_eq_getElem hml
      have hst : bothR q.2 (p.2.take (m + 1)) = if hasL q.2 p.2[m] = true then bothR q.2 (p.2.take m) + 1 else bothR q.2 (p.2.take m) := by
       rw [List.take_add_one, hc]
       exact bothR_snoc q.2 (p.2.take m) p.2[m]
      have hbl : bothR q.2 (p.2.take m) <= m := Nat.le_trans (List.length_filter_le _ _) (by simp; omega)
      generalize p.2[m] = c at hc hst
      have k30 := k30 (l := q.2) (v := c)
      generalize hasL q.2 c = hc1 at k30 hst
      generalize bothR q.2 (p.2.take m) = bn at hst hbl
      refine w_seq_draw di_r13_24 ?_
      refine J14 ?_;refine J0 ?_;refine J99 ?_;refine J5 ?_;refine J4 ?_;refine J14 ?_;refine J0 ?_;refine J99 ?_;refine J5 ?_;refine J4 ?_;refine J0 ?_;refine J18 ?_;refine J4 ?_;refine cl k30 ?_
      refine ao_endc (by simp [apartT]) (w_if rfl (fun h => w_regB2 ?_) fun h => w_end ?_)
      ·rw [if_pos h] at hst
       refine J0 ?_;refine J10 ?_;refine J2 ?_
       refine ao_end ?_
       refine J0 ?_;refine J10 ?_;refine J2 ?_
       refine ao_end (next_of (m + 1) (ghost_of ⟨rfl, rfl, rfl, rfl, rfl, rfl, ?_, rfl, trivial⟩) oG oG)
       rw [hst]; rfl
      ·rw [if_neg (by rw [h]; exact Bool.noConfusion)] at hst
       refine J0 ?_;refine J10 ?_;refine J2 ?_
       refine ao_end (next_of (m + 1) (ghost_of ⟨rfl, rfl, rfl, rfl, rfl, rfl, ?_, rfl, trivial⟩) oG oG)
       rw [hst]; rfl
     ·have hge : ¬ m < p.2.length := by simpa using h
      have : m = p.2.length := by omega
      subst this
      refine ghost_of ⟨rfl, rfl, rfl, rfl, rfl, rfl, ?_, trivial⟩
      rw [List.take_length]; rfl
    rintro s hg2
    refine ⟨_, hg2, w_seq_draw di_r13_26 ?_⟩
    generalize bothR q.2 p.2 = bn at hbt
    refine J0 ?_;refine J35 ?_;refine J3 ?_;refine J11 ?_;refine J46 ?_;refine J11 ?_;refine J135 ?_;refine J7 ?_;refine J6 ?_;refine J32 ?_;refine J47 ?_;refine J9 ?_;refine J3 ?_;refine J11 ?_;refine J46 ?_;refine J11 ?_;refine J135 ?_;refine J7 ?_;refine J6 ?_;refine J32 ?_;refine J47 ?_;refine J9 ?_;refine J3 ?_;refine J46 ?_;refine J11 ?_;refine J135 ?_;refine J7 ?_;refine J6 ?_;refine J46 ?_;refine J11 ?_;refine J135 ?_;refine J7 ?_;refine J6 ?_;refine J97 ?_;refine J9 ?_
    refine ao_endc (by simp [apartT]) (w_if rfl (fun h => ?_) fun _ => w_end ?_)
    ·exfalso
     revert h
     have hgt : ¬ p.1 <= q.1 := by omega
     rcases hbt with e | e | e <;> subst e <;> simp [hgt]
    ·refine J0 ?_;refine J10 ?_;refine J2 ?_
     exact ao_end (next_of (k + 1) (ghost_of eH) oG oG)
   ·show AOps _ _ _ _ _ _ _ _ _
    refine J0 ?_;refine J10 ?_;refine J2 ?_
    exact ao_end (next_of (i + 1) (ghost_of eH) oG oG)
  ·exact ghost_of eH
 clear hbod hboth hasc hLl hpl
 rintro s hg1
 refine ⟨_, hg1, w_seq_region ?_⟩
 refine J1 ?_
 refine ao_end (w_assoc (w_seq_region_g ?_))
 have hOl : O.length <= f.blocks.length := hOn
 clear hg1
 refine J2 ?_
 refine ao_end (w_then (fun s => ∃ fl : Bool, Ghost prog s ⟨envL [(7, B is), (16, B fl)], fun _ => none, 1⟩ /\ fl = is) (w_for (α := Nat × Bool)
  (fun s => ⟨envL [(1, .pt (encFlow f)), (5, encInts O), (7, B is), (16, B s.2), (17, I s.1)], fun _ => none, 1⟩)
  (fun s => s.1 <= O.length /\ (s.2 = true ↔ ∀ (i k x y : Nat), i < s.1 -> i <= k -> O[i]? = some (x : Int) -> O[k]? = some (y : Int) -> (y : Int) ∈ ahd x -> dom x y = true)) (fun s => O.length - s.1) (0, true)
  (ghost_of eH) ⟨Nat.zero_le _, fun _ i k x y hi => absurd hi (Nat.not_lt_zero _), fun _ => rfl⟩ ?_) ?_)
 ·rintro ⟨i, fl⟩ ⟨hi, hfl⟩
  dsimp only at hi hfl ⊢
  refine J0 ?_;refine J14 ?_;refine J13 ?_;refine J15 ?_
  refine ao_end ⟨_, rfl, fun h => ?_, fun h => ?_⟩
  ·have hlt : i < O.length := by simpa using h
   have hx : O[i]? = some O[i] := List.getElem?_eq_getElem hlt
   have hxr := hor _ (List.getElem_mem hlt)
   generalize O[i] = x at hx hxr
   obtain ⟨xn, rfl⟩ := Int.eq_ofNat_of_zero_le hxr.1
   have hxn : xn < f.blocks.length := hxr.2
   have k46 := k46g xn hxn
   have hfin : ∀ fl' : Bool, (fl' = true ↔ fl = true /\ ∀ (k y : Nat), i <= k -> k < O.length -> O[k]? = some (y : Int) -> (y : Int) ∈ ahd xn -> dom xn y = true) -> (fl' = true ↔ ∀ (i' k x y : Nat), i' < i + 1 -> i' <= k -> O[i']? = some (x : Int) -> O[k]? = some (y : Int) -> (y : Int) ∈ ahd x -> dom x y = true) := fun fl' he => by
    rw [he, hfl]
    constructor
    ·rintro ⟨h1, h2⟩ i' k x y hi' hik hx' hy hm
     rcases Nat.lt_or_ge i' i with g | g
     ·exact h1 i' k x y g hik hx' hy hm
     ·have : i' = i := by omega
      subst this
      rw [hx] at hx'
      have : x = xn := by have := Option.some.inj hx'; omega
      subst this
      exact h2 k y hik (List.getElem?_eq_some_iff.1 hy).1 hy hm
    ·intro hh
     exact ⟨fun i' k x y hi' hik => hh i' k x y oG hik, fun k y hik _ hy hm => hh i k xn y oG hik hx hy hm⟩
   clear hfl
   generalize ahd xn = l at k46 hfin
   refine w_seq_draw di_r13_32 ?_
   refine J28 ?_;refine J14 ?_;refine J0 ?_;refine J18 ?_;refine J4 ?_;refine cl k46 ?_;refine J26 ?_;refine J67 ?_;refine J31 ?_;refine J44 ?_;refine J2 ?_
   refine ao_endc (by simp [apartT]) (w_assoc (w_seq_region ?_))
   refine J0 ?_;refine J35 ?_
   refine ao_end (w_seq_if rfl (fun h => (by cases h)) fun _ => w_seq_skip (w_seq_region_g ?_))
   refine J0 ?_;refine J2 ?_
   refine ao_end (w_for (α := Nat × Bool)
    (fun s => ⟨envL [(1, .pt (encFlow f)), (5, encInts O), (7, B is), (16, B s.2), (17, I i), (18, encInts l), (20, I s.1)], fun _ => none, 1⟩)
    (fun s => s.1 <= O.length /\ i <= s.1 /\ (s.2 = true ↔ fl = true /\ ∀ (k y : Nat), i <= k -> k < s.1 -> O[k]? = some (y : Int) -> (y : Int) ∈ l -> dom xn y = true)) (fun s => O.length - s.1) (i, fl)
    (ghost_of eH) ⟨hi, Nat.le_refl _, fun h => ⟨h, fun k y h1 h2 => by dsimp only at h2; omega⟩, fun h => h.1⟩ ?_)
   rintro ⟨k, fk⟩ ⟨hk, hik, hfk⟩
   dsimp only at hk hik hfk ⊢
   refine J0 ?_;refine J14 ?_;refine J13 ?_;refine J15 ?_
   refine ao_end ⟨_, rfl, fun h => ?_, fun h => ?_⟩
   ·have hkl : k < O.length := by simpa using h
    have hy : O[k]? = some O[k] := List.getElem?_eq_getElem hkl
    have hyr := hor _ (List.getElem_mem hkl)
    generalize O[k] = y at hy hyr
    obtain ⟨yn, rfl⟩ := Int.eq_ofNat_of_zero_le hyr.1
    have hyn : yn < f.blocks.length := hyr.2
    have k37 := k37g xn yn hxn hyn
    have k30 := k30 (l := l) (v := (yn : Int))
    have hstep : ∀ fn : Bool, (fn = true ↔ fk = true /\ ((yn : Int) ∈ l -> dom xn yn = true)) -> (fn = true ↔ fl = true /\ ∀ (k' y : Nat), i <= k' -> k' < k + 1 -> O[k']? = some (y : Int) -> (y : Int) ∈ l -> dom xn y = true) := fun fn he => by
     rw [he, hfk]
     constructor
     ·rintro ⟨⟨h1, h2⟩, h3⟩
      refine ⟨h1, fun k' y hik' hk' hy' hm => ?_⟩
      rcases Nat.lt_or_ge k' k with g | g
      ·exact h2 k' y hik' g hy' hm
      ·have : k' = k := by omega
       subst this
       rw [hy] at hy'
       have : y = yn := by have := Option.some.inj hy'; omega
       subst this
       exact h3 hm
     ·rintro ⟨h1, h2⟩
      exact ⟨⟨h1, fun k' y a b => h2 k' y a oG⟩, fun hm => h2 k yn hik oG hy hm⟩
    clear hfk
    generalize hha : hasL l (yn : Int) = ha at k30
    generalize dom xn yn = dv at k37 hstep
    refine w_assoc (w_seq_region ?_)
    refine J14 ?_;refine J14 ?_;refine J0 ?_;refine J18 ?_;refine J4 ?_;refine cl k30 ?_;refine J33 ?_
    refine ao_end (w_seq_if rfl (fun h => w_seq_exit (j_next ?_)) fun h => w_seq_skip (w_seq_draw di_r13_39 ?_))
    ·have hn : ¬ (yn : Int) ∈ l := fun hm => by
      rw [hasL_iff.2 hm] at hha
      subst hha
      simp at h
     clear hha k30
     refine J0 ?_;refine J10 ?_;refine J2 ?_
     refine ao_end (next_of (k + 1, fk) (ghost_of eH) ⟨by dsimp only; omega, by dsimp only; omega, hstep fk ⟨fun h => ⟨h, fun hm => absurd hm hn⟩, fun h => h.1⟩⟩ (by dsimp only; omega))
    ·have hm : (yn : Int) ∈ l := hasL_iff.1 (by rw [hha]; simpa using h)
     clear hha k30
     refine J28 ?_;refine J14 ?_;refine J0 ?_;refine J18 ?_;refine J4 ?_;refine J14 ?_;refine J0 ?_;refine J18 ?_;refine J4 ?_;refine cl k37 ?_;refine J26 ?_;refine J48 ?_;refine J31 ?_;refine J1 ?_;refine J2 ?_
     refine ao_endc (by simp [apartT]) (w_assoc (w_seq_region ?_))
     refine J0 ?_;refine J35 ?_
     refine ao_end (w_seq_if rfl (fun h => (by cases h)) fun _ => w_seq_skip (w_regB2 ?_))
     refine J3 ?_;refine J3 ?_;refine J30 ?_;refine J9 ?_;refine J1 ?_
     refine ao_end ?_
     refine J0 ?_;refine J10 ?_;refine J2 ?_
     refine ao_end (next_of (k + 1, if fk = true then dv else false) (ghost_of eH) ⟨by dsimp only; omega, by dsimp only; omega, hstep _ ?_⟩ (by dsimp only; omega))
     cases fk <;> simp [hm]
   ·have hge : ¬ k < O.length := by simpa using h
    have : k = O.length := by omega
    subst this
    show AOps _ _ _ _ _ _ _ _ _
    refine J0 ?_;refine J10 ?_;refine J2 ?_
    refine ao_end (next_of (i + 1, fk) (ghost_of eH) ⟨by dsimp only; omega, hfin fk hfk⟩ (by dsimp only; omega))
  ·have hge : ¬ i < O.length := by simpa using h
   have : i = O.length := by omega
   subst this
   refine ⟨fl, ghost_of eH, Bool.eq_iff_iff.2 (hfl.trans (Iff.trans ?_ hred.symm))⟩
   exact ⟨fun hh i k x y hik hx hy hm => hh i k x y (List.getElem?_eq_some_iff.1 hx).1 hik hx hy hm, fun hh i k x y _ hik hx hy hm => hh i k x y hik hx hy hm⟩
 ·rintro s ⟨fl, hg2, rfl⟩
  refine ⟨_, hg2, w_seq_region ?_⟩
  have keq : (fl == fl) = true := by simp
  refine cl k17 ?_;refine J3 ?_;refine J30 ?_;refine J30 ?_
  refine ao_g rfl rfl (e_beql rfl rfl) (fun hc => ⟨ak, V.h⟩) ?_
  refine J22 ?_;refine J1 ?_
  refine ao_end (q_ret1 rfl ?_)
  exact congrArg B keq
theorem k13 {f : Flow} (k17 : PCall prog 17 [] (B true)) : PCall prog 13 [.agg (encFlow f)] (B true) := by
 by_cases h : checkR f = 0
 ·exact k13_ok k17 h
 ·exact k13_err k17 h
end Go.Proofs.Tryz.K
end
section
open Go Go.Abs Go.Proofs Go.Argus
namespace Go.Proofs.Tryz.K
theorem domNested {f : Flow} : PCall prog 13 [.agg (encFlow f)] (B true) := k13 k17
end Go.Proofs.Tryz.K
end
section
namespace Go.Proofs.YtonoegleildfnaaGreat
open Go.Abs Go.Argus
theorem ownK : ownKnob Tryz.prog.godebug = none := by kernel_rfl
theorem laidOut : laidOutB Tryz.prog = true := by kernel_rfl
theorem boolT : Tryz.prog.underlying 4 = some .bool := by kernel_rfl
theorem nestedRead : (Tryz.f13.params.toList.all fun t => Tryz.prog.readableRec t && decide (t < Tryz.prog.types.size)) = true := by kernel_rfl
theorem nestedRes : Tryz.f13.resultTypes = #[4] := by kernel_rfl
theorem nestedSh : shTs Tryz.prog 8 Tryz.f13.params.toList = some [flowSh] := by kernel_rfl
theorem nestedSize : Tryz.f13.params.size = 1 := by kernel_rfl
theorem nestedArgs (ds : List D) (h : ArgsOf [flowSh] ds) : PCall Tryz.prog 13 ds (.s (.bool true)) := by
 cases h with
 | cons x h => cases h with
  | nil =>
   rw [enc_flow]
   exact Tryz.K.domNested
set_option maxRecDepth 100000 in
theorem nestedLifted (os : Os) (started : os.Started) (H : Type) (enc : TypeId × Value -> H) :
  ReturnsInHanded {} Tryz.checked os 13 .any (Rows.domNestedSpec.pre6 enc Tryz.prog Tryz.f13 Rows.domNestedRow.domain false) (Rows.domNestedSpec.post enc Tryz.prog Tryz.f13 false true false false) := by
 refine returnsInHanded_of_change (C := Tryz.checked) ownK started (by kernel_rfl) Tryz.func13
  (ChangeSpec.witness6 (enc := enc) (C := Tryz.checked) false ⟨#[], #[.agg #[.string ⟨#[]⟩, .bool false, .int .i64 0, .int .u8 0, .slice none 0 0, .slice none 0 0, .slice none 0 0, .slice none 0 0]], []⟩ 8 (by kernel_rfl) (by kernel_rfl) (by kernel_rfl) (by kernel_rfl)) ?_
 intro W base args ds gs before hval hW _ _
 refine law_contract (C := Tryz.checked) rfl (fun ds h => ?_) laidOut nestedRead nestedRes boolT nestedSh nestedArgs W base args ds gs before hval hW
 rw [nestedSize] at h
 match ds, h with
 | [d1], _ => rfl
theorem domNested_holds : Rows.DomNestedSaid :=
 OpenClaim.holds_of_wide 13 Tryz.f13 rfl rfl rfl rfl rfl rfl rfl ⟨rfl, rfl, rfl, rfl, rfl⟩ rfl rfl rfl rfl rfl (by kernel_rfl) Tryz.func13 (by kernel_rfl)
  (of_decide_eq_true (by kernel_rfl)) (by unfold Func.isWrapper; rw [if_neg (of_decide_eq_false (by kernel_rfl))]; exact ⟨rfl, rfl⟩)
  (fun os started H enc _ => nestedLifted os started H enc)
#print axioms domNested_holds
end Go.Proofs.YtonoegleildfnaaGreat
end
