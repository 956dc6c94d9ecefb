/-
  NARROWER THAN 'FOR EVERY INPUT', by the rows' own cells (each row's printed sentence says how): ShareClasses: laid · ShareMerges: laid · ShareCoarsest: laid · ShareOnce: laid · ShareNames: laid · ShareMemory: laid · ShareShapes: laid · ShareApart: laid · ShareTells: laid · ShareRuns: laid.
  DERIVED. THE GIVEN ROWS OF THIS SEAT. 10 by the template 'for every input the law returns true; each argument reads behind the call as it read before'; 0 by the template 'total and deterministic' (their statements: YtnagfmlifobdiaaGreatDoorTotals.lean).
  GIVEN WITH THE SEED: the statements are not yours to turn. If you find one false, say at which input.
  Laid BY PROGRAM, IN A SANDBOX (cutbox-rows.mjs): the forced cells as the released guide's own fill.sh prints them over the translation b8c6a37d0efc2434… (all of the seat's roots in one cut). By AI agents, Wed Nov 11 2026. No macro, syntax, notation, axiom, sorry.
-/
import Derived.Test.YtnagfmlifobdiaaGreatDoorChecked
import GoSem.Claim
import GoSem.ClaimJoined
import GoSem.ClaimMapViews
import Derived.JoinedTies
import Derived.KernelRfl
namespace Go.Proofs.YtnagfmlifobdiaaGreatDoor
/- THE CELL 'sum', in the pinned program and in every row, IS THE sha256 OF THE DUMP (.gsa) THAT YtnagfmlifobdiaaGreatDoorProg.lean LOADS. Nothing in Lean hashes anything: it is a label: what it is worth is what the hold of that sum in a sandbox is worth. -/
noncomputable def Tryz.pinned : Pinned := { name := "ytnagfmlifobdiaagreatdoor", sum := "b8c6a37d0efc24347e92dd1c706796c941c6663a04568188e25e549cf50beafe", checked := Tryz.checked }
namespace Rows
def none {H : Type} : Left H := { results := [], args := [] }

/- WHAT THE LISTED PACKAGE-LEVEL VARIABLES READ AS WHEN THE CALL BEGINS. Each datum BY PROGRAM (the guide's laid-datum.mjs) off the statement by which the dump's own 'gosem.cut.vars' lays the variable. In a bare row this is a premise. The card (YtnagfmlifobdiaaGreatDoorCards.lean) ties it to the program's text. -/
def laid_math_bits_deBruijn32tab {H : Type} : DataW H := .agg [.lit (.int .u8 0), .lit (.int .u8 1), .lit (.int .u8 28), .lit (.int .u8 2), .lit (.int .u8 29), .lit (.int .u8 14), .lit (.int .u8 24), .lit (.int .u8 3), .lit (.int .u8 30), .lit (.int .u8 22), .lit (.int .u8 20), .lit (.int .u8 15), .lit (.int .u8 25), .lit (.int .u8 17), .lit (.int .u8 4), .lit (.int .u8 8), .lit (.int .u8 31), .lit (.int .u8 27), .lit (.int .u8 13), .lit (.int .u8 23), .lit (.int .u8 21), .lit (.int .u8 19), .lit (.int .u8 16), .lit (.int .u8 7), .lit (.int .u8 26), .lit (.int .u8 12), .lit (.int .u8 18), .lit (.int .u8 6), .lit (.int .u8 11), .lit (.int .u8 5), .lit (.int .u8 10), .lit (.int .u8 9)]
def laid_math_bits_deBruijn64tab {H : Type} : DataW H := .agg [.lit (.int .u8 0), .lit (.int .u8 1), .lit (.int .u8 56), .lit (.int .u8 2), .lit (.int .u8 57), .lit (.int .u8 49), .lit (.int .u8 28), .lit (.int .u8 3), .lit (.int .u8 61), .lit (.int .u8 58), .lit (.int .u8 42), .lit (.int .u8 50), .lit (.int .u8 38), .lit (.int .u8 29), .lit (.int .u8 17), .lit (.int .u8 4), .lit (.int .u8 62), .lit (.int .u8 47), .lit (.int .u8 59), .lit (.int .u8 36), .lit (.int .u8 45), .lit (.int .u8 43), .lit (.int .u8 51), .lit (.int .u8 22), .lit (.int .u8 53), .lit (.int .u8 39), .lit (.int .u8 33), .lit (.int .u8 30), .lit (.int .u8 24), .lit (.int .u8 18), .lit (.int .u8 12), .lit (.int .u8 5), .lit (.int .u8 63), .lit (.int .u8 55), .lit (.int .u8 48), .lit (.int .u8 27), .lit (.int .u8 60), .lit (.int .u8 41), .lit (.int .u8 37), .lit (.int .u8 16), .lit (.int .u8 46), .lit (.int .u8 35), .lit (.int .u8 44), .lit (.int .u8 21), .lit (.int .u8 52), .lit (.int .u8 32), .lit (.int .u8 23), .lit (.int .u8 11), .lit (.int .u8 54), .lit (.int .u8 26), .lit (.int .u8 40), .lit (.int .u8 15), .lit (.int .u8 34), .lit (.int .u8 20), .lit (.int .u8 31), .lit (.int .u8 10), .lit (.int .u8 25), .lit (.int .u8 14), .lit (.int .u8 19), .lit (.int .u8 9), .lit (.int .u8 13), .lit (.int .u8 8), .lit (.int .u8 7), .lit (.int .u8 6)]
def laid_internal_strconv_uint64pow10 {H : Type} : DataW H := .agg [.lit (.int .u64 1), .lit (.int .u64 10), .lit (.int .u64 100), .lit (.int .u64 1000), .lit (.int .u64 10000), .lit (.int .u64 100000), .lit (.int .u64 1000000), .lit (.int .u64 10000000), .lit (.int .u64 100000000), .lit (.int .u64 1000000000), .lit (.int .u64 10000000000), .lit (.int .u64 100000000000), .lit (.int .u64 1000000000000), .lit (.int .u64 10000000000000), .lit (.int .u64 100000000000000), .lit (.int .u64 1000000000000000), .lit (.int .u64 10000000000000000), .lit (.int .u64 100000000000000000), .lit (.int .u64 1000000000000000000), .lit (.int .u64 10000000000000000000)]

/-- 'arguslaw13.ShareClasses': WHATEVER THE INPUT: true; the input reads as it did. -/
def shareClassesSpec : ChangeSpec := { name := "shareClasses", fn := fun _ => fun
  | [d1, d2] => { results := [.lit (.bool true)], args := [d1, d2] }
  | _ => none }
def shareClassesRow : OpenClaim := { program := "ytnagfmlifobdiaagreatdoor", sum := "b8c6a37d0efc24347e92dd1c706796c941c6663a04568188e25e549cf50beafe", func := "argus/arguslaw13.ShareClasses", spec := "shareClasses", inPlace := ["internal/abi.NoEscape", "internal/bytealg.MakeNoZero"], unfollowed := true, recurses := true, named := ["internal/strconv.uint64pow10", "math/bits.deBruijn32tab", "math/bits.deBruijn64tab"], plainKeys := false, apart := false, laid := [("math/bits.deBruijn32tab", laid_math_bits_deBruijn32tab), ("math/bits.deBruijn64tab", laid_math_bits_deBruijn64tab), ("internal/strconv.uint64pow10", laid_internal_strconv_uint64pow10)] }
def ShareClassesSaid : Prop := shareClassesRow.holds Tryz.pinned (OpenSpec.ofChange shareClassesSpec)

/-- ITS FALSE NEIGHBOUR: 'it returns false'. Refute it at one input. -/
def shareClassesWrong : ChangeSpec := { name := "shareClasses", fn := fun _ => fun
  | [d1, d2] => { results := [.lit (.bool false)], args := [d1, d2] }
  | _ => none }
def ShareClassesWrongFalsely : Prop := shareClassesRow.holds Tryz.pinned (OpenSpec.ofChange shareClassesWrong)

/-- 'arguslaw13.ShareMerges': WHATEVER THE INPUT: true; the input reads as it did. -/
def shareMergesSpec : ChangeSpec := { name := "shareMerges", fn := fun _ => fun
  | [d1, d2] => { results := [.lit (.bool true)], args := [d1, d2] }
  | _ => none }
def shareMergesRow : OpenClaim := { program := "ytnagfmlifobdiaagreatdoor", sum := "b8c6a37d0efc24347e92dd1c706796c941c6663a04568188e25e549cf50beafe", func := "argus/arguslaw13.ShareMerges", spec := "shareMerges", inPlace := ["internal/abi.NoEscape", "internal/bytealg.MakeNoZero"], unfollowed := true, recurses := true, named := ["internal/strconv.uint64pow10", "math/bits.deBruijn32tab", "math/bits.deBruijn64tab"], plainKeys := false, apart := false, laid := [("math/bits.deBruijn32tab", laid_math_bits_deBruijn32tab), ("math/bits.deBruijn64tab", laid_math_bits_deBruijn64tab), ("internal/strconv.uint64pow10", laid_internal_strconv_uint64pow10)] }
def ShareMergesSaid : Prop := shareMergesRow.holds Tryz.pinned (OpenSpec.ofChange shareMergesSpec)

/-- ITS FALSE NEIGHBOUR: 'it returns false'. Refute it at one input. -/
def shareMergesWrong : ChangeSpec := { name := "shareMerges", fn := fun _ => fun
  | [d1, d2] => { results := [.lit (.bool false)], args := [d1, d2] }
  | _ => none }
def ShareMergesWrongFalsely : Prop := shareMergesRow.holds Tryz.pinned (OpenSpec.ofChange shareMergesWrong)

/-- 'arguslaw13.ShareCoarsest': WHATEVER THE INPUT: true; the input reads as it did. -/
def shareCoarsestSpec : ChangeSpec := { name := "shareCoarsest", fn := fun _ => fun
  | [d1, d2] => { results := [.lit (.bool true)], args := [d1, d2] }
  | _ => none }
def shareCoarsestRow : OpenClaim := { program := "ytnagfmlifobdiaagreatdoor", sum := "b8c6a37d0efc24347e92dd1c706796c941c6663a04568188e25e549cf50beafe", func := "argus/arguslaw13.ShareCoarsest", spec := "shareCoarsest", inPlace := ["internal/abi.NoEscape", "internal/bytealg.MakeNoZero"], unfollowed := true, recurses := true, named := ["internal/strconv.uint64pow10", "math/bits.deBruijn32tab", "math/bits.deBruijn64tab"], plainKeys := false, apart := false, laid := [("math/bits.deBruijn32tab", laid_math_bits_deBruijn32tab), ("math/bits.deBruijn64tab", laid_math_bits_deBruijn64tab), ("internal/strconv.uint64pow10", laid_internal_strconv_uint64pow10)] }
def ShareCoarsestSaid : Prop := shareCoarsestRow.holds Tryz.pinned (OpenSpec.ofChange shareCoarsestSpec)

/-- ITS FALSE NEIGHBOUR: 'it returns false'. Refute it at one input. -/
def shareCoarsestWrong : ChangeSpec := { name := "shareCoarsest", fn := fun _ => fun
  | [d1, d2] => { results := [.lit (.bool false)], args := [d1, d2] }
  | _ => none }
def ShareCoarsestWrongFalsely : Prop := shareCoarsestRow.holds Tryz.pinned (OpenSpec.ofChange shareCoarsestWrong)

/-- 'arguslaw13.ShareOnce': WHATEVER THE INPUT: true; the input reads as it did. -/
def shareOnceSpec : ChangeSpec := { name := "shareOnce", fn := fun _ => fun
  | [d1, d2] => { results := [.lit (.bool true)], args := [d1, d2] }
  | _ => none }
def shareOnceRow : OpenClaim := { program := "ytnagfmlifobdiaagreatdoor", sum := "b8c6a37d0efc24347e92dd1c706796c941c6663a04568188e25e549cf50beafe", func := "argus/arguslaw13.ShareOnce", spec := "shareOnce", inPlace := ["internal/abi.NoEscape", "internal/bytealg.MakeNoZero"], unfollowed := true, recurses := true, named := ["internal/strconv.uint64pow10", "math/bits.deBruijn32tab", "math/bits.deBruijn64tab"], plainKeys := false, apart := false, laid := [("math/bits.deBruijn32tab", laid_math_bits_deBruijn32tab), ("math/bits.deBruijn64tab", laid_math_bits_deBruijn64tab), ("internal/strconv.uint64pow10", laid_internal_strconv_uint64pow10)] }
def ShareOnceSaid : Prop := shareOnceRow.holds Tryz.pinned (OpenSpec.ofChange shareOnceSpec)

/-- ITS FALSE NEIGHBOUR: 'it returns false'. Refute it at one input. -/
def shareOnceWrong : ChangeSpec := { name := "shareOnce", fn := fun _ => fun
  | [d1, d2] => { results := [.lit (.bool false)], args := [d1, d2] }
  | _ => none }
def ShareOnceWrongFalsely : Prop := shareOnceRow.holds Tryz.pinned (OpenSpec.ofChange shareOnceWrong)

/-- 'arguslaw13.ShareNames': WHATEVER THE INPUT: true; the input reads as it did. -/
def shareNamesSpec : ChangeSpec := { name := "shareNames", fn := fun _ => fun
  | [d1, d2] => { results := [.lit (.bool true)], args := [d1, d2] }
  | _ => none }
def shareNamesRow : OpenClaim := { program := "ytnagfmlifobdiaagreatdoor", sum := "b8c6a37d0efc24347e92dd1c706796c941c6663a04568188e25e549cf50beafe", func := "argus/arguslaw13.ShareNames", spec := "shareNames", inPlace := ["internal/abi.NoEscape", "internal/bytealg.MakeNoZero"], unfollowed := true, recurses := true, named := ["internal/strconv.uint64pow10", "math/bits.deBruijn32tab", "math/bits.deBruijn64tab"], plainKeys := false, apart := false, laid := [("math/bits.deBruijn32tab", laid_math_bits_deBruijn32tab), ("math/bits.deBruijn64tab", laid_math_bits_deBruijn64tab), ("internal/strconv.uint64pow10", laid_internal_strconv_uint64pow10)] }
def ShareNamesSaid : Prop := shareNamesRow.holds Tryz.pinned (OpenSpec.ofChange shareNamesSpec)

/-- ITS FALSE NEIGHBOUR: 'it returns false'. Refute it at one input. -/
def shareNamesWrong : ChangeSpec := { name := "shareNames", fn := fun _ => fun
  | [d1, d2] => { results := [.lit (.bool false)], args := [d1, d2] }
  | _ => none }
def ShareNamesWrongFalsely : Prop := shareNamesRow.holds Tryz.pinned (OpenSpec.ofChange shareNamesWrong)

/-- 'arguslaw13.ShareMemory': WHATEVER THE INPUT: true; the input reads as it did. -/
def shareMemorySpec : ChangeSpec := { name := "shareMemory", fn := fun _ => fun
  | [d1, d2] => { results := [.lit (.bool true)], args := [d1, d2] }
  | _ => none }
def shareMemoryRow : OpenClaim := { program := "ytnagfmlifobdiaagreatdoor", sum := "b8c6a37d0efc24347e92dd1c706796c941c6663a04568188e25e549cf50beafe", func := "argus/arguslaw13.ShareMemory", spec := "shareMemory", inPlace := ["internal/abi.NoEscape", "internal/bytealg.MakeNoZero"], unfollowed := true, recurses := true, named := ["internal/strconv.uint64pow10", "math/bits.deBruijn32tab", "math/bits.deBruijn64tab"], plainKeys := false, apart := false, laid := [("math/bits.deBruijn32tab", laid_math_bits_deBruijn32tab), ("math/bits.deBruijn64tab", laid_math_bits_deBruijn64tab), ("internal/strconv.uint64pow10", laid_internal_strconv_uint64pow10)] }
def ShareMemorySaid : Prop := shareMemoryRow.holds Tryz.pinned (OpenSpec.ofChange shareMemorySpec)

/-- ITS FALSE NEIGHBOUR: 'it returns false'. Refute it at one input. -/
def shareMemoryWrong : ChangeSpec := { name := "shareMemory", fn := fun _ => fun
  | [d1, d2] => { results := [.lit (.bool false)], args := [d1, d2] }
  | _ => none }
def ShareMemoryWrongFalsely : Prop := shareMemoryRow.holds Tryz.pinned (OpenSpec.ofChange shareMemoryWrong)

/-- 'arguslaw13.ShareShapes': WHATEVER THE INPUT: true; the input reads as it did. -/
def shareShapesSpec : ChangeSpec := { name := "shareShapes", fn := fun _ => fun
  | [d] => { results := [.lit (.bool true)], args := [d] }
  | _ => none }
def shareShapesRow : OpenClaim := { program := "ytnagfmlifobdiaagreatdoor", sum := "b8c6a37d0efc24347e92dd1c706796c941c6663a04568188e25e549cf50beafe", func := "argus/arguslaw13.ShareShapes", spec := "shareShapes", inPlace := ["internal/abi.NoEscape", "internal/bytealg.MakeNoZero"], unfollowed := true, recurses := true, named := ["internal/strconv.uint64pow10", "math/bits.deBruijn32tab", "math/bits.deBruijn64tab"], plainKeys := false, apart := false, laid := [("math/bits.deBruijn32tab", laid_math_bits_deBruijn32tab), ("math/bits.deBruijn64tab", laid_math_bits_deBruijn64tab), ("internal/strconv.uint64pow10", laid_internal_strconv_uint64pow10)] }
def ShareShapesSaid : Prop := shareShapesRow.holds Tryz.pinned (OpenSpec.ofChange shareShapesSpec)

/-- ITS FALSE NEIGHBOUR: 'it returns false'. Refute it at one input. -/
def shareShapesWrong : ChangeSpec := { name := "shareShapes", fn := fun _ => fun
  | [d] => { results := [.lit (.bool false)], args := [d] }
  | _ => none }
def ShareShapesWrongFalsely : Prop := shareShapesRow.holds Tryz.pinned (OpenSpec.ofChange shareShapesWrong)

/-- 'arguslaw13.ShareApart': WHATEVER THE INPUT: true; the input reads as it did. -/
def shareApartSpec : ChangeSpec := { name := "shareApart", fn := fun _ => fun
  | [d1, d2, d3, d4] => { results := [.lit (.bool true)], args := [d1, d2, d3, d4] }
  | _ => none }
def shareApartRow : OpenClaim := { program := "ytnagfmlifobdiaagreatdoor", sum := "b8c6a37d0efc24347e92dd1c706796c941c6663a04568188e25e549cf50beafe", func := "argus/arguslaw13.ShareApart", spec := "shareApart", inPlace := ["internal/abi.NoEscape", "internal/bytealg.MakeNoZero"], unfollowed := true, recurses := true, named := ["internal/strconv.uint64pow10", "math/bits.deBruijn32tab", "math/bits.deBruijn64tab"], plainKeys := false, apart := false, laid := [("math/bits.deBruijn32tab", laid_math_bits_deBruijn32tab), ("math/bits.deBruijn64tab", laid_math_bits_deBruijn64tab), ("internal/strconv.uint64pow10", laid_internal_strconv_uint64pow10)] }
def ShareApartSaid : Prop := shareApartRow.holds Tryz.pinned (OpenSpec.ofChange shareApartSpec)

/-- ITS FALSE NEIGHBOUR: 'it returns false'. Refute it at one input. -/
def shareApartWrong : ChangeSpec := { name := "shareApart", fn := fun _ => fun
  | [d1, d2, d3, d4] => { results := [.lit (.bool false)], args := [d1, d2, d3, d4] }
  | _ => none }
def ShareApartWrongFalsely : Prop := shareApartRow.holds Tryz.pinned (OpenSpec.ofChange shareApartWrong)

/-- 'arguslaw13.ShareTells': WHATEVER THE INPUT: true; the input reads as it did. -/
def shareTellsSpec : ChangeSpec := { name := "shareTells", fn := fun _ => fun
  | [d1, d2, d3, d4] => { results := [.lit (.bool true)], args := [d1, d2, d3, d4] }
  | _ => none }
def shareTellsRow : OpenClaim := { program := "ytnagfmlifobdiaagreatdoor", sum := "b8c6a37d0efc24347e92dd1c706796c941c6663a04568188e25e549cf50beafe", func := "argus/arguslaw13.ShareTells", spec := "shareTells", inPlace := ["internal/abi.NoEscape", "internal/bytealg.MakeNoZero"], unfollowed := true, recurses := true, named := ["internal/strconv.uint64pow10", "math/bits.deBruijn32tab", "math/bits.deBruijn64tab"], plainKeys := false, apart := false, laid := [("math/bits.deBruijn32tab", laid_math_bits_deBruijn32tab), ("math/bits.deBruijn64tab", laid_math_bits_deBruijn64tab), ("internal/strconv.uint64pow10", laid_internal_strconv_uint64pow10)] }
def ShareTellsSaid : Prop := shareTellsRow.holds Tryz.pinned (OpenSpec.ofChange shareTellsSpec)

/-- ITS FALSE NEIGHBOUR: 'it returns false'. Refute it at one input. -/
def shareTellsWrong : ChangeSpec := { name := "shareTells", fn := fun _ => fun
  | [d1, d2, d3, d4] => { results := [.lit (.bool false)], args := [d1, d2, d3, d4] }
  | _ => none }
def ShareTellsWrongFalsely : Prop := shareTellsRow.holds Tryz.pinned (OpenSpec.ofChange shareTellsWrong)

/-- 'arguslaw13.ShareRuns': WHATEVER THE INPUT: true; the input reads as it did. -/
def shareRunsSpec : ChangeSpec := { name := "shareRuns", fn := fun _ => fun
  | [d1, d2, d3, d4, d5] => { results := [.lit (.bool true)], args := [d1, d2, d3, d4, d5] }
  | _ => none }
def shareRunsRow : OpenClaim := { program := "ytnagfmlifobdiaagreatdoor", sum := "b8c6a37d0efc24347e92dd1c706796c941c6663a04568188e25e549cf50beafe", func := "argus/arguslaw13.ShareRuns", spec := "shareRuns", inPlace := ["internal/abi.NoEscape", "internal/bytealg.MakeNoZero"], unfollowed := true, recurses := true, named := ["internal/strconv.uint64pow10", "math/bits.deBruijn32tab", "math/bits.deBruijn64tab"], plainKeys := false, apart := false, laid := [("math/bits.deBruijn32tab", laid_math_bits_deBruijn32tab), ("math/bits.deBruijn64tab", laid_math_bits_deBruijn64tab), ("internal/strconv.uint64pow10", laid_internal_strconv_uint64pow10)] }
def ShareRunsSaid : Prop := shareRunsRow.holds Tryz.pinned (OpenSpec.ofChange shareRunsSpec)

/-- ITS FALSE NEIGHBOUR: 'it returns false'. Refute it at one input. -/
def shareRunsWrong : ChangeSpec := { name := "shareRuns", fn := fun _ => fun
  | [d1, d2, d3, d4, d5] => { results := [.lit (.bool false)], args := [d1, d2, d3, d4, d5] }
  | _ => none }
def ShareRunsWrongFalsely : Prop := shareRunsRow.holds Tryz.pinned (OpenSpec.ofChange shareRunsWrong)

/- THE SECOND FORM. 'bulk': how many values and letters a reading holds, each counted each time it is reached (what is shared counts as often as it is met; a slice's spare places count too). A statement '..UptoSaid' is the law's where the arguments, and the package variables that the reading takes, are together of bulk at most 1048576: NARROWER than '..Said'. Prove '..Said' where nothing that the law and all that it calls make is longer than what came in: it says more and counts as full. Else prove '..UptoSaid'. A law counts once. -/
mutual
def uptoBulk {H : Type} : DataW H → Nat
  | .lit (.string bytes) => bytes.length + 1
  | .lit _ => 1
  | .nil => 1
  | .ptr d => uptoBulk d + 1
  | .slice elems spare => uptoBulkAll elems + uptoBulkAll spare + 1
  | .agg parts => uptoBulkAll parts + 1
  | .iface _ d => uptoBulk d + 1
  | .map entries => uptoBulkEntries entries + 1
  | .held _ => 1
def uptoBulkAll {H : Type} : List (DataW H) → Nat
  | [] => 0
  | d :: r => uptoBulk d + uptoBulkAll r
def uptoBulkEntries {H : Type} : List (Lit × DataW H) → Nat
  | [] => 0
  | x :: r => uptoBulkEntry x + uptoBulkEntries r
def uptoBulkEntry {H : Type} : Lit × DataW H → Nat
  | (.string bytes, d) => bytes.length + uptoBulk d + 1
  | (_, d) => uptoBulk d + 1
 end
def uptoSmall : (H : Type) → List (DataW H) → Bool := fun _ ds => decide (uptoBulkAll ds ≤ 1048576)
def OpenSpec.upto (s : _root_.Go.ChangeSpec) : _root_.Go.OpenSpec := { _root_.Go.OpenSpec.ofChange s with cond := some uptoSmall }

/-- 'arguslaw13.ShareClasses', WHERE WHAT IT READS IS OF BULK AT MOST 1048576: true; the input reads as it did. -/
def shareClassesUptoRow : OpenClaim := { program := "ytnagfmlifobdiaagreatdoor", sum := "b8c6a37d0efc24347e92dd1c706796c941c6663a04568188e25e549cf50beafe", func := "argus/arguslaw13.ShareClasses", spec := "shareClasses", inPlace := ["internal/abi.NoEscape", "internal/bytealg.MakeNoZero"], unfollowed := true, recurses := true, named := ["internal/strconv.uint64pow10", "math/bits.deBruijn32tab", "math/bits.deBruijn64tab"], plainKeys := false, apart := false, laid := [("math/bits.deBruijn32tab", laid_math_bits_deBruijn32tab), ("math/bits.deBruijn64tab", laid_math_bits_deBruijn64tab), ("internal/strconv.uint64pow10", laid_internal_strconv_uint64pow10)], narrowed := true }
def ShareClassesUptoSaid : Prop := shareClassesUptoRow.holds Tryz.pinned (OpenSpec.upto shareClassesSpec)

/-- 'arguslaw13.ShareMerges', WHERE WHAT IT READS IS OF BULK AT MOST 1048576: true; the input reads as it did. -/
def shareMergesUptoRow : OpenClaim := { program := "ytnagfmlifobdiaagreatdoor", sum := "b8c6a37d0efc24347e92dd1c706796c941c6663a04568188e25e549cf50beafe", func := "argus/arguslaw13.ShareMerges", spec := "shareMerges", inPlace := ["internal/abi.NoEscape", "internal/bytealg.MakeNoZero"], unfollowed := true, recurses := true, named := ["internal/strconv.uint64pow10", "math/bits.deBruijn32tab", "math/bits.deBruijn64tab"], plainKeys := false, apart := false, laid := [("math/bits.deBruijn32tab", laid_math_bits_deBruijn32tab), ("math/bits.deBruijn64tab", laid_math_bits_deBruijn64tab), ("internal/strconv.uint64pow10", laid_internal_strconv_uint64pow10)], narrowed := true }
def ShareMergesUptoSaid : Prop := shareMergesUptoRow.holds Tryz.pinned (OpenSpec.upto shareMergesSpec)

/-- 'arguslaw13.ShareCoarsest', WHERE WHAT IT READS IS OF BULK AT MOST 1048576: true; the input reads as it did. -/
def shareCoarsestUptoRow : OpenClaim := { program := "ytnagfmlifobdiaagreatdoor", sum := "b8c6a37d0efc24347e92dd1c706796c941c6663a04568188e25e549cf50beafe", func := "argus/arguslaw13.ShareCoarsest", spec := "shareCoarsest", inPlace := ["internal/abi.NoEscape", "internal/bytealg.MakeNoZero"], unfollowed := true, recurses := true, named := ["internal/strconv.uint64pow10", "math/bits.deBruijn32tab", "math/bits.deBruijn64tab"], plainKeys := false, apart := false, laid := [("math/bits.deBruijn32tab", laid_math_bits_deBruijn32tab), ("math/bits.deBruijn64tab", laid_math_bits_deBruijn64tab), ("internal/strconv.uint64pow10", laid_internal_strconv_uint64pow10)], narrowed := true }
def ShareCoarsestUptoSaid : Prop := shareCoarsestUptoRow.holds Tryz.pinned (OpenSpec.upto shareCoarsestSpec)

/-- 'arguslaw13.ShareOnce', WHERE WHAT IT READS IS OF BULK AT MOST 1048576: true; the input reads as it did. -/
def shareOnceUptoRow : OpenClaim := { program := "ytnagfmlifobdiaagreatdoor", sum := "b8c6a37d0efc24347e92dd1c706796c941c6663a04568188e25e549cf50beafe", func := "argus/arguslaw13.ShareOnce", spec := "shareOnce", inPlace := ["internal/abi.NoEscape", "internal/bytealg.MakeNoZero"], unfollowed := true, recurses := true, named := ["internal/strconv.uint64pow10", "math/bits.deBruijn32tab", "math/bits.deBruijn64tab"], plainKeys := false, apart := false, laid := [("math/bits.deBruijn32tab", laid_math_bits_deBruijn32tab), ("math/bits.deBruijn64tab", laid_math_bits_deBruijn64tab), ("internal/strconv.uint64pow10", laid_internal_strconv_uint64pow10)], narrowed := true }
def ShareOnceUptoSaid : Prop := shareOnceUptoRow.holds Tryz.pinned (OpenSpec.upto shareOnceSpec)

/-- 'arguslaw13.ShareNames', WHERE WHAT IT READS IS OF BULK AT MOST 1048576: true; the input reads as it did. -/
def shareNamesUptoRow : OpenClaim := { program := "ytnagfmlifobdiaagreatdoor", sum := "b8c6a37d0efc24347e92dd1c706796c941c6663a04568188e25e549cf50beafe", func := "argus/arguslaw13.ShareNames", spec := "shareNames", inPlace := ["internal/abi.NoEscape", "internal/bytealg.MakeNoZero"], unfollowed := true, recurses := true, named := ["internal/strconv.uint64pow10", "math/bits.deBruijn32tab", "math/bits.deBruijn64tab"], plainKeys := false, apart := false, laid := [("math/bits.deBruijn32tab", laid_math_bits_deBruijn32tab), ("math/bits.deBruijn64tab", laid_math_bits_deBruijn64tab), ("internal/strconv.uint64pow10", laid_internal_strconv_uint64pow10)], narrowed := true }
def ShareNamesUptoSaid : Prop := shareNamesUptoRow.holds Tryz.pinned (OpenSpec.upto shareNamesSpec)

/-- 'arguslaw13.ShareMemory', WHERE WHAT IT READS IS OF BULK AT MOST 1048576: true; the input reads as it did. -/
def shareMemoryUptoRow : OpenClaim := { program := "ytnagfmlifobdiaagreatdoor", sum := "b8c6a37d0efc24347e92dd1c706796c941c6663a04568188e25e549cf50beafe", func := "argus/arguslaw13.ShareMemory", spec := "shareMemory", inPlace := ["internal/abi.NoEscape", "internal/bytealg.MakeNoZero"], unfollowed := true, recurses := true, named := ["internal/strconv.uint64pow10", "math/bits.deBruijn32tab", "math/bits.deBruijn64tab"], plainKeys := false, apart := false, laid := [("math/bits.deBruijn32tab", laid_math_bits_deBruijn32tab), ("math/bits.deBruijn64tab", laid_math_bits_deBruijn64tab), ("internal/strconv.uint64pow10", laid_internal_strconv_uint64pow10)], narrowed := true }
def ShareMemoryUptoSaid : Prop := shareMemoryUptoRow.holds Tryz.pinned (OpenSpec.upto shareMemorySpec)

/-- 'arguslaw13.ShareShapes', WHERE WHAT IT READS IS OF BULK AT MOST 1048576: true; the input reads as it did. -/
def shareShapesUptoRow : OpenClaim := { program := "ytnagfmlifobdiaagreatdoor", sum := "b8c6a37d0efc24347e92dd1c706796c941c6663a04568188e25e549cf50beafe", func := "argus/arguslaw13.ShareShapes", spec := "shareShapes", inPlace := ["internal/abi.NoEscape", "internal/bytealg.MakeNoZero"], unfollowed := true, recurses := true, named := ["internal/strconv.uint64pow10", "math/bits.deBruijn32tab", "math/bits.deBruijn64tab"], plainKeys := false, apart := false, laid := [("math/bits.deBruijn32tab", laid_math_bits_deBruijn32tab), ("math/bits.deBruijn64tab", laid_math_bits_deBruijn64tab), ("internal/strconv.uint64pow10", laid_internal_strconv_uint64pow10)], narrowed := true }
def ShareShapesUptoSaid : Prop := shareShapesUptoRow.holds Tryz.pinned (OpenSpec.upto shareShapesSpec)

/-- 'arguslaw13.ShareApart', WHERE WHAT IT READS IS OF BULK AT MOST 1048576: true; the input reads as it did. -/
def shareApartUptoRow : OpenClaim := { program := "ytnagfmlifobdiaagreatdoor", sum := "b8c6a37d0efc24347e92dd1c706796c941c6663a04568188e25e549cf50beafe", func := "argus/arguslaw13.ShareApart", spec := "shareApart", inPlace := ["internal/abi.NoEscape", "internal/bytealg.MakeNoZero"], unfollowed := true, recurses := true, named := ["internal/strconv.uint64pow10", "math/bits.deBruijn32tab", "math/bits.deBruijn64tab"], plainKeys := false, apart := false, laid := [("math/bits.deBruijn32tab", laid_math_bits_deBruijn32tab), ("math/bits.deBruijn64tab", laid_math_bits_deBruijn64tab), ("internal/strconv.uint64pow10", laid_internal_strconv_uint64pow10)], narrowed := true }
def ShareApartUptoSaid : Prop := shareApartUptoRow.holds Tryz.pinned (OpenSpec.upto shareApartSpec)

/-- 'arguslaw13.ShareTells', WHERE WHAT IT READS IS OF BULK AT MOST 1048576: true; the input reads as it did. -/
def shareTellsUptoRow : OpenClaim := { program := "ytnagfmlifobdiaagreatdoor", sum := "b8c6a37d0efc24347e92dd1c706796c941c6663a04568188e25e549cf50beafe", func := "argus/arguslaw13.ShareTells", spec := "shareTells", inPlace := ["internal/abi.NoEscape", "internal/bytealg.MakeNoZero"], unfollowed := true, recurses := true, named := ["internal/strconv.uint64pow10", "math/bits.deBruijn32tab", "math/bits.deBruijn64tab"], plainKeys := false, apart := false, laid := [("math/bits.deBruijn32tab", laid_math_bits_deBruijn32tab), ("math/bits.deBruijn64tab", laid_math_bits_deBruijn64tab), ("internal/strconv.uint64pow10", laid_internal_strconv_uint64pow10)], narrowed := true }
def ShareTellsUptoSaid : Prop := shareTellsUptoRow.holds Tryz.pinned (OpenSpec.upto shareTellsSpec)

/-- 'arguslaw13.ShareRuns', WHERE WHAT IT READS IS OF BULK AT MOST 1048576: true; the input reads as it did. -/
def shareRunsUptoRow : OpenClaim := { program := "ytnagfmlifobdiaagreatdoor", sum := "b8c6a37d0efc24347e92dd1c706796c941c6663a04568188e25e549cf50beafe", func := "argus/arguslaw13.ShareRuns", spec := "shareRuns", inPlace := ["internal/abi.NoEscape", "internal/bytealg.MakeNoZero"], unfollowed := true, recurses := true, named := ["internal/strconv.uint64pow10", "math/bits.deBruijn32tab", "math/bits.deBruijn64tab"], plainKeys := false, apart := false, laid := [("math/bits.deBruijn32tab", laid_math_bits_deBruijn32tab), ("math/bits.deBruijn64tab", laid_math_bits_deBruijn64tab), ("internal/strconv.uint64pow10", laid_internal_strconv_uint64pow10)], narrowed := true }
def ShareRunsUptoSaid : Prop := shareRunsUptoRow.holds Tryz.pinned (OpenSpec.upto shareRunsSpec)

end Rows
end Go.Proofs.YtnagfmlifobdiaaGreatDoor
