/-
  No cell of these rows narrows 'for every input' (looked for: loops, veiled, ifaces, maps, wideKeys, modest, calm, conditions, laid).
  DERIVED. THE GIVEN ROWS OF THIS SEAT. 12 by the template 'for every input the law returns true; each argument reads behind the call as it read before'; 0 by the template 'total and deterministic' (their statements: YtonoegleildfnaaGreatTotals.lean).
  GIVEN WITH THE SEED: the statements are not yours to turn. If you find one false, say at which input.
  Laid BY PROGRAM, IN A SANDBOX (cutbox-rows.mjs): the forced cells as the released guide's own fill.sh prints them over the translation 1ad34e4535bb3b11… (all of the seat's roots in one cut). By AI agents, Wed Nov 11 2026. No macro, syntax, notation, axiom, sorry.
-/
import Derived.Test.YtonoegleildfnaaGreatChecked
import GoSem.Claim
import GoSem.ClaimJoined
import GoSem.ClaimMapViews
import Derived.JoinedTies
import Derived.KernelRfl
namespace Go.Proofs.YtonoegleildfnaaGreat
/- THE CELL 'sum', in the pinned program and in every row, IS THE sha256 OF THE DUMP (.gsa) THAT YtonoegleildfnaaGreatProg.lean LOADS. Nothing in Lean hashes anything: it is a label: what it is worth is what the hold of that sum in a sandbox is worth. -/
noncomputable def Tryz.pinned : Pinned := { name := "ytonoegleildfnaagreat", sum := "1ad34e4535bb3b1136c368188484ab4ce453f6b8e1b6aa29acf0d11a6ffddf3b", checked := Tryz.checked }
namespace Rows
def none {H : Type} : Left H := { results := [], args := [] }

/-- 'arguslaw10.DomProofs': WHATEVER THE INPUT: true; the input reads as it did. -/
def domProofsSpec : ChangeSpec := { name := "domProofs", fn := fun _ => fun
  | [d1, d2] => { results := [.lit (.bool true)], args := [d1, d2] }
  | _ => none }
def domProofsRow : OpenClaim := { program := "ytonoegleildfnaagreat", sum := "1ad34e4535bb3b1136c368188484ab4ce453f6b8e1b6aa29acf0d11a6ffddf3b", func := "argus/arguslaw10.DomProofs", spec := "domProofs", unfollowed := true, recurses := true, plainKeys := false, apart := false }
def DomProofsSaid : Prop := domProofsRow.holds Tryz.pinned (OpenSpec.ofChange domProofsSpec)

/-- ITS FALSE NEIGHBOUR: 'it returns false'. Refute it at one input. -/
def domProofsWrong : ChangeSpec := { name := "domProofs", fn := fun _ => fun
  | [d1, d2] => { results := [.lit (.bool false)], args := [d1, d2] }
  | _ => none }
def DomProofsWrongFalsely : Prop := domProofsRow.holds Tryz.pinned (OpenSpec.ofChange domProofsWrong)

/-- 'arguslaw10.DomLive': WHATEVER THE INPUT: true; the input reads as it did. -/
def domLiveSpec : ChangeSpec := { name := "domLive", fn := fun _ => fun
  | [d] => { results := [.lit (.bool true)], args := [d] }
  | _ => none }
def domLiveRow : OpenClaim := { program := "ytonoegleildfnaagreat", sum := "1ad34e4535bb3b1136c368188484ab4ce453f6b8e1b6aa29acf0d11a6ffddf3b", func := "argus/arguslaw10.DomLive", spec := "domLive", unfollowed := true, recurses := true, plainKeys := false, apart := false }
def DomLiveSaid : Prop := domLiveRow.holds Tryz.pinned (OpenSpec.ofChange domLiveSpec)

/-- ITS FALSE NEIGHBOUR: 'it returns false'. Refute it at one input. -/
def domLiveWrong : ChangeSpec := { name := "domLive", fn := fun _ => fun
  | [d] => { results := [.lit (.bool false)], args := [d] }
  | _ => none }
def DomLiveWrongFalsely : Prop := domLiveRow.holds Tryz.pinned (OpenSpec.ofChange domLiveWrong)

/-- 'arguslaw10.DomWitness': WHATEVER THE INPUT: true; the input reads as it did. -/
def domWitnessSpec : ChangeSpec := { name := "domWitness", fn := fun _ => fun
  | [d1, d2, d3, d4] => { results := [.lit (.bool true)], args := [d1, d2, d3, d4] }
  | _ => none }
def domWitnessRow : OpenClaim := { program := "ytonoegleildfnaagreat", sum := "1ad34e4535bb3b1136c368188484ab4ce453f6b8e1b6aa29acf0d11a6ffddf3b", func := "argus/arguslaw10.DomWitness", spec := "domWitness", unfollowed := true, recurses := true, plainKeys := false, apart := false }
def DomWitnessSaid : Prop := domWitnessRow.holds Tryz.pinned (OpenSpec.ofChange domWitnessSpec)

/-- ITS FALSE NEIGHBOUR: 'it returns false'. Refute it at one input. -/
def domWitnessWrong : ChangeSpec := { name := "domWitness", fn := fun _ => fun
  | [d1, d2, d3, d4] => { results := [.lit (.bool false)], args := [d1, d2, d3, d4] }
  | _ => none }
def DomWitnessWrongFalsely : Prop := domWitnessRow.holds Tryz.pinned (OpenSpec.ofChange domWitnessWrong)

/-- 'arguslaw10.DomReads': WHATEVER THE INPUT: true; the input reads as it did. -/
def domReadsSpec : ChangeSpec := { name := "domReads", fn := fun _ => fun
  | [d1, d2, d3, d4] => { results := [.lit (.bool true)], args := [d1, d2, d3, d4] }
  | _ => none }
def domReadsRow : OpenClaim := { program := "ytonoegleildfnaagreat", sum := "1ad34e4535bb3b1136c368188484ab4ce453f6b8e1b6aa29acf0d11a6ffddf3b", func := "argus/arguslaw10.DomReads", spec := "domReads", unfollowed := true, recurses := true, plainKeys := false, apart := false }
def DomReadsSaid : Prop := domReadsRow.holds Tryz.pinned (OpenSpec.ofChange domReadsSpec)

/-- ITS FALSE NEIGHBOUR: 'it returns false'. Refute it at one input. -/
def domReadsWrong : ChangeSpec := { name := "domReads", fn := fun _ => fun
  | [d1, d2, d3, d4] => { results := [.lit (.bool false)], args := [d1, d2, d3, d4] }
  | _ => none }
def DomReadsWrongFalsely : Prop := domReadsRow.holds Tryz.pinned (OpenSpec.ofChange domReadsWrong)

/-- 'arguslaw10.DomOrders': WHATEVER THE INPUT: true; the input reads as it did. -/
def domOrdersSpec : ChangeSpec := { name := "domOrders", fn := fun _ => fun
  | [d] => { results := [.lit (.bool true)], args := [d] }
  | _ => none }
def domOrdersRow : OpenClaim := { program := "ytonoegleildfnaagreat", sum := "1ad34e4535bb3b1136c368188484ab4ce453f6b8e1b6aa29acf0d11a6ffddf3b", func := "argus/arguslaw10.DomOrders", spec := "domOrders", unfollowed := true, recurses := true, plainKeys := false, apart := false }
def DomOrdersSaid : Prop := domOrdersRow.holds Tryz.pinned (OpenSpec.ofChange domOrdersSpec)

/-- ITS FALSE NEIGHBOUR: 'it returns false'. Refute it at one input. -/
def domOrdersWrong : ChangeSpec := { name := "domOrders", fn := fun _ => fun
  | [d] => { results := [.lit (.bool false)], args := [d] }
  | _ => none }
def DomOrdersWrongFalsely : Prop := domOrdersRow.holds Tryz.pinned (OpenSpec.ofChange domOrdersWrong)

/-- 'arguslaw10.DomShown': WHATEVER THE INPUT: true; the input reads as it did. -/
def domShownSpec : ChangeSpec := { name := "domShown", fn := fun _ => fun
  | [d1, d2] => { results := [.lit (.bool true)], args := [d1, d2] }
  | _ => none }
def domShownRow : OpenClaim := { program := "ytonoegleildfnaagreat", sum := "1ad34e4535bb3b1136c368188484ab4ce453f6b8e1b6aa29acf0d11a6ffddf3b", func := "argus/arguslaw10.DomShown", spec := "domShown", unfollowed := true, recurses := true, plainKeys := false, apart := false }
def DomShownSaid : Prop := domShownRow.holds Tryz.pinned (OpenSpec.ofChange domShownSpec)

/-- ITS FALSE NEIGHBOUR: 'it returns false'. Refute it at one input. -/
def domShownWrong : ChangeSpec := { name := "domShown", fn := fun _ => fun
  | [d1, d2] => { results := [.lit (.bool false)], args := [d1, d2] }
  | _ => none }
def DomShownWrongFalsely : Prop := domShownRow.holds Tryz.pinned (OpenSpec.ofChange domShownWrong)

/-- 'arguslaw10.DomTrees': WHATEVER THE INPUT: true; the input reads as it did. -/
def domTreesSpec : ChangeSpec := { name := "domTrees", fn := fun _ => fun
  | [d1, d2, d3] => { results := [.lit (.bool true)], args := [d1, d2, d3] }
  | _ => none }
def domTreesRow : OpenClaim := { program := "ytonoegleildfnaagreat", sum := "1ad34e4535bb3b1136c368188484ab4ce453f6b8e1b6aa29acf0d11a6ffddf3b", func := "argus/arguslaw10.DomTrees", spec := "domTrees", unfollowed := true, recurses := true, plainKeys := false, apart := false }
def DomTreesSaid : Prop := domTreesRow.holds Tryz.pinned (OpenSpec.ofChange domTreesSpec)

/-- ITS FALSE NEIGHBOUR: 'it returns false'. Refute it at one input. -/
def domTreesWrong : ChangeSpec := { name := "domTrees", fn := fun _ => fun
  | [d1, d2, d3] => { results := [.lit (.bool false)], args := [d1, d2, d3] }
  | _ => none }
def DomTreesWrongFalsely : Prop := domTreesRow.holds Tryz.pinned (OpenSpec.ofChange domTreesWrong)

/-- 'arguslaw10.DomLoops': WHATEVER THE INPUT: true; the input reads as it did. -/
def domLoopsSpec : ChangeSpec := { name := "domLoops", fn := fun _ => fun
  | [d] => { results := [.lit (.bool true)], args := [d] }
  | _ => none }
def domLoopsRow : OpenClaim := { program := "ytonoegleildfnaagreat", sum := "1ad34e4535bb3b1136c368188484ab4ce453f6b8e1b6aa29acf0d11a6ffddf3b", func := "argus/arguslaw10.DomLoops", spec := "domLoops", unfollowed := true, recurses := true, plainKeys := false, apart := false }
def DomLoopsSaid : Prop := domLoopsRow.holds Tryz.pinned (OpenSpec.ofChange domLoopsSpec)

/-- ITS FALSE NEIGHBOUR: 'it returns false'. Refute it at one input. -/
def domLoopsWrong : ChangeSpec := { name := "domLoops", fn := fun _ => fun
  | [d] => { results := [.lit (.bool false)], args := [d] }
  | _ => none }
def DomLoopsWrongFalsely : Prop := domLoopsRow.holds Tryz.pinned (OpenSpec.ofChange domLoopsWrong)

/-- 'arguslaw10.DomFronts': WHATEVER THE INPUT: true; the input reads as it did. -/
def domFrontsSpec : ChangeSpec := { name := "domFronts", fn := fun _ => fun
  | [d1, d2, d3] => { results := [.lit (.bool true)], args := [d1, d2, d3] }
  | _ => none }
def domFrontsRow : OpenClaim := { program := "ytonoegleildfnaagreat", sum := "1ad34e4535bb3b1136c368188484ab4ce453f6b8e1b6aa29acf0d11a6ffddf3b", func := "argus/arguslaw10.DomFronts", spec := "domFronts", unfollowed := true, recurses := true, plainKeys := false, apart := false }
def DomFrontsSaid : Prop := domFrontsRow.holds Tryz.pinned (OpenSpec.ofChange domFrontsSpec)

/-- ITS FALSE NEIGHBOUR: 'it returns false'. Refute it at one input. -/
def domFrontsWrong : ChangeSpec := { name := "domFronts", fn := fun _ => fun
  | [d1, d2, d3] => { results := [.lit (.bool false)], args := [d1, d2, d3] }
  | _ => none }
def DomFrontsWrongFalsely : Prop := domFrontsRow.holds Tryz.pinned (OpenSpec.ofChange domFrontsWrong)

/-- 'arguslaw10.DomCuts': WHATEVER THE INPUT: true; the input reads as it did. -/
def domCutsSpec : ChangeSpec := { name := "domCuts", fn := fun _ => fun
  | [d1, d2, d3] => { results := [.lit (.bool true)], args := [d1, d2, d3] }
  | _ => none }
def domCutsRow : OpenClaim := { program := "ytonoegleildfnaagreat", sum := "1ad34e4535bb3b1136c368188484ab4ce453f6b8e1b6aa29acf0d11a6ffddf3b", func := "argus/arguslaw10.DomCuts", spec := "domCuts", unfollowed := true, recurses := true, plainKeys := false, apart := false }
def DomCutsSaid : Prop := domCutsRow.holds Tryz.pinned (OpenSpec.ofChange domCutsSpec)

/-- ITS FALSE NEIGHBOUR: 'it returns false'. Refute it at one input. -/
def domCutsWrong : ChangeSpec := { name := "domCuts", fn := fun _ => fun
  | [d1, d2, d3] => { results := [.lit (.bool false)], args := [d1, d2, d3] }
  | _ => none }
def DomCutsWrongFalsely : Prop := domCutsRow.holds Tryz.pinned (OpenSpec.ofChange domCutsWrong)

/-- 'arguslaw10.DomNested': WHATEVER THE INPUT: true; the input reads as it did. -/
def domNestedSpec : ChangeSpec := { name := "domNested", fn := fun _ => fun
  | [d] => { results := [.lit (.bool true)], args := [d] }
  | _ => none }
def domNestedRow : OpenClaim := { program := "ytonoegleildfnaagreat", sum := "1ad34e4535bb3b1136c368188484ab4ce453f6b8e1b6aa29acf0d11a6ffddf3b", func := "argus/arguslaw10.DomNested", spec := "domNested", unfollowed := true, recurses := true, plainKeys := false, apart := false }
def DomNestedSaid : Prop := domNestedRow.holds Tryz.pinned (OpenSpec.ofChange domNestedSpec)

/-- ITS FALSE NEIGHBOUR: 'it returns false'. Refute it at one input. -/
def domNestedWrong : ChangeSpec := { name := "domNested", fn := fun _ => fun
  | [d] => { results := [.lit (.bool false)], args := [d] }
  | _ => none }
def DomNestedWrongFalsely : Prop := domNestedRow.holds Tryz.pinned (OpenSpec.ofChange domNestedWrong)

/-- 'arguslaw10.DomMoved': WHATEVER THE INPUT: true; the input reads as it did. -/
def domMovedSpec : ChangeSpec := { name := "domMoved", fn := fun _ => fun
  | [d1, d2, d3] => { results := [.lit (.bool true)], args := [d1, d2, d3] }
  | _ => none }
def domMovedRow : OpenClaim := { program := "ytonoegleildfnaagreat", sum := "1ad34e4535bb3b1136c368188484ab4ce453f6b8e1b6aa29acf0d11a6ffddf3b", func := "argus/arguslaw10.DomMoved", spec := "domMoved", unfollowed := true, recurses := true, plainKeys := false, apart := false }
def DomMovedSaid : Prop := domMovedRow.holds Tryz.pinned (OpenSpec.ofChange domMovedSpec)

/-- ITS FALSE NEIGHBOUR: 'it returns false'. Refute it at one input. -/
def domMovedWrong : ChangeSpec := { name := "domMoved", fn := fun _ => fun
  | [d1, d2, d3] => { results := [.lit (.bool false)], args := [d1, d2, d3] }
  | _ => none }
def DomMovedWrongFalsely : Prop := domMovedRow.holds Tryz.pinned (OpenSpec.ofChange domMovedWrong)

/- THE SECOND FORM. 'bulk': how many values and letters a reading holds, each counted each time it is reached (what is shared counts as often as it is met; a slice's spare places count too). A statement '..UptoSaid' is the law's where the arguments, and the package variables that the reading takes, are together of bulk at most 1048576: NARROWER than '..Said'. Prove '..Said' where nothing that the law and all that it calls make is longer than what came in: it says more and counts as full. Else prove '..UptoSaid'. A law counts once. -/
mutual
def uptoBulk {H : Type} : DataW H → Nat
  | .lit (.string bytes) => bytes.length + 1
  | .lit _ => 1
  | .nil => 1
  | .ptr d => uptoBulk d + 1
  | .slice elems spare => uptoBulkAll elems + uptoBulkAll spare + 1
  | .agg parts => uptoBulkAll parts + 1
  | .iface _ d => uptoBulk d + 1
  | .map entries => uptoBulkEntries entries + 1
  | .held _ => 1
def uptoBulkAll {H : Type} : List (DataW H) → Nat
  | [] => 0
  | d :: r => uptoBulk d + uptoBulkAll r
def uptoBulkEntries {H : Type} : List (Lit × DataW H) → Nat
  | [] => 0
  | x :: r => uptoBulkEntry x + uptoBulkEntries r
def uptoBulkEntry {H : Type} : Lit × DataW H → Nat
  | (.string bytes, d) => bytes.length + uptoBulk d + 1
  | (_, d) => uptoBulk d + 1
 end
def uptoSmall : (H : Type) → List (DataW H) → Bool := fun _ ds => decide (uptoBulkAll ds ≤ 1048576)
def OpenSpec.upto (s : _root_.Go.ChangeSpec) : _root_.Go.OpenSpec := { _root_.Go.OpenSpec.ofChange s with cond := some uptoSmall }

/-- 'arguslaw10.DomProofs', WHERE WHAT IT READS IS OF BULK AT MOST 1048576: true; the input reads as it did. -/
def domProofsUptoRow : OpenClaim := { program := "ytonoegleildfnaagreat", sum := "1ad34e4535bb3b1136c368188484ab4ce453f6b8e1b6aa29acf0d11a6ffddf3b", func := "argus/arguslaw10.DomProofs", spec := "domProofs", unfollowed := true, recurses := true, plainKeys := false, apart := false, narrowed := true }
def DomProofsUptoSaid : Prop := domProofsUptoRow.holds Tryz.pinned (OpenSpec.upto domProofsSpec)

/-- 'arguslaw10.DomLive', WHERE WHAT IT READS IS OF BULK AT MOST 1048576: true; the input reads as it did. -/
def domLiveUptoRow : OpenClaim := { program := "ytonoegleildfnaagreat", sum := "1ad34e4535bb3b1136c368188484ab4ce453f6b8e1b6aa29acf0d11a6ffddf3b", func := "argus/arguslaw10.DomLive", spec := "domLive", unfollowed := true, recurses := true, plainKeys := false, apart := false, narrowed := true }
def DomLiveUptoSaid : Prop := domLiveUptoRow.holds Tryz.pinned (OpenSpec.upto domLiveSpec)

/-- 'arguslaw10.DomWitness', WHERE WHAT IT READS IS OF BULK AT MOST 1048576: true; the input reads as it did. -/
def domWitnessUptoRow : OpenClaim := { program := "ytonoegleildfnaagreat", sum := "1ad34e4535bb3b1136c368188484ab4ce453f6b8e1b6aa29acf0d11a6ffddf3b", func := "argus/arguslaw10.DomWitness", spec := "domWitness", unfollowed := true, recurses := true, plainKeys := false, apart := false, narrowed := true }
def DomWitnessUptoSaid : Prop := domWitnessUptoRow.holds Tryz.pinned (OpenSpec.upto domWitnessSpec)

/-- 'arguslaw10.DomReads', WHERE WHAT IT READS IS OF BULK AT MOST 1048576: true; the input reads as it did. -/
def domReadsUptoRow : OpenClaim := { program := "ytonoegleildfnaagreat", sum := "1ad34e4535bb3b1136c368188484ab4ce453f6b8e1b6aa29acf0d11a6ffddf3b", func := "argus/arguslaw10.DomReads", spec := "domReads", unfollowed := true, recurses := true, plainKeys := false, apart := false, narrowed := true }
def DomReadsUptoSaid : Prop := domReadsUptoRow.holds Tryz.pinned (OpenSpec.upto domReadsSpec)

/-- 'arguslaw10.DomOrders', WHERE WHAT IT READS IS OF BULK AT MOST 1048576: true; the input reads as it did. -/
def domOrdersUptoRow : OpenClaim := { program := "ytonoegleildfnaagreat", sum := "1ad34e4535bb3b1136c368188484ab4ce453f6b8e1b6aa29acf0d11a6ffddf3b", func := "argus/arguslaw10.DomOrders", spec := "domOrders", unfollowed := true, recurses := true, plainKeys := false, apart := false, narrowed := true }
def DomOrdersUptoSaid : Prop := domOrdersUptoRow.holds Tryz.pinned (OpenSpec.upto domOrdersSpec)

/-- 'arguslaw10.DomShown', WHERE WHAT IT READS IS OF BULK AT MOST 1048576: true; the input reads as it did. -/
def domShownUptoRow : OpenClaim := { program := "ytonoegleildfnaagreat", sum := "1ad34e4535bb3b1136c368188484ab4ce453f6b8e1b6aa29acf0d11a6ffddf3b", func := "argus/arguslaw10.DomShown", spec := "domShown", unfollowed := true, recurses := true, plainKeys := false, apart := false, narrowed := true }
def DomShownUptoSaid : Prop := domShownUptoRow.holds Tryz.pinned (OpenSpec.upto domShownSpec)

/-- 'arguslaw10.DomTrees', WHERE WHAT IT READS IS OF BULK AT MOST 1048576: true; the input reads as it did. -/
def domTreesUptoRow : OpenClaim := { program := "ytonoegleildfnaagreat", sum := "1ad34e4535bb3b1136c368188484ab4ce453f6b8e1b6aa29acf0d11a6ffddf3b", func := "argus/arguslaw10.DomTrees", spec := "domTrees", unfollowed := true, recurses := true, plainKeys := false, apart := false, narrowed := true }
def DomTreesUptoSaid : Prop := domTreesUptoRow.holds Tryz.pinned (OpenSpec.upto domTreesSpec)

/-- 'arguslaw10.DomLoops', WHERE WHAT IT READS IS OF BULK AT MOST 1048576: true; the input reads as it did. -/
def domLoopsUptoRow : OpenClaim := { program := "ytonoegleildfnaagreat", sum := "1ad34e4535bb3b1136c368188484ab4ce453f6b8e1b6aa29acf0d11a6ffddf3b", func := "argus/arguslaw10.DomLoops", spec := "domLoops", unfollowed := true, recurses := true, plainKeys := false, apart := false, narrowed := true }
def DomLoopsUptoSaid : Prop := domLoopsUptoRow.holds Tryz.pinned (OpenSpec.upto domLoopsSpec)

/-- 'arguslaw10.DomFronts', WHERE WHAT IT READS IS OF BULK AT MOST 1048576: true; the input reads as it did. -/
def domFrontsUptoRow : OpenClaim := { program := "ytonoegleildfnaagreat", sum := "1ad34e4535bb3b1136c368188484ab4ce453f6b8e1b6aa29acf0d11a6ffddf3b", func := "argus/arguslaw10.DomFronts", spec := "domFronts", unfollowed := true, recurses := true, plainKeys := false, apart := false, narrowed := true }
def DomFrontsUptoSaid : Prop := domFrontsUptoRow.holds Tryz.pinned (OpenSpec.upto domFrontsSpec)

/-- 'arguslaw10.DomCuts', WHERE WHAT IT READS IS OF BULK AT MOST 1048576: true; the input reads as it did. -/
def domCutsUptoRow : OpenClaim := { program := "ytonoegleildfnaagreat", sum := "1ad34e4535bb3b1136c368188484ab4ce453f6b8e1b6aa29acf0d11a6ffddf3b", func := "argus/arguslaw10.DomCuts", spec := "domCuts", unfollowed := true, recurses := true, plainKeys := false, apart := false, narrowed := true }
def DomCutsUptoSaid : Prop := domCutsUptoRow.holds Tryz.pinned (OpenSpec.upto domCutsSpec)

/-- 'arguslaw10.DomNested', WHERE WHAT IT READS IS OF BULK AT MOST 1048576: true; the input reads as it did. -/
def domNestedUptoRow : OpenClaim := { program := "ytonoegleildfnaagreat", sum := "1ad34e4535bb3b1136c368188484ab4ce453f6b8e1b6aa29acf0d11a6ffddf3b", func := "argus/arguslaw10.DomNested", spec := "domNested", unfollowed := true, recurses := true, plainKeys := false, apart := false, narrowed := true }
def DomNestedUptoSaid : Prop := domNestedUptoRow.holds Tryz.pinned (OpenSpec.upto domNestedSpec)

/-- 'arguslaw10.DomMoved', WHERE WHAT IT READS IS OF BULK AT MOST 1048576: true; the input reads as it did. -/
def domMovedUptoRow : OpenClaim := { program := "ytonoegleildfnaagreat", sum := "1ad34e4535bb3b1136c368188484ab4ce453f6b8e1b6aa29acf0d11a6ffddf3b", func := "argus/arguslaw10.DomMoved", spec := "domMoved", unfollowed := true, recurses := true, plainKeys := false, apart := false, narrowed := true }
def DomMovedUptoSaid : Prop := domMovedUptoRow.holds Tryz.pinned (OpenSpec.upto domMovedSpec)

end Rows
end Go.Proofs.YtonoegleildfnaaGreat
