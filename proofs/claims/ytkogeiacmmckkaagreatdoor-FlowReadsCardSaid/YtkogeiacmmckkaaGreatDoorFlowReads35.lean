/- For every instruction and every end whose lists have at most 50 registers each, Reads, Writes, ReadsEnd and WritesEnd return what the reference returns. -/
import Derived.Test.YtkogeiacmmckkaaGreatDoorFlowReads32
import Derived.Test.YtkogeiacmmckkaaGreatDoorFlowReads34
import Derived.Test.YtkogeiacmmckkaaGreatDoorCards
import Derived.Test.YtkogeiacmmckkaaGreatDoorTie
set_option linter.all false
namespace Go.Proofs.YtkogeiacmmckkaaGreatDoor
open Go Go.Abs Go.Argus
theorem flowReads_holds:Rows.FlowReadsCardSaid:=
  Claim7.holds_tied_plain_at .later [] [.data,.data,.data] true (true,"50c3ce7dc696c71ef8a4ed887c2289f09903b060a54006b3442a8d4cd7a9db5b") true
    law_holds (fun _ h=>by cases h) (by kernel_rfl) (fun _ h=>by cases h) flowReads_row_tie rfl ⟨rfl,rfl⟩ lawMain rfl
    (fun f fn hf hfn=>by
      obtain ⟨h1,h2⟩:f=6∧fn= Tryz.f6:=by
        have e:f=6:=(Option.some.inj (lawNamed.symm.trans hf)).symm
        subst e
        exact ⟨rfl,(Option.some.inj (Tryz.func6.symm.trans hfn)).symm⟩
      subst h1 h2
      refine ⟨lawLooks,fun j t ht=>?_⟩
      have hm:t∈[45,48]:=by
        have:=Array.mem_of_getElem? ht
        rw [lawParams] at this
        simpa using this
      have:=List.all_eq_true.1 lawStand t hm
      show Tryz.prog.wantsStandIn t=false
      simpa using this)
    lawGoes
#print axioms flowReads_holds
end Go.Proofs.YtkogeiacmmckkaaGreatDoor
