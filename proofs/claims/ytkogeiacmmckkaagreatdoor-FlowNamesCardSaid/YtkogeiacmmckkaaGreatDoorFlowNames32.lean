/- FlowNames: Renamed and Moved return what the reference returns -/
import Derived.Test.YtkogeiacmmckkaaGreatDoorFlowNames29
import Derived.Test.YtkogeiacmmckkaaGreatDoorFlowNames31
import Derived.Test.YtkogeiacmmckkaaGreatDoorTie
set_option linter.all false
set_option maxHeartbeats 0
set_option maxRecDepth 10000
namespace Go.Proofs.YtkogeiacmmckkaaGreatDoor
open List
open Go Go.Abs Go.Abs
theorem flowNames_holds:Rows.FlowNamesCardSaid:=
 Claim7.holds_tied_plain_at .later [] [.data,.data,.data] true (true,"50c3ce7dc696c71ef8a4ed887c2289f09903b060a54006b3442a8d4cd7a9db5b") true
  afF (λ_ h=>by cases h) (by kernel_rfl) (λ_ h=>by cases h) flowNames_row_tie rfl ⟨rfl,rfl⟩ aiG rfl
  (λf fn hf C=>by
   obtain⟨h1,h2⟩:f=11/\fn= Tryz.f11:=by
    have e:f=11:=(Option.some.inj (ahf.symm.trans hf)).symm;subst e;exact⟨rfl,(Option.some.inj (Tryz.func11.symm.trans C)).symm⟩
   subst h1 h2;refine⟨ahg,λj t ht=>?_⟩
   have hm:t∈[26,35,35]:=by
    have:=Array.mem_of_getElem? ht;rw[afD] at this;simpa using this
   have:=all_eq_true.1 ahh t hm;show Tryz.prog.wantsStandIn t=false
   simpa using this)
  aiH
#print axioms flowNames_holds
end Go.Proofs.YtkogeiacmmckkaaGreatDoor
