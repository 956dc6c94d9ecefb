/- For every flow that is small and every block Behind, Ahead, Plain and Size return what the reference returns. -/
import Derived.Test.YtkogeiacmmckkaaGreatDoorFlowBlocks25
import Derived.Test.YtkogeiacmmckkaaGreatDoorFlowBlocks27
import Derived.Test.YtkogeiacmmckkaaGreatDoorCards
import Derived.Test.YtkogeiacmmckkaaGreatDoorTie
set_option linter.all false
namespace Go.Proofs.YtkogeiacmmckkaaGreatDoor
open Go Go.Abs Go.Argus
theorem flowBlocks_holds:Rows.FlowBlocksCardSaid:=
 Claim7.holds_tied_plain_at .later [] [.data,.data,.data] true (true,"50c3ce7dc696c71ef8a4ed887c2289f09903b060a54006b3442a8d4cd7a9db5b") true
  Zc (fun _ h=>by cases h) (by kernel_rfl) (fun _ h=>by cases h) flowBlocks_row_tie rfl ⟨rfl,rfl⟩ abQ rfl
  (fun f fn hf C=>by
   obtain⟨h1,h2⟩:f=8/\fn= Tryz.f8:=by
    have e:f=8:=(Option.some.inj (aaz.symm.trans hf)).symm;subst e;exact⟨rfl,(Option.some.inj (Tryz.func8.symm.trans C)).symm⟩
   subst h1 h2;refine⟨aaA,fun j t ht=>?_⟩
   have hm:t∈[26,3]:=by
    have:=Array.mem_of_getElem? ht;rw[Za] at this;simpa using this
   have:=List.all_eq_true.1 aaB t hm;show Tryz.prog.wantsStandIn t=false
   simpa using this)
  abR
#print axioms flowBlocks_holds
end Go.Proofs.YtkogeiacmmckkaaGreatDoor
