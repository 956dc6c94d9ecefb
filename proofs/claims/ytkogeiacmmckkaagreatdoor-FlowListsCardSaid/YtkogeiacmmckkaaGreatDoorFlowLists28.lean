/- For every list of small flows, and every list that is too long, CheckAll returns what the reference returns. -/
import Derived.Test.YtkogeiacmmckkaaGreatDoorFlowLists25
import Derived.Test.YtkogeiacmmckkaaGreatDoorFlowLists27
import Derived.Test.YtkogeiacmmckkaaGreatDoorCards
import Derived.Test.YtkogeiacmmckkaaGreatDoorTie
set_option linter.all false
namespace Go.Proofs.YtkogeiacmmckkaaGreatDoor
open Go Go.Abs Go.Argus
theorem flowLists_holds:Rows.FlowListsCardSaid:=
 Claim7.holds_tied_plain_at .later [] [.data,.data,.data] true (true,"50c3ce7dc696c71ef8a4ed887c2289f09903b060a54006b3442a8d4cd7a9db5b") true
  Zc (fun _ h=>by cases h) (by kernel_rfl) (fun _ h=>by cases h) flowLists_row_tie rfl ⟨rfl,rfl⟩ abQ rfl
  (fun f fn hf C=>by
   obtain⟨h1,h2⟩:f=4/\fn= Tryz.f4:=by
    have e:f=4:=(Option.some.inj (aaz.symm.trans hf)).symm;subst e;exact⟨rfl,(Option.some.inj (Tryz.func4.symm.trans C)).symm⟩
   subst h1 h2;refine⟨aaA,fun j t ht=>?_⟩
   have hm:t∈[31]:=by
    have:=Array.mem_of_getElem? ht;rw[Za] at this;simpa using this
   have:=List.all_eq_true.1 aaB t hm;show Tryz.prog.wantsStandIn t=false
   simpa using this)
  abR
#print axioms flowLists_holds
end Go.Proofs.YtkogeiacmmckkaaGreatDoor
