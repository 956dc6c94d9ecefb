/- FlowMemory: what Renamed gives is new memory: to change it changes nothing that was there before -/
import Derived.Test.YtkogeiacmmckkaaGreatDoorFlowMemory24
import Derived.Test.YtkogeiacmmckkaaGreatDoorFlowMemory26
import Derived.Test.YtkogeiacmmckkaaGreatDoorCards
import Derived.Test.YtkogeiacmmckkaaGreatDoorTie
set_option linter.all false
namespace Go.Proofs.YtkogeiacmmckkaaGreatDoor
open Go Go.Abs Go.Argus
theorem flowMemory_holds:Rows.FlowMemoryCardSaid:=
 Claim7.holds_tied_plain_at .later [] [.data,.data,.data] true (true,"50c3ce7dc696c71ef8a4ed887c2289f09903b060a54006b3442a8d4cd7a9db5b") true
  Z3 (fun _ h=>by cases h) (by kernel_rfl) (fun _ h=>by cases h) flowMemory_row_tie rfl ⟨rfl,rfl⟩ ac2 rfl
  (fun f fn hf C=>by
   obtain⟨h1,h2⟩:f=10/\fn= Tryz.f10:=by
    have e:f=10:=(Option.some.inj (abI.symm.trans hf)).symm;subst e;exact⟨rfl,(Option.some.inj (Tryz.func10.symm.trans C)).symm⟩
   subst h1 h2;refine⟨abJ,fun j t ht=>?_⟩
   have hm:t∈[26,35]:=by
    have:=Array.mem_of_getElem? ht;rw[Z1] at this;simpa using this
   have:=List.all_eq_true.1 abK t hm;show Tryz.prog.wantsStandIn t=false
   simpa using this)
  ac3
#print axioms flowMemory_holds
end Go.Proofs.YtkogeiacmmckkaaGreatDoor
