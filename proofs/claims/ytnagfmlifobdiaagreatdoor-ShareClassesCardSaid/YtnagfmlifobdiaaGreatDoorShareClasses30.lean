/- The law ShareClasses of the chapter on shared flows holds of the given program: for each list of flows and each list of lists of numbers it returns true. -/
import Derived.Test.YtnagfmlifobdiaaGreatDoorShareClasses27
import Derived.Test.YtnagfmlifobdiaaGreatDoorShareClasses29
import Derived.Test.YtnagfmlifobdiaaGreatDoorTie
set_option linter.all false
set_option maxHeartbeats 0
set_option maxRecDepth 10000
namespace Go.Proofs.YtnagfmlifobdiaaGreatDoor
open List
open Go Go.Abs Go.Abs
theorem shareClasses_holds:Rows.ShareClassesCardSaid:=
 Claim7.holds_tied_plain_at .later [] [.data,.data,.data] true (true,"75d14588cc31fe30f9342cda7ccad666ac09e033460ee3949779b1d0ee95fad0") true
  akq (λ_ h=>by cases h) (by kernel_rfl) (λ_ h=>by cases h) shareClasses_row_tie rfl ⟨rfl,rfl⟩ aoa rfl
  (λf fn hf C=>by
   obtain⟨h1,h2⟩:f=3/\fn= Tryz.f3:=by
    have e:f=3:=(Option.some.inj (ams.symm.trans hf)).symm;subst e;exact⟨rfl,(Option.some.inj (Tryz.func3.symm.trans C)).symm⟩
   subst h1 h2;refine⟨amt,λj t ht=>?_⟩
   have hm:t∈[22,23]:=by
    have:=Array.mem_of_getElem? ht;rw[ako] at this;simpa using this
   have:=all_eq_true.1 amu t hm;show Tryz.prog.wantsStandIn t=false
   simpa using this)
  aob
#print axioms shareClasses_holds
end Go.Proofs.YtnagfmlifobdiaaGreatDoor
