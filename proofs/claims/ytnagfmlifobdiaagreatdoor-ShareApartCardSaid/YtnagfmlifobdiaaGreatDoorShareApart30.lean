/- The law ShareApart of the chapter on shared flows holds of the given program: for each list of flows, two indices and a list of numbers it returns true. -/
import Derived.Test.YtnagfmlifobdiaaGreatDoorShareApart27
import Derived.Test.YtnagfmlifobdiaaGreatDoorShareApart29
import Derived.Test.YtnagfmlifobdiaaGreatDoorTie
set_option linter.all false
set_option maxHeartbeats 0
set_option maxRecDepth 10000
namespace Go.Proofs.YtnagfmlifobdiaaGreatDoor
open List
open Go Go.Abs Go.Abs
theorem shareApart_holds:Rows.ShareApartCardSaid:=
 Claim7.holds_tied_plain_at .later [] [.data,.data,.data] true (true,"75d14588cc31fe30f9342cda7ccad666ac09e033460ee3949779b1d0ee95fad0") true
  akq (λ_ h=>by cases h) (by kernel_rfl) (λ_ h=>by cases h) shareApart_row_tie rfl ⟨rfl,rfl⟩ aoa rfl
  (λf fn hf C=>by
   obtain⟨h1,h2⟩:f=10/\fn= Tryz.f10:=by
    have e:f=10:=(Option.some.inj (ams.symm.trans hf)).symm;subst e;exact⟨rfl,(Option.some.inj (Tryz.func10.symm.trans C)).symm⟩
   subst h1 h2;refine⟨amt,λj t ht=>?_⟩
   have hm:t∈[22,3,3,43]:=by
    have:=Array.mem_of_getElem? ht;rw[ako] at this;simpa using this
   have:=all_eq_true.1 amu t hm;show Tryz.prog.wantsStandIn t=false
   simpa using this)
  aob
#print axioms shareApart_holds
end Go.Proofs.YtnagfmlifobdiaaGreatDoor
