/- For every small flow Calls and Shape return what the reference returns. -/
import Derived.Test.YtnagfmlifobdiaaGreatDoorShareShapes25
import Derived.Test.YtnagfmlifobdiaaGreatDoorShareShapes27
import Derived.Test.YtnagfmlifobdiaaGreatDoorCards
import Derived.Test.YtnagfmlifobdiaaGreatDoorTie
set_option linter.all false
namespace Go.Proofs.YtnagfmlifobdiaaGreatDoor
open Go Go.Abs Go.Argus
theorem shareShapes_holds:Rows.ShareShapesCardSaid:=
 Claim7.holds_tied_plain_at .later [] [.data,.data,.data] true (true,"75d14588cc31fe30f9342cda7ccad666ac09e033460ee3949779b1d0ee95fad0") true
  adE (fun _ h=>by cases h) (by kernel_rfl) (fun _ h=>by cases h) shareShapes_row_tie rfl ⟨rfl,rfl⟩ agL rfl
  (fun f fn hf C=>by
   obtain⟨h1,h2⟩:f=9/\fn= Tryz.f9:=by
    have e:f=9:=(Option.some.inj (aff.symm.trans hf)).symm;subst e;exact⟨rfl,(Option.some.inj (Tryz.func9.symm.trans C)).symm⟩
   subst h1 h2;refine⟨afg,fun j t ht=>?_⟩
   have hm:t∈[48]:=by
    have:=Array.mem_of_getElem? ht;rw[adC] at this;simpa using this
   have:=List.all_eq_true.1 afh t hm;show Tryz.prog.wantsStandIn t=false
   simpa using this)
  agM
#print axioms shareShapes_holds
end Go.Proofs.YtnagfmlifobdiaaGreatDoor
