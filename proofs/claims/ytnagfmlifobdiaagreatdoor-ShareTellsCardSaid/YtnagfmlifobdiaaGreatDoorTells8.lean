/- ShareTells: two flows of a list are alike exactly if no way tells them apart, and a way that is found is accepted; with the walks of the functions that the law reaches. -/
import Derived.Test.YtnagfmlifobdiaaGreatDoorTells7
import Derived.Test.YtnagfmlifobdiaaGreatDoorCards
import Derived.Test.YtnagfmlifobdiaaGreatDoorTie
set_option linter.all false
namespace Go.Proofs.YtnagfmlifobdiaaGreatDoor
open Go Go.Abs Go.Argus
theorem shareTells_holds:Rows.ShareTellsCardSaid:=
 Claim7.holds_tied_plain_at .later [] [.data,.data,.data] true (true,"75d14588cc31fe30f9342cda7ccad666ac09e033460ee3949779b1d0ee95fad0") true
  ZS (fun _ h=>by cases h) (by kernel_rfl) (fun _ h=>by cases h) shareTells_row_tie rfl ⟨rfl,rfl⟩ (by kernel_rfl) rfl
  (fun f fn hf C=>by
   obtain⟨h1,h2⟩:f=11/\fn= Tryz.f11:=by
    have e:f=11:=(Option.some.inj ((show Tryz.prog.funcNamed Rows.shareTellsRow.func=some 11 by kernel_rfl).symm.trans hf)).symm;subst e;exact⟨rfl,(Option.some.inj (Tryz.func11.symm.trans C)).symm⟩
   subst h1 h2;refine⟨by kernel_rfl,fun j t ht=>?_⟩
   have hm:t∈[22,3,3,43]:=by
    have:=Array.mem_of_getElem? ht;rw[ZQ] at this;simpa using this
   have ha:[22,3,3,43].all (fun t=> !Tryz.prog.wantsStandIn t)=true:=by kernel_rfl
   have:=List.all_eq_true.1 ha t hm;show Tryz.prog.wantsStandIn t=false
   simpa using this)
  (by kernel_rfl)
#print axioms shareTells_holds
end Go.Proofs.YtnagfmlifobdiaaGreatDoor
