/- ShareNames: if all flows of a list have other names, in the same order, the classes are the same; with the walks of the functions that the law reaches. -/
import Derived.Test.YtnagfmlifobdiaaGreatDoorNames7
import Derived.Test.YtnagfmlifobdiaaGreatDoorCards
import Derived.Test.YtnagfmlifobdiaaGreatDoorTie
set_option linter.all false
namespace Go.Proofs.YtnagfmlifobdiaaGreatDoor
open Go Go.Abs Go.Argus
theorem shareNames_holds:Rows.ShareNamesCardSaid:=
 Claim7.holds_tied_plain_at .later [] [.data,.data,.data] true (true,"75d14588cc31fe30f9342cda7ccad666ac09e033460ee3949779b1d0ee95fad0") true
  Z4 (fun _ h=>by cases h) (by kernel_rfl) (fun _ h=>by cases h) shareNames_row_tie rfl ⟨rfl,rfl⟩ (by kernel_rfl) rfl
  (fun f fn hf C=>by
   obtain⟨h1,h2⟩:f=7/\fn= Tryz.f7:=by
    have e:f=7:=(Option.some.inj ((show Tryz.prog.funcNamed Rows.shareNamesRow.func=some 7 by kernel_rfl).symm.trans hf)).symm;subst e;exact⟨rfl,(Option.some.inj (Tryz.func7.symm.trans C)).symm⟩
   subst h1 h2;refine⟨by kernel_rfl,fun j t ht=>?_⟩
   have hm:t∈[22,34]:=by
    have:=Array.mem_of_getElem? ht;rw[Z2] at this;simpa using this
   have ha:[22,34].all (fun t=> !Tryz.prog.wantsStandIn t)=true:=by kernel_rfl
   have:=List.all_eq_true.1 ha t hm;show Tryz.prog.wantsStandIn t=false
   simpa using this)
  (by kernel_rfl)
#print axioms shareNames_holds
end Go.Proofs.YtnagfmlifobdiaaGreatDoor
