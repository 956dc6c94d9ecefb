/- ShareCoarsest: CheckClasses accepts what Classes returns, and each class of a partition that it accepts is within one class of Classes; with the walks of the functions that the law reaches. -/
import Derived.Test.YtnagfmlifobdiaaGreatDoorCoarsest7
import Derived.Test.YtnagfmlifobdiaaGreatDoorCards
import Derived.Test.YtnagfmlifobdiaaGreatDoorTie
set_option linter.all false
namespace Go.Proofs.YtnagfmlifobdiaaGreatDoor
open Go Go.Abs Go.Argus
theorem shareCoarsest_holds:Rows.ShareCoarsestCardSaid:=
 Claim7.holds_tied_plain_at .later [] [.data,.data,.data] true (true,"75d14588cc31fe30f9342cda7ccad666ac09e033460ee3949779b1d0ee95fad0") true
  ZW (fun _ h=>by cases h) (by kernel_rfl) (fun _ h=>by cases h) shareCoarsest_row_tie rfl ⟨rfl,rfl⟩ (by kernel_rfl) rfl
  (fun f fn hf C=>by
   obtain⟨h1,h2⟩:f=5/\fn= Tryz.f5:=by
    have e:f=5:=(Option.some.inj ((show Tryz.prog.funcNamed Rows.shareCoarsestRow.func=some 5 by kernel_rfl).symm.trans hf)).symm;subst e;exact⟨rfl,(Option.some.inj (Tryz.func5.symm.trans C)).symm⟩
   subst h1 h2;refine⟨by kernel_rfl,fun j t ht=>?_⟩
   have hm:t∈[22,23]:=by
    have:=Array.mem_of_getElem? ht;rw[ZU] at this;simpa using this
   have ha:[22,23].all (fun t=> !Tryz.prog.wantsStandIn t)=true:=by kernel_rfl
   have:=List.all_eq_true.1 ha t hm;show Tryz.prog.wantsStandIn t=false
   simpa using this)
  (by kernel_rfl)
#print axioms shareCoarsest_holds
end Go.Proofs.YtnagfmlifobdiaaGreatDoor
