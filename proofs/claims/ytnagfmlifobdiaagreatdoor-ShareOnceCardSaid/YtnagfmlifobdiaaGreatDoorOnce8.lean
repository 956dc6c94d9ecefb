/- ShareOnce: Merge of Merge, with the same names kept, is the same; no two flows of it are alike but such as are kept; it has no more flows than the list; with the walks of the functions that the law reaches. -/
import Derived.Test.YtnagfmlifobdiaaGreatDoorOnce7
import Derived.Test.YtnagfmlifobdiaaGreatDoorCards
import Derived.Test.YtnagfmlifobdiaaGreatDoorTie
set_option linter.all false
namespace Go.Proofs.YtnagfmlifobdiaaGreatDoor
open Go Go.Abs Go.Argus
theorem shareOnce_holds:Rows.ShareOnceCardSaid:=
 Claim7.holds_tied_plain_at .later [] [.data,.data,.data] true (true,"75d14588cc31fe30f9342cda7ccad666ac09e033460ee3949779b1d0ee95fad0") true
  abF (fun _ h=>by cases h) (by kernel_rfl) (fun _ h=>by cases h) shareOnce_row_tie rfl ⟨rfl,rfl⟩ (by kernel_rfl) rfl
  (fun f fn hf C=>by
   obtain⟨h1,h2⟩:f=6/\fn= Tryz.f6:=by
    have e:f=6:=(Option.some.inj ((show Tryz.prog.funcNamed Rows.shareOnceRow.func=some 6 by kernel_rfl).symm.trans hf)).symm;subst e;exact⟨rfl,(Option.some.inj (Tryz.func6.symm.trans C)).symm⟩
   subst h1 h2;refine⟨by kernel_rfl,fun j t ht=>?_⟩
   have hm:t∈[22,34]:=by
    have:=Array.mem_of_getElem? ht;rw[abD] at this;simpa using this
   have ha:[22,34].all (fun t=> !Tryz.prog.wantsStandIn t)=true:=by kernel_rfl
   have:=List.all_eq_true.1 ha t hm;show Tryz.prog.wantsStandIn t=false
   simpa using this)
  (by kernel_rfl)
#print axioms shareOnce_holds
end Go.Proofs.YtnagfmlifobdiaaGreatDoor
