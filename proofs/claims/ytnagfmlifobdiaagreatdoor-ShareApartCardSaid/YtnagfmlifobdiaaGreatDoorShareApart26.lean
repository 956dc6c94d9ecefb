/- Part 26. -/
import Derived.Test.YtnagfmlifobdiaaGreatDoorShareApart25
import Derived.ChangeSame
import Derived.ChangeVars
import Derived.RowKit
set_option linter.all false
set_option maxHeartbeats 0
set_option maxRecDepth 10000
namespace Go.Proofs.YtnagfmlifobdiaaGreatDoor
open List
open Go Go.Abs Go.Abs
def an7:(Tryz.f10.params.toList.all λt=> Tryz.prog.readableRec t&&decide (t< Tryz.prog.types.size))=true:=by kernel_rfl
def apd: Tryz.f10.resultTypes= #[4]:=by kernel_rfl
def atx:Cd Tryz.prog 8 Tryz.f10.params.toList=some [.sl yU,nL,nL,.sl nL]:=by kernel_rfl
def an8: Tryz.f10.params.size=4:=by kernel_rfl
def an9(ds:List D)(h:FU [.sl yU,nL,nL,.sl nL] ds):aH Tryz.prog 10 ds (.s (.bool true)):=by
 cases h with
 |cons x hx h=>
  cases h with
  |cons y _ h=>
   cases h with
   |cons z _ h=>
    cases h with
    |cons u _ h=>
     cases h with
     |nil=>
      exact Eq.mpr (congrArg (λd=>aH Tryz.prog 10 d (B true)) (congr (congrArg cons ((akk x):Sh.arg (.sl yU) x=_)) (congr (congrArg cons (rfl:Sh.arg nL y=I y)) (congr (congrArg cons (rfl:Sh.arg nL z=I z)) (congr (congrArg cons ((alN u):Sh.arg (.sl nL) u=_)) (rfl)))))) (Go.Abs.k10 (akm hx))
set_option maxRecDepth 100000 in
def akn(os:Os)(started:os.Started)(H:Type)(enc:TypeId×Value->H):
 ReturnsInHanded {} Tryz.checked os 10 .any (λw args=>(Rows.shareApartSpec.pre enc Tryz.prog Tryz.f10 [] false w args/\laidMetH Tryz.prog BO w)/\sizedMet enc Tryz.prog Tryz.f10 (OpenSpec.ofChange Rows.shareApartSpec) false w args)
  (Rows.shareApartSpec.post enc Tryz.prog Tryz.f10 false true false false):=by
 refine returnsInHanded_of_change_and (C:= Tryz.checked) (X:=λw _=>laidMetH Tryz.prog BO w) (λ_ _ _ hh h=>h.of_heap hh) awS started (by kernel_rfl) Tryz.func10
  (ChangeSpec.witness_at (enc:=enc) (C:= Tryz.checked) (os:=os) (X:=λw _=>laidMetH Tryz.prog BO w) false (YE os) #[.slice none 0 0,.int .i64 0,.int .i64 0,.slice none 0 0] 8 rfl (by kernel_rfl) (by kernel_rfl) (by kernel_rfl) (by kernel_rfl) (by kernel_rfl) (agJ os _)) ?_
 intro W base args ds gs before J hW _ _ U _;let⟨M,hU⟩:=an' U;refine agR (C:= Tryz.checked) rfl (λds h=>?_) laidOut an7 apd aty atx rfl an9 W base args ds gs before M hU J hW;rw[an8] at h
 match ds,h with
 |[d1,d2,d3,d4],_=>rfl
def ako: Tryz.f10.params= #[22,3,3,43]:=by kernel_rfl
end Go.Proofs.YtnagfmlifobdiaaGreatDoor
