/- Part 28. -/
import Derived.Test.YtkogeiacmmckkaaGreatDoorFlowNames27
import Derived.ChangeSame
import Derived.ChangeVars
import Derived.RowKit
set_option linter.all false
set_option maxHeartbeats 0
set_option maxRecDepth 10000
namespace Go.Proofs.YtkogeiacmmckkaaGreatDoor
open List
open Go Go.Abs Go.Abs
def aiC:(Tryz.f11.params.toList.all λt=> Tryz.prog.readableRec t&&decide (t< Tryz.prog.types.size))=true:=by kernel_rfl
def ajx: Tryz.f11.resultTypes= #[4]:=by kernel_rfl
def ann:Aw Tryz.prog 8 Tryz.f11.params.toList=some [zR,.sl mE,.sl mE]:=by kernel_rfl
def aiD: Tryz.f11.params.size=3:=by kernel_rfl
def aiE(ds:List D)(h:D9 [zR,.sl mE,.sl mE] ds):aE Tryz.prog 11 ds (.s (.bool true)):=by
 cases h with
 |cons x hx h=>
  cases h with
  |cons y _ h=>
   cases h with
   |cons z _ h=>
    cases h with
    |nil=>
     exact Eq.mpr (congrArg (λd=>aE Tryz.prog 11 d (B true)) (congr (congrArg cons ((ahe x):Sh.arg (zR) x=_)) (congr (congrArg cons ((VZ y):Sh.arg (.sl mE) y=_)) (congr (congrArg cons ((VZ z):Sh.arg (.sl mE) z=_)) (rfl))))) (Go.Abs.k11 (ajy x hx))
set_option maxRecDepth 100000 in
def afC(os:Os)(started:os.Started)(H:Type)(enc:TypeId×Value->H):
 ReturnsInHanded {} Tryz.checked os 11 .any (λw args=>(Rows.flowNamesSpec.pre enc Tryz.prog Tryz.f11 [] false w args/\laidMetH Tryz.prog Ab w)/\sizedMet enc Tryz.prog Tryz.f11 (OpenSpec.ofChange Rows.flowNamesSpec) false w args)
  (Rows.flowNamesSpec.post enc Tryz.prog Tryz.f11 false true false false):=by
 refine returnsInHanded_of_change_and (C:= Tryz.checked) (X:=λw _=>laidMetH Tryz.prog Ab w) (λ_ _ _ hh h=>h.of_heap hh) aql started (by kernel_rfl) Tryz.func11
  (ChangeSpec.witness_at (enc:=enc) (C:= Tryz.checked) (os:=os) (X:=λw _=>laidMetH Tryz.prog Ab w) false (U6 os) #[.agg #[.string ⟨#[]⟩,.bool false,.int .i64 0,.int .u8 0,.slice none 0 0,.slice none 0 0,.slice none 0 0,.slice none 0 0],.slice none 0 0,.slice none 0 0] 8 rfl (by kernel_rfl) (by kernel_rfl) (by kernel_rfl) (by kernel_rfl) (by kernel_rfl) (acK os _)) ?_
 intro W base args ds gs before J hW _ _ U _;let⟨O,hU⟩:=aiF U;refine acR (C:= Tryz.checked) rfl (λds h=>?_) laidOut aiC ajx ano ann rfl aiE W base args ds gs before O hU J hW;rw[aiD] at h
 match ds,h with
 |[d1,d2,d3],_=>rfl
def afD: Tryz.f11.params= #[26,35,35]:=by kernel_rfl
end Go.Proofs.YtkogeiacmmckkaaGreatDoor
