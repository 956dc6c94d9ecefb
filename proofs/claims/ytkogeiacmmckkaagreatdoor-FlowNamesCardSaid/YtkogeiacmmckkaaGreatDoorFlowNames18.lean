/- Part 18. -/
import Derived.Test.YtkogeiacmmckkaaGreatDoorFlowNames12
import Derived.Test.YtkogeiacmmckkaaGreatDoorFlowNames13
import Derived.Test.YtkogeiacmmckkaaGreatDoorFlowNames14
import Derived.Test.YtkogeiacmmckkaaGreatDoorFlowNames15
import Derived.Test.YtkogeiacmmckkaaGreatDoorFlowNames16
import Derived.Test.YtkogeiacmmckkaaGreatDoorFlowNames17
set_option linter.all false
set_option maxHeartbeats 0
set_option maxRecDepth 10000
section
open Go List
namespace Go.Abs
open Go.Proofs.Tryz
def PK:∀ e∈([]:List (Nat×List D×D)),aE prog e.1 e.2.1 e.2.2:=λe he=>by cases he
def Yi:∀ e∈zp,aE prog e.1 e.2.1 e.2.2:=λe he=>by
 rcases mem_singleton.1 he with rfl;exact MK PK Yj kr
def Tn{n k:Int}{r:D}(h:zZ prog (An prog (yM zp) (IX zp) 100 21 (yz n k) .leaf 0)=some (.inl r))(ht:(yz n k).all (qG depth)=true):aE prog 21 (yz n k) r:=aeE (PL Yi) (XR (PL Yi) 3000) 100 h ht
def ajz:∀ e∈Tm,aE prog e.1 e.2.1 e.2.2:=λe he=>by
 simp[Tm,mem_cons,not_mem_nil,or_false] at he;rcases he with rfl|rfl|rfl|rfl|rfl
 .exact MK PK Yj kr
 .exact MK PK ahj kr
 .exact Tn aqn kr
 .exact Tn aqo kr
 .exact Tn aqm kr
def AY:aE prog 15 [] (B true):=MK ajz ahi kr
end Go.Abs
end
