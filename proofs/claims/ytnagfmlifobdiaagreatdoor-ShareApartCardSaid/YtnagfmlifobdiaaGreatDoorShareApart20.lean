/- Part 20. -/
import Derived.Test.YtnagfmlifobdiaaGreatDoorShareApart16
import Derived.Test.YtnagfmlifobdiaaGreatDoorShareApart17
import Derived.Test.YtnagfmlifobdiaaGreatDoorShareApart18
import Derived.Test.YtnagfmlifobdiaaGreatDoorShareApart19
set_option linter.all false
set_option maxHeartbeats 0
set_option maxRecDepth 10000
section
open Go List
namespace Go.Abs
open Go.Proofs.Tryz
def ab7:∀ e∈([]:List (Nat×List D×D)),aH prog e.1 e.2.1 e.2.2:=λe he=>by cases he
def aeE:aH prog 42 [] l5:=Px ab7 aoc kr
def ape:∀ e∈Wz,aH prog e.1 e.2.1 e.2.2:=λe he=>by
 simp[Wz,mem_cons,not_mem_nil,or_false] at he;rcases he with rfl|rfl
 .exact aeE
 .exact Px ab7 apf kr
def apg:∀ e∈Wy,aH prog e.1 e.2.1 e.2.2:=λe he=>by
 simp[Wy,mem_cons,not_mem_nil,or_false] at he;rcases he with rfl|rfl
 .exact aeE
 .exact Px ape aod kr
def Ks:aH prog 15 [] (B true):=Px apg akr kr
end Go.Abs
end
