/- Part 24. -/
import Derived.Shelf.SlSortCmp.QuietGrown
import Derived.Test.YtkogeiacmmckkaaGreatDoorProg
import Derived.WalkKit
set_option linter.all false
set_option maxHeartbeats 0
set_option maxRecDepth 10000
namespace Go.Proofs
open List
open Tryz
open Go.Shelf
def anq{W:World}{x y:Nat}{a b:Int}{O C:Nat}{op J n cap:Nat}(U:W.cell? ⟨O,op,none⟩=some (.slice (some ⟨C,J,none⟩) n cap))(hx:W.cell? ⟨C,J+x,none⟩=some (.int .i64 a))(hy:W.cell? ⟨C,J+y,none⟩=some (.int .i64 b))(X:x<n)(hyn:y<n)(hr: -100000<=a - b/\a - b<=100000):
 Calls prog 121 #[.int .i64 x,.int .i64 y,.pointer (some ⟨O,op,none⟩)] W λe w'=>e=.returned (.int .i64 (IntKind.i64.wrap (a - b)))/\∃ q,w'=W.drewN q:=by
 go_enter func121, ntmps121
 go_wp2
 go_quiet (fail)
 go_wp2
 go_ret
 exact⟨rfl,_,rfl⟩
end Go.Proofs
