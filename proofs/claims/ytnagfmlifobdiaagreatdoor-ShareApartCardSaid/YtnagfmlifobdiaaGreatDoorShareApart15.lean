/- Part 15. -/
import Derived.Test.YtnagfmlifobdiaaGreatDoorShareApart14
set_option linter.all false
set_option maxHeartbeats 0
set_option maxRecDepth 10000
noncomputable section
section
open Go List
namespace Go.Abs
open Go.Proofs.Tryz
def US(k to:Int)(nm:ByteArray):List D:=[.z,.s (.int .u8 k),I (-1),I 0,I to,I 0,S nm,.s (.int .u8 0),I 0,I 0,I 0,I 0,.z,.z,.z,I (-1)]
def pfD(n:UInt8)(bs:List D)(k:Nat):List D:=[S ⟨#[n]⟩,B false,I 0,.s (.int .u8 0),.z,.z,.z,.sl bs k]
def Py(n c:UInt8):List D:=pfD n (US 6 1 ⟨#[c]⟩++US 3 0 ⟨#[]⟩) 2
def prD(n:UInt8):List D:=pfD n (US 3 0 ⟨#[]⟩) 1
def l5:D:=.sl (Py 97 98++Py 98 97++Py 99 100++prD 100++Py 101 99) 5
def okA:D:=.bu [I 0,I 0]
abbrev Wz:List (Nat×List D×D):=[(42,[],l5),(30,[l5],okA)]
def tA:ByteArray:=⟨#[102,108,111,119,32,95,32,112,114,111,99,32,48,32,48,10,114,101,103,115,10,115,108,111,116,115,10,115,105,103,110,97,108,115,10,98,108,111,99,107,10,101,110,100,32,54,32,45,49,32,48,32,49,32,48,32,45,49,10,110,97,109,101,32,95,10,98,108,111,99,107,10,101,110,100,32,51,32,45,49,32,48,32,48,32,48,32,45,49,10]⟩
def tB:ByteArray:=⟨#[102,108,111,119,32,95,32,112,114,111,99,32,48,32,48,10,114,101,103,115,10,115,108,111,116,115,10,115,105,103,110,97,108,115,10,98,108,111,99,107,10,101,110,100,32,51,32,45,49,32,48,32,48,32,48,32,45,49,10]⟩
def opD:D:=.bu [.agg [l5,.sl [S tA,S tA,S tA,S tB,S tA] 5,.sl [.sl [I 1] 1,.sl [I 0] 1,.sl [I 3] 1,.z,.sl [I 2] 1] 5],I 0]
abbrev Wy:List (Nat×List D×D):=[(42,[],l5),(43,[l5],opD)]
end Go.Abs
end
end
