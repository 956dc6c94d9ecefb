/- Part 8. -/
import Derived.Test.YtkogeiacmmckkaaGreatDoorFlowNames7
import Derived.Ground.NamesProg
import Derived.Ground.SlgnProg
import Derived.Shelf.LaysM
import Derived.Shelf.Strconv.Itoa0
import Derived.Shelf.Strconv.Itoa1
import Derived.Shelf.Strconv.Itoa2
import Derived.Shelf.Strconv.Itoa3
import Derived.Shelf.Strings.Builder1
import Derived.Shelf.Strings.Builder2
import Derived.Shelf.Strings.OnBuilder
set_option linter.all false
set_option maxHeartbeats 0
set_option maxRecDepth 10000
namespace Go.Proofs
open List
open Tryz
open Go.Shelf
def Tryz.Di:Go.Shelf.Ren:=⟨λ|156=>183|165=>250|166=>182|169=>113|240=>249|241=>300|276=>299|277=>333|n=>n,λ|31=>23|9=>9|3=>3|4=>4|0=>0|20=>20|72=>158|76=>239|70=>156|37=>22|75=>238|127=>245|164=>319|5=>5|80=>166|n=>n,λ|n=>n⟩
def Tryz.OU:Go.Proofs.Lays.n156 prog Tryz.Di:={
 mixed:=kr
 f156:= func183.trans (congrArg some kr)
 f165:= func250.trans (congrArg some kr)
 f166:= func182.trans (congrArg some kr)
 f169:= func113.trans (congrArg some kr)
 f240:= func249.trans (congrArg some kr)
 f241:= func300.trans (congrArg some kr)
 f276:= func299.trans (congrArg some kr)
 f277:= func333.trans (congrArg some kr)
 t0:= underlying0
 a0:= isAgg0
 z0:= sizeOf0
 v0:= zeroValue0
 t3:= underlying3
 a3:= isAgg3
 z3:= sizeOf3
 v3:= zeroValue3
 t4:= underlying4
 a4:= isAgg4
 z4:= sizeOf4
 v4:= zeroValue4
 t9:= underlying9
 a9:= isAgg9
 z9:= sizeOf9
 v9:= zeroValue9
 t20:= underlying20
 a20:= isAgg20
 z20:= sizeOf20
 v20:= zeroValue20
 t31:= underlying23
 a31:= isAgg23
 z31:= sizeOf23
 v31:= zeroValue23
 t37:= underlying22
 a37:= isAgg22
 z37:= sizeOf22
 v37:= zeroValue22
 t70:= underlying156
 a70:= isAgg156
 z70:= sizeOf156
 v70:= zeroValue156
 t72:= underlying158
 a72:= isAgg158
 z72:= sizeOf158
 v72:= zeroValue158
 t75:= underlying238
 a75:= isAgg238
 z75:= sizeOf238
 v75:= zeroValue238
 t76:= underlying239
 a76:= isAgg239
 z76:= sizeOf239
 v76:= zeroValue239
 t127:= underlying245
 a127:= isAgg245
 z127:= sizeOf245
 v127:= zeroValue245
 t164:= underlying319
 a164:= isAgg319
 z164:= sizeOf319
 v164:= zeroValue319 }
def Tryz.MN:Builder.Extra prog Tryz.Di:={
 sizeBuilder:=kr
 liesBuilder:=kr
 t5:= underlying5
 a5:= isAgg5
 z5:= sizeOf5
 v5:= zeroValue5
 infoByte:=kr
 cellsByte:=kr
 sizeByte:=kr
 neB5:=by decide }
open Go.RowKit in
def strings_Join_none(a:Option Addr)(c:Nat)(sep:ByteArray)(w:World):
 Calls prog 183 #[.slice a 0 c,.string sep] w λe w'=>e=.returned (.string ⟨#[]⟩)/\w'=w:=Any.strings_Join_none Tryz.OU Tryz.MN a c sep w
open Go.RowKit in
def strings_Join(C o c:Nat)(xs:List ByteArray)(sep:ByteArray)(w:World)(U:∀ (j:Nat) x,xs[j]? =some x->w.cell? ⟨C,o+j,none⟩=some (.string x))(O:C<w.heap.size)(J:xs.length<=140737488355328)(qg:xs.length<=c)(hlen:(Lib.join (xs.map (·.data.toList)) sep.data.toList).length<=140737488355328):
 Calls prog 183 #[.slice (some ⟨C,o,none⟩) xs.length c,.string sep] w λe w'=>e=.returned (.string ⟨(Lib.join (xs.map (·.data.toList)) sep.data.toList).toArray⟩)/\Below w.heap.size w w':=Any.strings_Join Tryz.OU Tryz.MN C o c xs sep w U O J qg hlen
def acS:Go.Shelf.Ren:=⟨λ|171=>109|243=>184|246=>251|283=>301|284=>302|285=>303|286=>304|129=>261|317=>334|318=>335|319=>336|320=>337|337=>352|338=>353|n=>n,λ|3=>3|9=>9|2=>2|4=>4|171=>321|0=>0|53=>199|37=>22|5=>5|173=>323|212=>200|51=>300|20=>20|213=>350|46=>62|232=>374|233=>375|n=>n,λ|17=>0|18=>6|19=>7|n=>n⟩
def ahp:Go.Proofs.LaysM.n171 prog acS:={
 mixed:=kr
 f129:= func261.trans (congrArg some kr)
 f171:= func109.trans (congrArg some kr)
 f243:= func184.trans (congrArg some kr)
 f246:= func251.trans (congrArg some kr)
 f283:= func301.trans (congrArg some kr)
 f284:= func302.trans (congrArg some kr)
 f285:= func303.trans (congrArg some kr)
 f286:= func304.trans (congrArg some kr)
 f317:= func334.trans (congrArg some kr)
 f318:= func335.trans (congrArg some kr)
 f319:= func336.trans (congrArg some kr)
 f320:= func337.trans (congrArg some kr)
 f337:= func352.trans (congrArg some kr)
 f338:= func353.trans (congrArg some kr)
 t0:= underlying0
 a0:= isAgg0
 z0:= sizeOf0
 v0:= zeroValue0
 t2:= underlying2
 a2:= isAgg2
 z2:= sizeOf2
 v2:= zeroValue2
 t3:= underlying3
 a3:= isAgg3
 z3:= sizeOf3
 v3:= zeroValue3
 t4:= underlying4
 a4:= isAgg4
 z4:= sizeOf4
 v4:= zeroValue4
 t5:= underlying5
 a5:= isAgg5
 z5:= sizeOf5
 v5:= zeroValue5
 t9:= underlying9
 a9:= isAgg9
 z9:= sizeOf9
 v9:= zeroValue9
 t20:= underlying20
 a20:= isAgg20
 z20:= sizeOf20
 v20:= zeroValue20
 t37:= underlying22
 a37:= isAgg22
 z37:= sizeOf22
 v37:= zeroValue22
 t46:= underlying62
 a46:= isAgg62
 z46:= sizeOf62
 v46:= zeroValue62
 t51:= underlying300
 a51:= isAgg300
 z51:= sizeOf300
 v51:= zeroValue300
 t53:= underlying199
 a53:= isAgg199
 z53:= sizeOf199
 v53:= zeroValue199
 t171:= underlying321
 a171:= isAgg321
 z171:= sizeOf321
 v171:= zeroValue321
 t173:= underlying323
 a173:= isAgg323
 z173:= sizeOf323
 v173:= zeroValue323
 t212:= underlying200
 a212:= isAgg200
 z212:= sizeOf200
 v212:= zeroValue200
 t213:= underlying350
 a213:= isAgg350
 z213:= sizeOf350
 t232:= underlying374
 a232:= isAgg374
 z232:= sizeOf374
 v232:= zeroValue374
 t233:= underlying375
 a233:= isAgg375
 z233:= sizeOf375
 v233:= zeroValue375
 g17:=kr
 g18:=kr
 g19:=kr
 i0:=kr
 i2:=kr
 i3:=kr
 i4:=kr
 i5:=kr
 i9:=kr
 i20:=kr
 i37:=kr
 i46:=kr
 i51:=kr
 i53:=kr
 i171:=kr
 i173:=kr
 i212:=kr
 i232:=kr
 i233:=kr
 m17:=kr
 m18:=kr
 m19:=by kernel_rfl }
end Go.Proofs
section
open Go Go.Proofs
namespace Go.Abs
open List
open Go.Proofs.Tryz
def ajC{P:Program}{w:World}{name:String}{g:Nat}{cs:Array Value}(hg:P.globalNamed name=some g)(h:∃ e k,w.heap[g]? =some (.cells cs e k)):w.var? P name=some cs:=by
 let⟨e,k,h⟩:=h;unfold World.var?;rw[hg];simp[Option.bind_some,h]
def afG{w:World}{k:Nat}{os:Array Obj}:Kept w (Sort.grow (w.drewN k) os):=by
 refine⟨?_,λb hb=>?_,rfl,rfl⟩
 .show w.heap.size<=(w.heap++os).size;rw[Array.size_append];omega
 .show(w.heap++os)[b]? =_;rw[Array.getElem?_append_left hb]
def adZ{w w':World}(h:Go.RowKit.Below w.heap.size w w'):Kept w w':=⟨h.size,h.block,h.os,h.output⟩
def ahq(n:Int)(h0: -9223372036854775808<=n)(h1:n<=9223372036854775807)(w:World)(C:∀ t∈Ad,Eb w t):
 Calls prog 109 #[.int .i64 n] w λe w'=>e=.returned (.string ⟨(Lib.itoa n).toArray⟩)/\Kept w w':=by
 refine(Any.strconv_Itoa ahp n h0 h1 w (ajC (g:=0) kr (C (0,_) (.head _)))).mono λe w' h=>⟨h.1,?_⟩
 obtain⟨k,os,rfl⟩:=h.2;exact afG
def aqq{n:Int}(h0: -9223372036854775808<=n)(h1:n<=9223372036854775807):aE prog 109 [I n] (S ⟨(Lib.itoa n).toArray⟩):=by
 refine⟨by kernel_rfl,by simp[Tr.s],λF w vs C hR=>?_⟩;let⟨hs,hr⟩:=hR
 have hv:vs= #[.int .i64 n]:=by
  have hs:vs.size=1:=hs;have h2:=(hr 0 _ vs[0] rfl (by simp[hs])).cX.1;apply Array.ext
  .rw[hs];rfl
  .intro i hi _;have:i=0:=by omega
   subst this;exact h2
 subst hv;exact(ahq n h0 h1 w λt ht=>(C.jk t ht).2).mono λe w' h=>⟨_,h.1,.s _ rfl,h.2⟩
def ZE(l:List ByteArray)(sep:ByteArray):ByteArray:=⟨(Lib.join (l.map (·.data.toList)) sep.data.toList).toArray⟩
def aqp{l:List ByteArray}{sep:ByteArray}(hl:l.length<=140737488355328)(hlen:(Lib.join (l.map (·.data.toList)) sep.data.toList).length<=140737488355328):aE prog 183 [io l,S sep] (S (ZE l sep)):=by
 refine⟨by kernel_rfl,by simp[Tr.s,xM],λF w vs hF hR=>?_⟩;let⟨hs,hr⟩:=hR;have hs:vs.size=2:=hs;have h1:=hr 0 _ vs[0] rfl (by simp[hs]);have h2:=(hr 1 _ vs[1] rfl (by simp[hs])).cX.1
 have hv:vs= #[vs[0],.string sep]:=by
  apply Array.ext
  .exact hs
  .intro i hi _;have:i=0\/i=1:=by omega
   rcases this with rfl|rfl
   .rfl
   .exact h2
 rcases h1.vW with⟨J,g2,a,cap,C⟩|⟨b,o,cap,C,O,h4,h5,h6,U,us,X,h9⟩
 .rw[C] at hv;rw[hv];have mL:l=[]:=tn J
  subst mL;exact(strings_Join_none a cap sep w).mono λe w' h=>⟨_,h.1,.s _ rfl,h.2▸⟨bK _,λ_ _=>rfl,rfl,rfl⟩⟩
 .rw[C] at hv;rw[hv];refine(strings_Join b o cap l sep w (λj x hx=>?_) U hl O hlen).mono λe w' h=>⟨_,h.1,.s _ rfl,adZ h.2⟩
  have hj:j<l.length:=(bO.1 hx).1;have:=(h9 j (S x) (by simp[hx])).cX.1;rw[(X j (tn hj)).1,this]
end Go.Abs
end
