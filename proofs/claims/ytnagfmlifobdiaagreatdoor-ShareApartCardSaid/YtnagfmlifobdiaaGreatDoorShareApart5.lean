/- Part 5. -/
import Derived.Test.YtnagfmlifobdiaaGreatDoorShareApart4
import Derived.Ground.NamesProg
import Derived.Ground.SlgnProg
import Derived.Shelf.LaysM
import Derived.Shelf.Strconv.Itoa0
import Derived.Shelf.Strconv.Itoa1
import Derived.Shelf.Strconv.Itoa2
import Derived.Shelf.Strconv.Itoa3
import Derived.Shelf.Strings.Builder1
import Derived.Shelf.Strings.Builder2
import Derived.Shelf.Strings.OnBuilder
set_option linter.all false
set_option maxHeartbeats 0
set_option maxRecDepth 10000
namespace Go.Proofs
open List
open Tryz
open Go.Shelf
def Tryz.EU:Go.Shelf.Ren:=⟨λ|156=>199|165=>236|166=>119|169=>120|240=>160|241=>246|276=>225|277=>254|n=>n,λ|31=>34|9=>9|3=>3|4=>4|0=>0|20=>20|72=>183|76=>186|70=>181|37=>45|75=>185|127=>229|164=>269|5=>5|80=>188|n=>n,λ|n=>n⟩
def Tryz.RG:Go.Proofs.Lays.n156 prog Tryz.EU:={
 mixed:=kr
 f156:= func199.trans (congrArg some kr)
 f165:= func236.trans (congrArg some kr)
 f166:= func119.trans (congrArg some kr)
 f169:= func120.trans (congrArg some kr)
 f240:= func160.trans (congrArg some kr)
 f241:= func246.trans (congrArg some kr)
 f276:= func225.trans (congrArg some kr)
 f277:= func254.trans (congrArg some kr)
 t0:= underlying0
 a0:= isAgg0
 z0:= sizeOf0
 v0:= zeroValue0
 t3:= underlying3
 a3:= isAgg3
 z3:= sizeOf3
 v3:= zeroValue3
 t4:= underlying4
 a4:= isAgg4
 z4:= sizeOf4
 v4:= zeroValue4
 t9:= underlying9
 a9:= isAgg9
 z9:= sizeOf9
 v9:= zeroValue9
 t20:= underlying20
 a20:= isAgg20
 z20:= sizeOf20
 v20:= zeroValue20
 t31:= underlying34
 a31:= isAgg34
 z31:= sizeOf34
 v31:= zeroValue34
 t37:= underlying45
 a37:= isAgg45
 z37:= sizeOf45
 v37:= zeroValue45
 t70:= underlying181
 a70:= isAgg181
 z70:= sizeOf181
 v70:= zeroValue181
 t72:= underlying183
 a72:= isAgg183
 z72:= sizeOf183
 v72:= zeroValue183
 t75:= underlying185
 a75:= isAgg185
 z75:= sizeOf185
 v75:= zeroValue185
 t76:= underlying186
 a76:= isAgg186
 z76:= sizeOf186
 v76:= zeroValue186
 t127:= underlying229
 a127:= isAgg229
 z127:= sizeOf229
 v127:= zeroValue229
 t164:= underlying269
 a164:= isAgg269
 z164:= sizeOf269
 v164:= zeroValue269 }
def Tryz.PB:Builder.Extra prog Tryz.EU:={
 sizeBuilder:=kr
 liesBuilder:=kr
 t5:= underlying5
 a5:= isAgg5
 z5:= sizeOf5
 v5:= zeroValue5
 infoByte:=kr
 cellsByte:=kr
 sizeByte:=kr
 neB5:=by decide }
open Go.RowKit in
def strings_Join_none(a:Option Addr)(c:Nat)(sep:ByteArray)(w:World):
 Calls prog 199 #[.slice a 0 c,.string sep] w λe w'=>e=.returned (.string ⟨#[]⟩)/\w'=w:=Any.strings_Join_none Tryz.RG Tryz.PB a c sep w
open Go.RowKit in
def strings_Join(C o c:Nat)(xs:List ByteArray)(sep:ByteArray)(w:World)(J:∀ (j:Nat) x,xs[j]? =some x->w.cell? ⟨C,o+j,none⟩=some (.string x))(U:C<w.heap.size)(M:xs.length<=140737488355328)(sZ:xs.length<=c)(hlen:(Lib.join (xs.map (·.data.toList)) sep.data.toList).length<=140737488355328):
 Calls prog 199 #[.slice (some ⟨C,o,none⟩) xs.length c,.string sep] w λe w'=>e=.returned (.string ⟨(Lib.join (xs.map (·.data.toList)) sep.data.toList).toArray⟩)/\Below w.heap.size w w':=Any.strings_Join Tryz.RG Tryz.PB C o c xs sep w J U M sZ hlen
def agS:Go.Shelf.Ren:=⟨λ|171=>145|243=>200|246=>237|283=>247|284=>248|285=>249|286=>250|129=>256|317=>255|318=>257|319=>258|320=>259|337=>270|338=>271|n=>n,λ|3=>3|9=>9|2=>2|4=>4|171=>291|0=>0|53=>199|37=>45|5=>5|173=>294|212=>200|51=>300|20=>20|213=>301|46=>69|232=>316|233=>317|n=>n,λ|17=>0|18=>2|19=>3|n=>n⟩
def amA:Go.Proofs.LaysM.n171 prog agS:={
 mixed:=kr
 f129:= func256.trans (congrArg some kr)
 f171:= func145.trans (congrArg some kr)
 f243:= func200.trans (congrArg some kr)
 f246:= func237.trans (congrArg some kr)
 f283:= func247.trans (congrArg some kr)
 f284:= func248.trans (congrArg some kr)
 f285:= func249.trans (congrArg some kr)
 f286:= func250.trans (congrArg some kr)
 f317:= func255.trans (congrArg some kr)
 f318:= func257.trans (congrArg some kr)
 f319:= func258.trans (congrArg some kr)
 f320:= func259.trans (congrArg some kr)
 f337:= func270.trans (congrArg some kr)
 f338:= func271.trans (congrArg some kr)
 t0:= underlying0
 a0:= isAgg0
 z0:= sizeOf0
 v0:= zeroValue0
 t2:= underlying2
 a2:= isAgg2
 z2:= sizeOf2
 v2:= zeroValue2
 t3:= underlying3
 a3:= isAgg3
 z3:= sizeOf3
 v3:= zeroValue3
 t4:= underlying4
 a4:= isAgg4
 z4:= sizeOf4
 v4:= zeroValue4
 t5:= underlying5
 a5:= isAgg5
 z5:= sizeOf5
 v5:= zeroValue5
 t9:= underlying9
 a9:= isAgg9
 z9:= sizeOf9
 v9:= zeroValue9
 t20:= underlying20
 a20:= isAgg20
 z20:= sizeOf20
 v20:= zeroValue20
 t37:= underlying45
 a37:= isAgg45
 z37:= sizeOf45
 v37:= zeroValue45
 t46:= underlying69
 a46:= isAgg69
 z46:= sizeOf69
 v46:= zeroValue69
 t51:= underlying300
 a51:= isAgg300
 z51:= sizeOf300
 v51:= zeroValue300
 t53:= underlying199
 a53:= isAgg199
 z53:= sizeOf199
 v53:= zeroValue199
 t171:= underlying291
 a171:= isAgg291
 z171:= sizeOf291
 v171:= zeroValue291
 t173:= underlying294
 a173:= isAgg294
 z173:= sizeOf294
 v173:= zeroValue294
 t212:= underlying200
 a212:= isAgg200
 z212:= sizeOf200
 v212:= zeroValue200
 t213:= underlying301
 a213:= isAgg301
 z213:= sizeOf301
 t232:= underlying316
 a232:= isAgg316
 z232:= sizeOf316
 v232:= zeroValue316
 t233:= underlying317
 a233:= isAgg317
 z233:= sizeOf317
 v233:= zeroValue317
 g17:=kr
 g18:=kr
 g19:=kr
 i0:=kr
 i2:=kr
 i3:=kr
 i4:=kr
 i5:=kr
 i9:=kr
 i20:=kr
 i37:=kr
 i46:=kr
 i51:=kr
 i53:=kr
 i171:=kr
 i173:=kr
 i212:=kr
 i232:=kr
 i233:=kr
 m17:=kr
 m18:=kr
 m19:=by kernel_rfl }
end Go.Proofs
section
open Go Go.Proofs
namespace Go.Abs
open List
open Go.Proofs.Tryz
def apj{P:Program}{w:World}{name:String}{g:Nat}{cs:Array Value}(hg:P.globalNamed name=some g)(h:∃ e k,w.heap[g]? =some (.cells cs e k)):w.var? P name=some cs:=by
 let⟨e,k,h⟩:=h;unfold World.var?;rw[hg];simp[Option.bind_some,h]
def aks{w:World}{k:Nat}{os:Array Obj}:Kept w (Sort.grow (w.drewN k) os):=by
 refine⟨?_,λb hb=>?_,rfl,rfl⟩
 .show w.heap.size<=(w.heap++os).size;rw[Array.size_append];omega
 .show(w.heap++os)[b]? =_;rw[Array.getElem?_append_left hb]
def aio{w w':World}(h:Go.RowKit.Below w.heap.size w w'):Kept w w':=⟨h.size,h.block,h.os,h.output⟩
def amB(n:Int)(h0: -9223372036854775808<=n)(h1:n<=9223372036854775807)(w:World)(C:∀ t∈BQ,F4 w t):
 Calls prog 145 #[.int .i64 n] w λe w'=>e=.returned (.string ⟨(Lib.itoa n).toArray⟩)/\Kept w w':=by
 refine(Any.strconv_Itoa amA n h0 h1 w (apj (g:=0) kr (C (0,_) (.head _)))).mono λe w' h=>⟨h.1,?_⟩
 obtain⟨k,os,rfl⟩:=h.2;exact aks
def Us{n:Int}(h0: -9223372036854775808<=n)(h1:n<=9223372036854775807):aH prog 145 [I n] (S ⟨(Lib.itoa n).toArray⟩):=by
 refine⟨by kernel_rfl,by simp[Tr.s],λF w vs C hR=>?_⟩;let⟨hs,hr⟩:=hR
 have hv:vs= #[.int .i64 n]:=by
  have hs:vs.size=1:=hs;have h2:=(hr 0 _ vs[0] rfl (by simp[hs])).du.1;apply Array.ext
  .rw[hs];rfl
  .intro i hi _;have:i=0:=by omega
   subst this;exact h2
 subst hv;exact(amB n h0 h1 w λt ht=>(C.nR t ht).2).mono λe w' h=>⟨_,h.1,.s _ rfl,h.2⟩
def DE(l:List ByteArray)(sep:ByteArray):ByteArray:=⟨(Lib.join (l.map (·.data.toList)) sep.data.toList).toArray⟩
def NS{l:List ByteArray}{sep:ByteArray}(hl:l.length<=140737488355328)(hlen:(Lib.join (l.map (·.data.toList)) sep.data.toList).length<=140737488355328):aH prog 199 [fT l,S sep] (S (DE l sep)):=by
 refine⟨by kernel_rfl,by simp[Tr.s,rA],λF w vs hF hR=>?_⟩;let⟨hs,hr⟩:=hR;have hs:vs.size=2:=hs;have h1:=hr 0 _ vs[0] rfl (by simp[hs]);have h2:=(hr 1 _ vs[1] rfl (by simp[hs])).du.1
 have hv:vs= #[vs[0],.string sep]:=by
  apply Array.ext
  .exact hs
  .intro i hi _;have:i=0\/i=1:=by omega
   rcases this with rfl|rfl
   .rfl
   .exact h2
 rcases h1.Bx with⟨J,g2,a,cap,C⟩|⟨b,o,cap,C,M,h4,h5,h6,U,us,X,h9⟩
 .rw[C] at hv;rw[hv];have tv:l=[]:=s0 J
  subst tv;exact(strings_Join_none a cap sep w).mono λe w' h=>⟨_,h.1,.s _ rfl,h.2▸⟨bY _,λ_ _=>rfl,rfl,rfl⟩⟩
 .rw[C] at hv;rw[hv];refine(strings_Join b o cap l sep w (λj x hx=>?_) U hl M hlen).mono λe w' h=>⟨_,h.1,.s _ rfl,aio h.2⟩
  have hj:j<l.length:=(bQ.1 hx).1;have:=(h9 j (S x) (by simp[hx])).du.1;rw[(X j (s0 hj)).1,this]
end Go.Abs
end
