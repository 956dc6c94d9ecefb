/- Part 8. -/
import Derived.Test.YtnagfmlifobdiaaGreatDoorShareShapes4
import Derived.Test.YtnagfmlifobdiaaGreatDoorShareShapes7
import Derived.Ground.NamesProg
import Derived.Ground.SlgnProg
import Derived.Shelf.LaysM
import Derived.Shelf.Strconv.Itoa0
import Derived.Shelf.Strconv.Itoa1
import Derived.Shelf.Strconv.Itoa2
import Derived.Shelf.Strconv.Itoa3
import Derived.Shelf.Strings.Builder1
import Derived.Shelf.Strings.Builder2
import Derived.Shelf.Strings.OnBuilder
set_option linter.all false
namespace Go.Proofs
open Go.Shelf
def Tryz.Ba:Go.Shelf.Ren:=⟨fun|156=>199|165=>236|166=>119|169=>120|240=>160|241=>246|276=>225|277=>254|n=>n,fun|31=>34|9=>9|3=>3|4=>4|0=>0|20=>20|72=>183|76=>186|70=>181|37=>45|75=>185|127=>229|164=>269|5=>5|80=>188|n=>n,fun|n=>n⟩
theorem Tryz.My:Go.Proofs.Lays.n156 Tryz.prog Tryz.Ba:={
 mixed:=kr
 f156:= Tryz.func199.trans (congrArg some kr)
 f165:= Tryz.func236.trans (congrArg some kr)
 f166:= Tryz.func119.trans (congrArg some kr)
 f169:= Tryz.func120.trans (congrArg some kr)
 f240:= Tryz.func160.trans (congrArg some kr)
 f241:= Tryz.func246.trans (congrArg some kr)
 f276:= Tryz.func225.trans (congrArg some kr)
 f277:= Tryz.func254.trans (congrArg some kr)
 t0:= Tryz.underlying0
 a0:= Tryz.isAgg0
 z0:= Tryz.sizeOf0
 v0:= Tryz.zeroValue0
 t3:= Tryz.underlying3
 a3:= Tryz.isAgg3
 z3:= Tryz.sizeOf3
 v3:= Tryz.zeroValue3
 t4:= Tryz.underlying4
 a4:= Tryz.isAgg4
 z4:= Tryz.sizeOf4
 v4:= Tryz.zeroValue4
 t9:= Tryz.underlying9
 a9:= Tryz.isAgg9
 z9:= Tryz.sizeOf9
 v9:= Tryz.zeroValue9
 t20:= Tryz.underlying20
 a20:= Tryz.isAgg20
 z20:= Tryz.sizeOf20
 v20:= Tryz.zeroValue20
 t31:= Tryz.underlying34
 a31:= Tryz.isAgg34
 z31:= Tryz.sizeOf34
 v31:= Tryz.zeroValue34
 t37:= Tryz.underlying45
 a37:= Tryz.isAgg45
 z37:= Tryz.sizeOf45
 v37:= Tryz.zeroValue45
 t70:= Tryz.underlying181
 a70:= Tryz.isAgg181
 z70:= Tryz.sizeOf181
 v70:= Tryz.zeroValue181
 t72:= Tryz.underlying183
 a72:= Tryz.isAgg183
 z72:= Tryz.sizeOf183
 v72:= Tryz.zeroValue183
 t75:= Tryz.underlying185
 a75:= Tryz.isAgg185
 z75:= Tryz.sizeOf185
 v75:= Tryz.zeroValue185
 t76:= Tryz.underlying186
 a76:= Tryz.isAgg186
 z76:= Tryz.sizeOf186
 v76:= Tryz.zeroValue186
 t127:= Tryz.underlying229
 a127:= Tryz.isAgg229
 z127:= Tryz.sizeOf229
 v127:= Tryz.zeroValue229
 t164:= Tryz.underlying269
 a164:= Tryz.isAgg269
 z164:= Tryz.sizeOf269
 v164:= Tryz.zeroValue269 }
theorem Tryz.KL:Builder.Extra Tryz.prog Tryz.Ba:={
 sizeBuilder:=kr
 liesBuilder:=kr
 t5:= Tryz.underlying5
 a5:= Tryz.isAgg5
 z5:= Tryz.sizeOf5
 v5:= Tryz.zeroValue5
 infoByte:=kr
 cellsByte:=kr
 sizeByte:=kr
 neB5:=by decide }
open Go.RowKit in
theorem Tryz.strings_Join_none(a:Option Addr)(c:Nat)(sep:ByteArray)(w:World):
 Calls Tryz.prog 199 #[.slice a 0 c,.string sep] w fun e w'=>e=.returned (.string ⟨#[]⟩)/\w'=w:=Any.strings_Join_none Tryz.My Tryz.KL a c sep w
open Go.RowKit in
theorem Tryz.strings_Join(C o c:Nat)(xs:List ByteArray)(sep:ByteArray)(w:World)(O:∀ (j:Nat) x,xs[j]? =some x->w.cell? ⟨C,o+j,none⟩=some (.string x))(M:C<w.heap.size)(J:xs.length<=140737488355328)(pT:xs.length<=c)(hlen:(Lib.join (xs.map (·.data.toList)) sep.data.toList).length<=140737488355328):
 Calls Tryz.prog 199 #[.slice (some ⟨C,o,none⟩) xs.length c,.string sep] w fun e w'=>e=.returned (.string ⟨(Lib.join (xs.map (·.data.toList)) sep.data.toList).toArray⟩)/\Below w.heap.size w w':=Any.strings_Join Tryz.My Tryz.KL C o c xs sep w O M J pT hlen
def Tryz.aaw:Go.Shelf.Ren:=⟨fun|171=>145|243=>200|246=>237|283=>247|284=>248|285=>249|286=>250|129=>256|317=>255|318=>257|319=>258|320=>259|337=>270|338=>271|n=>n,fun|3=>3|9=>9|2=>2|4=>4|171=>291|0=>0|53=>199|37=>45|5=>5|173=>294|212=>200|51=>300|20=>20|213=>301|46=>69|232=>316|233=>317|n=>n,fun|17=>0|18=>2|19=>3|n=>n⟩
theorem Tryz.afn:Go.Proofs.LaysM.n171 Tryz.prog Tryz.aaw:={
 mixed:=kr
 f129:= Tryz.func256.trans (congrArg some kr)
 f171:= Tryz.func145.trans (congrArg some kr)
 f243:= Tryz.func200.trans (congrArg some kr)
 f246:= Tryz.func237.trans (congrArg some kr)
 f283:= Tryz.func247.trans (congrArg some kr)
 f284:= Tryz.func248.trans (congrArg some kr)
 f285:= Tryz.func249.trans (congrArg some kr)
 f286:= Tryz.func250.trans (congrArg some kr)
 f317:= Tryz.func255.trans (congrArg some kr)
 f318:= Tryz.func257.trans (congrArg some kr)
 f319:= Tryz.func258.trans (congrArg some kr)
 f320:= Tryz.func259.trans (congrArg some kr)
 f337:= Tryz.func270.trans (congrArg some kr)
 f338:= Tryz.func271.trans (congrArg some kr)
 t0:= Tryz.underlying0
 a0:= Tryz.isAgg0
 z0:= Tryz.sizeOf0
 v0:= Tryz.zeroValue0
 t2:= Tryz.underlying2
 a2:= Tryz.isAgg2
 z2:= Tryz.sizeOf2
 v2:= Tryz.zeroValue2
 t3:= Tryz.underlying3
 a3:= Tryz.isAgg3
 z3:= Tryz.sizeOf3
 v3:= Tryz.zeroValue3
 t4:= Tryz.underlying4
 a4:= Tryz.isAgg4
 z4:= Tryz.sizeOf4
 v4:= Tryz.zeroValue4
 t5:= Tryz.underlying5
 a5:= Tryz.isAgg5
 z5:= Tryz.sizeOf5
 v5:= Tryz.zeroValue5
 t9:= Tryz.underlying9
 a9:= Tryz.isAgg9
 z9:= Tryz.sizeOf9
 v9:= Tryz.zeroValue9
 t20:= Tryz.underlying20
 a20:= Tryz.isAgg20
 z20:= Tryz.sizeOf20
 v20:= Tryz.zeroValue20
 t37:= Tryz.underlying45
 a37:= Tryz.isAgg45
 z37:= Tryz.sizeOf45
 v37:= Tryz.zeroValue45
 t46:= Tryz.underlying69
 a46:= Tryz.isAgg69
 z46:= Tryz.sizeOf69
 v46:= Tryz.zeroValue69
 t51:= Tryz.underlying300
 a51:= Tryz.isAgg300
 z51:= Tryz.sizeOf300
 v51:= Tryz.zeroValue300
 t53:= Tryz.underlying199
 a53:= Tryz.isAgg199
 z53:= Tryz.sizeOf199
 v53:= Tryz.zeroValue199
 t171:= Tryz.underlying291
 a171:= Tryz.isAgg291
 z171:= Tryz.sizeOf291
 v171:= Tryz.zeroValue291
 t173:= Tryz.underlying294
 a173:= Tryz.isAgg294
 z173:= Tryz.sizeOf294
 v173:= Tryz.zeroValue294
 t212:= Tryz.underlying200
 a212:= Tryz.isAgg200
 z212:= Tryz.sizeOf200
 v212:= Tryz.zeroValue200
 t213:= Tryz.underlying301
 a213:= Tryz.isAgg301
 z213:= Tryz.sizeOf301
 t232:= Tryz.underlying316
 a232:= Tryz.isAgg316
 z232:= Tryz.sizeOf316
 v232:= Tryz.zeroValue316
 t233:= Tryz.underlying317
 a233:= Tryz.isAgg317
 z233:= Tryz.sizeOf317
 v233:= Tryz.zeroValue317
 g17:=kr
 g18:=kr
 g19:=kr
 i0:=kr
 i2:=kr
 i3:=kr
 i4:=kr
 i5:=kr
 i9:=kr
 i20:=kr
 i37:=kr
 i46:=kr
 i51:=kr
 i53:=kr
 i171:=kr
 i173:=kr
 i212:=kr
 i232:=kr
 i233:=kr
 m17:=kr
 m18:=kr
 m19:=by kernel_rfl }
end Go.Proofs
section
open Go Go.Abs Go.Proofs Go.Argus
namespace Go.Proofs.Tryz.K
theorem ahU{P:Program}{w:World}{name:String}{g:Nat}{cs:Array Value}(hg:P.globalNamed name=some g)(h:∃ e k,w.heap[g]? =some (.cells cs e k)):w.var? P name=some cs:=by
 obtain⟨e,k,h⟩:=h;unfold World.var?;rw[hg];simp only[Option.bind_some,h]
theorem adG{w:World}{k:Nat}{os:Array Obj}:Kept w (Sort.grow (w.drewN k) os):=by
 refine⟨?_,fun b hb=>?_,rfl,rfl⟩
 .show w.heap.size<=(w.heap++os).size;rw[Array.size_append];omega
 .show(w.heap++os)[b]? =_;rw[Array.getElem?_append_left hb]
theorem abT{w w':World}(h:Go.RowKit.Below w.heap.size w w'):Kept w w':=⟨h.size,h.block,h.os,h.output⟩
theorem afo(n:Int)(h0: -9223372036854775808<=n)(h1:n<=9223372036854775807)(w:World)(C:∀ t∈yx,B4 w t):
 Calls prog 145 #[.int .i64 n] w fun e w'=>e=.returned (.string ⟨(Lib.itoa n).toArray⟩)/\Kept w w':=by
 refine(Any.strconv_Itoa Tryz.afn n h0 h1 w (ahU (g:=0) kr (C (0,_) (.head _)))).mono fun e w' h=>⟨h.1,?_⟩
 obtain⟨k,os,rfl⟩:=h.2;exact adG
theorem O9{n:Int}(h0: -9223372036854775808<=n)(h1:n<=9223372036854775807):az prog 145 [I n] (S ⟨(Lib.itoa n).toArray⟩):=by
 refine⟨by kernel_rfl,by simp[Tr.s],fun F w vs C hR=>?_⟩;obtain⟨hs,hr⟩:=hR
 have hv:vs= #[.int .i64 n]:=by
  have hs:vs.size=1:=hs;have h2:=(hr 0 _ vs[0] rfl (by simp[hs])).cI.1;apply Array.ext
  .rw[hs];rfl
  .intro i hi _;have:i=0:=by omega
   subst this;exact h2
 subst hv;exact(afo n h0 h1 w fun t ht=>(C.lH t ht).2).mono fun e w' h=>⟨_,h.1,.s _ rfl,h.2⟩
def jY(l:List ByteArray)(sep:ByteArray):ByteArray:=⟨(Lib.join (l.map (·.data.toList)) sep.data.toList).toArray⟩
theorem Ju{l:List ByteArray}{sep:ByteArray}(hl:l.length<=140737488355328)(hlen:(Lib.join (l.map (·.data.toList)) sep.data.toList).length<=140737488355328):az prog 199 [ez l,S sep] (S (jY l sep)):=by
 refine⟨by kernel_rfl,by simp[Tr.s,oI],fun F w vs hF hR=>?_⟩;obtain⟨hs,hr⟩:=hR;have hs:vs.size=2:=hs;have h1:=hr 0 _ vs[0] rfl (by simp[hs]);have h2:=(hr 1 _ vs[1] rfl (by simp[hs])).cI.1
 have hv:vs= #[vs[0],.string sep]:=by
  apply Array.ext
  .exact hs
  .intro i hi _;have:i=0\/i=1:=by omega
   rcases this with rfl|rfl
   .rfl
   .exact h2
 rcases h1.wc with⟨J,g2,a,cap,C⟩|⟨b,o,cap,C,M,h4,h5,h6,O,us,U,X⟩
 .rw[C] at hv;rw[hv];have og:l=[]:=by simpa using J
  subst og;exact(Tryz.strings_Join_none a cap sep w).mono fun e w' h=>⟨_,h.1,.s _ rfl,h.2▸⟨bM _,fun _ _=>rfl,rfl,rfl⟩⟩
 .rw[C] at hv;rw[hv];refine(Tryz.strings_Join b o cap l sep w (fun j x hx=>?_) O hl M hlen).mono fun e w' h=>⟨_,h.1,.s _ rfl,abT h.2⟩
  have hj:j<l.length:=(bX.1 hx).1;have:=(X j (S x) (by simp[hx])).cI.1;rw[(U j (by simpa using hj)).1,this]
end Go.Proofs.Tryz.K
end
