/- Part 8. -/
import Derived.Test.YtkogeiacmmckkaaGreatDoorFlowMemory4
import Derived.Test.YtkogeiacmmckkaaGreatDoorFlowMemory7
import Derived.Ground.NamesProg
import Derived.Ground.SlgnProg
import Derived.Shelf.LaysM
import Derived.Shelf.Strconv.Itoa0
import Derived.Shelf.Strconv.Itoa1
import Derived.Shelf.Strconv.Itoa2
import Derived.Shelf.Strconv.Itoa3
import Derived.Shelf.Strings.Builder1
import Derived.Shelf.Strings.Builder2
import Derived.Shelf.Strings.OnBuilder
set_option linter.all false
namespace Go.Proofs
open Go.Shelf
def Tryz.zg:Go.Shelf.Ren:=⟨fun|156=>183|165=>250|166=>182|169=>113|240=>249|241=>300|276=>299|277=>333|n=>n,fun|31=>23|9=>9|3=>3|4=>4|0=>0|20=>20|72=>158|76=>239|70=>156|37=>22|75=>238|127=>245|164=>319|5=>5|80=>166|n=>n,fun|n=>n⟩
theorem Tryz.JG:Go.Proofs.Lays.n156 Tryz.prog Tryz.zg:={
 mixed:=kr
 f156:= Tryz.func183.trans (congrArg some kr)
 f165:= Tryz.func250.trans (congrArg some kr)
 f166:= Tryz.func182.trans (congrArg some kr)
 f169:= Tryz.func113.trans (congrArg some kr)
 f240:= Tryz.func249.trans (congrArg some kr)
 f241:= Tryz.func300.trans (congrArg some kr)
 f276:= Tryz.func299.trans (congrArg some kr)
 f277:= Tryz.func333.trans (congrArg some kr)
 t0:= Tryz.underlying0
 a0:= Tryz.isAgg0
 z0:= Tryz.sizeOf0
 v0:= Tryz.zeroValue0
 t3:= Tryz.underlying3
 a3:= Tryz.isAgg3
 z3:= Tryz.sizeOf3
 v3:= Tryz.zeroValue3
 t4:= Tryz.underlying4
 a4:= Tryz.isAgg4
 z4:= Tryz.sizeOf4
 v4:= Tryz.zeroValue4
 t9:= Tryz.underlying9
 a9:= Tryz.isAgg9
 z9:= Tryz.sizeOf9
 v9:= Tryz.zeroValue9
 t20:= Tryz.underlying20
 a20:= Tryz.isAgg20
 z20:= Tryz.sizeOf20
 v20:= Tryz.zeroValue20
 t31:= Tryz.underlying23
 a31:= Tryz.isAgg23
 z31:= Tryz.sizeOf23
 v31:= Tryz.zeroValue23
 t37:= Tryz.underlying22
 a37:= Tryz.isAgg22
 z37:= Tryz.sizeOf22
 v37:= Tryz.zeroValue22
 t70:= Tryz.underlying156
 a70:= Tryz.isAgg156
 z70:= Tryz.sizeOf156
 v70:= Tryz.zeroValue156
 t72:= Tryz.underlying158
 a72:= Tryz.isAgg158
 z72:= Tryz.sizeOf158
 v72:= Tryz.zeroValue158
 t75:= Tryz.underlying238
 a75:= Tryz.isAgg238
 z75:= Tryz.sizeOf238
 v75:= Tryz.zeroValue238
 t76:= Tryz.underlying239
 a76:= Tryz.isAgg239
 z76:= Tryz.sizeOf239
 v76:= Tryz.zeroValue239
 t127:= Tryz.underlying245
 a127:= Tryz.isAgg245
 z127:= Tryz.sizeOf245
 v127:= Tryz.zeroValue245
 t164:= Tryz.underlying319
 a164:= Tryz.isAgg319
 z164:= Tryz.sizeOf319
 v164:= Tryz.zeroValue319 }
theorem Tryz.H4:Builder.Extra Tryz.prog Tryz.zg:={
 sizeBuilder:=kr
 liesBuilder:=kr
 t5:= Tryz.underlying5
 a5:= Tryz.isAgg5
 z5:= Tryz.sizeOf5
 v5:= Tryz.zeroValue5
 infoByte:=kr
 cellsByte:=kr
 sizeByte:=kr
 neB5:=by decide }
open Go.RowKit in
theorem Tryz.strings_Join_none(a:Option Addr)(c:Nat)(sep:ByteArray)(w:World):
 Calls Tryz.prog 183 #[.slice a 0 c,.string sep] w fun e w'=>e=.returned (.string ⟨#[]⟩)/\w'=w:=Any.strings_Join_none Tryz.JG Tryz.H4 a c sep w
open Go.RowKit in
theorem Tryz.strings_Join(C o c:Nat)(xs:List ByteArray)(sep:ByteArray)(w:World)(U:∀ (j:Nat) x,xs[j]? =some x->w.cell? ⟨C,o+j,none⟩=some (.string x))(O:C<w.heap.size)(J:xs.length<=140737488355328)(nL:xs.length<=c)(hlen:(Lib.join (xs.map (·.data.toList)) sep.data.toList).length<=140737488355328):
 Calls Tryz.prog 183 #[.slice (some ⟨C,o,none⟩) xs.length c,.string sep] w fun e w'=>e=.returned (.string ⟨(Lib.join (xs.map (·.data.toList)) sep.data.toList).toArray⟩)/\Below w.heap.size w w':=Any.strings_Join Tryz.JG Tryz.H4 C o c xs sep w U O J nL hlen
def Tryz.XD:Go.Shelf.Ren:=⟨fun|171=>109|243=>184|246=>251|283=>301|284=>302|285=>303|286=>304|129=>261|317=>334|318=>335|319=>336|320=>337|337=>352|338=>353|n=>n,fun|3=>3|9=>9|2=>2|4=>4|171=>321|0=>0|53=>199|37=>22|5=>5|173=>323|212=>200|51=>300|20=>20|213=>350|46=>62|232=>374|233=>375|n=>n,fun|17=>0|18=>6|19=>7|n=>n⟩
theorem Tryz.abS:Go.Proofs.LaysM.n171 Tryz.prog Tryz.XD:={
 mixed:=kr
 f129:= Tryz.func261.trans (congrArg some kr)
 f171:= Tryz.func109.trans (congrArg some kr)
 f243:= Tryz.func184.trans (congrArg some kr)
 f246:= Tryz.func251.trans (congrArg some kr)
 f283:= Tryz.func301.trans (congrArg some kr)
 f284:= Tryz.func302.trans (congrArg some kr)
 f285:= Tryz.func303.trans (congrArg some kr)
 f286:= Tryz.func304.trans (congrArg some kr)
 f317:= Tryz.func334.trans (congrArg some kr)
 f318:= Tryz.func335.trans (congrArg some kr)
 f319:= Tryz.func336.trans (congrArg some kr)
 f320:= Tryz.func337.trans (congrArg some kr)
 f337:= Tryz.func352.trans (congrArg some kr)
 f338:= Tryz.func353.trans (congrArg some kr)
 t0:= Tryz.underlying0
 a0:= Tryz.isAgg0
 z0:= Tryz.sizeOf0
 v0:= Tryz.zeroValue0
 t2:= Tryz.underlying2
 a2:= Tryz.isAgg2
 z2:= Tryz.sizeOf2
 v2:= Tryz.zeroValue2
 t3:= Tryz.underlying3
 a3:= Tryz.isAgg3
 z3:= Tryz.sizeOf3
 v3:= Tryz.zeroValue3
 t4:= Tryz.underlying4
 a4:= Tryz.isAgg4
 z4:= Tryz.sizeOf4
 v4:= Tryz.zeroValue4
 t5:= Tryz.underlying5
 a5:= Tryz.isAgg5
 z5:= Tryz.sizeOf5
 v5:= Tryz.zeroValue5
 t9:= Tryz.underlying9
 a9:= Tryz.isAgg9
 z9:= Tryz.sizeOf9
 v9:= Tryz.zeroValue9
 t20:= Tryz.underlying20
 a20:= Tryz.isAgg20
 z20:= Tryz.sizeOf20
 v20:= Tryz.zeroValue20
 t37:= Tryz.underlying22
 a37:= Tryz.isAgg22
 z37:= Tryz.sizeOf22
 v37:= Tryz.zeroValue22
 t46:= Tryz.underlying62
 a46:= Tryz.isAgg62
 z46:= Tryz.sizeOf62
 v46:= Tryz.zeroValue62
 t51:= Tryz.underlying300
 a51:= Tryz.isAgg300
 z51:= Tryz.sizeOf300
 v51:= Tryz.zeroValue300
 t53:= Tryz.underlying199
 a53:= Tryz.isAgg199
 z53:= Tryz.sizeOf199
 v53:= Tryz.zeroValue199
 t171:= Tryz.underlying321
 a171:= Tryz.isAgg321
 z171:= Tryz.sizeOf321
 v171:= Tryz.zeroValue321
 t173:= Tryz.underlying323
 a173:= Tryz.isAgg323
 z173:= Tryz.sizeOf323
 v173:= Tryz.zeroValue323
 t212:= Tryz.underlying200
 a212:= Tryz.isAgg200
 z212:= Tryz.sizeOf200
 v212:= Tryz.zeroValue200
 t213:= Tryz.underlying350
 a213:= Tryz.isAgg350
 z213:= Tryz.sizeOf350
 t232:= Tryz.underlying374
 a232:= Tryz.isAgg374
 z232:= Tryz.sizeOf374
 v232:= Tryz.zeroValue374
 t233:= Tryz.underlying375
 a233:= Tryz.isAgg375
 z233:= Tryz.sizeOf375
 v233:= Tryz.zeroValue375
 g17:=kr
 g18:=kr
 g19:=kr
 i0:=kr
 i2:=kr
 i3:=kr
 i4:=kr
 i5:=kr
 i9:=kr
 i20:=kr
 i37:=kr
 i46:=kr
 i51:=kr
 i53:=kr
 i171:=kr
 i173:=kr
 i212:=kr
 i232:=kr
 i233:=kr
 m17:=kr
 m18:=kr
 m19:=by kernel_rfl }
end Go.Proofs
section
open Go Go.Abs Go.Proofs Go.Argus
namespace Go.Proofs.Tryz.K
theorem adY{P:Program}{w:World}{name:String}{g:Nat}{cs:Array Value}(hg:P.globalNamed name=some g)(h:∃ e k,w.heap[g]? =some (.cells cs e k)):w.var? P name=some cs:=by
 obtain⟨e,k,h⟩:=h;unfold World.var?;rw[hg];simp only[Option.bind_some,h]
theorem Z4{w:World}{k:Nat}{os:Array Obj}:Kept w (Sort.grow (w.drewN k) os):=by
 refine⟨?_,fun b hb=>?_,rfl,rfl⟩
 .show w.heap.size<=(w.heap++os).size;rw[Array.size_append];omega
 .show(w.heap++os)[b]? =_;rw[Array.getElem?_append_left hb]
theorem YH{w w':World}(h:Go.RowKit.Below w.heap.size w w'):Kept w w':=⟨h.size,h.block,h.os,h.output⟩
theorem abT(n:Int)(h0: -9223372036854775808<=n)(h1:n<=9223372036854775807)(w:World)(C:∀ t∈vD,Ae w t):
 Calls prog 109 #[.int .i64 n] w fun e w'=>e=.returned (.string ⟨(Lib.itoa n).toArray⟩)/\Kept w w':=by
 refine(Any.strconv_Itoa Tryz.abS n h0 h1 w (adY (g:=0) kr (C (0,_) (.head _)))).mono fun e w' h=>⟨h.1,?_⟩
 obtain⟨k,os,rfl⟩:=h.2;exact Z4
theorem Ms{n:Int}(h0: -9223372036854775808<=n)(h1:n<=9223372036854775807):aG prog 109 [I n] (S ⟨(Lib.itoa n).toArray⟩):=by
 refine⟨by kernel_rfl,by simp[Tr.s],fun F w vs C hR=>?_⟩;obtain⟨hs,hr⟩:=hR
 have hv:vs= #[.int .i64 n]:=by
  have hs:vs.size=1:=hs;have h2:=(hr 0 _ vs[0] rfl (by simp[hs])).cm.1;apply Array.ext
  .rw[hs];rfl
  .intro i hi _;have:i=0:=by omega
   subst this;exact h2
 subst hv;exact(abT n h0 h1 w fun t ht=>(C.fH t ht).2).mono fun e w' h=>⟨_,h.1,.s _ rfl,h.2⟩
def xV(l:List ByteArray)(sep:ByteArray):ByteArray:=⟨(Lib.join (l.map (·.data.toList)) sep.data.toList).toArray⟩
theorem G4{l:List ByteArray}{sep:ByteArray}(hl:l.length<=140737488355328)(hlen:(Lib.join (l.map (·.data.toList)) sep.data.toList).length<=140737488355328):aG prog 183 [iz l,S sep] (S (xV l sep)):=by
 refine⟨by kernel_rfl,by simp[Tr.s,uU],fun F w vs hF hR=>?_⟩;obtain⟨hs,hr⟩:=hR;have hs:vs.size=2:=hs;have h1:=hr 0 _ vs[0] rfl (by simp[hs]);have h2:=(hr 1 _ vs[1] rfl (by simp[hs])).cm.1
 have hv:vs= #[vs[0],.string sep]:=by
  apply Array.ext
  .exact hs
  .intro i hi _;have:i=0\/i=1:=by omega
   rcases this with rfl|rfl
   .rfl
   .exact h2
 rcases h1.tf with⟨J,g2,a,cap,C⟩|⟨b,o,cap,C,O,h4,h5,h6,U,us,X,h9⟩
 .rw[C] at hv;rw[hv];have jP:l=[]:=by simpa using J
  subst jP;exact(Tryz.strings_Join_none a cap sep w).mono fun e w' h=>⟨_,h.1,.s _ rfl,h.2▸⟨a6 _,fun _ _=>rfl,rfl,rfl⟩⟩
 .rw[C] at hv;rw[hv];refine(Tryz.strings_Join b o cap l sep w (fun j x hx=>?_) U hl O hlen).mono fun e w' h=>⟨_,h.1,.s _ rfl,YH h.2⟩
  have hj:j<l.length:=(bU.1 hx).1;have:=(h9 j (S x) (by simp[hx])).cm.1;rw[(X j (by simpa using hj)).1,this]
end Go.Proofs.Tryz.K
end
