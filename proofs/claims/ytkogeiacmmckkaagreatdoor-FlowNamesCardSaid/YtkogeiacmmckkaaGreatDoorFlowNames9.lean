/- Part 9. -/
import Derived.Test.YtkogeiacmmckkaaGreatDoorFlowNames8
set_option linter.all false
set_option maxHeartbeats 0
set_option maxRecDepth 10000
section
open Go Go.Proofs List
open Go.Shelf Go.RowKit
namespace Go.Abs
open Go.Proofs.Tryz
def WN:Go.Proofs.Lays.n240 prog Tryz.Di:={ Tryz.OU with }
def x72:Builder.X72 prog Tryz.Di:={ Tryz.MN with }
set_option maxRecDepth 100000 in
def adC{T:TypeId}(hl:liesAt prog prog.depth T (2 / prog.cellsOf T) 0 158 1=true)(b:Nat)(w:World)(h0:w.cell? ⟨b,0,none⟩=some (.pointer none))(U:w.shape? b=some (T,2))(hfz:w.frozen? ⟨b,0,none⟩=false):
 Calls prog 249 #[.pointer (some ⟨b,0,none⟩)] w λe w'=>e=.returned (.tuple #[])/\w'=w.setCell ⟨b,0,none⟩ (.pointer (some ⟨b,0,none⟩)):=by
 have L:=WN;have X:=x72;let⟨j,hj,C⟩:=eg.1 X.sizeBuilder;have mixed:=L.mixed;have t72:=L.t72;have a72:=L.a72;have z72:=L.z72;have O:=L.v72;have u72:=run_underlying L.t72;have t70:=L.t70;have a70:=L.a70;have z70:=L.z70;have J:=L.v70;have u70:=run_underlying L.t70;have t9:=L.t9;have a9:=L.a9;have z9:=L.z9;have v9:=L.v9;have u9:=run_underlying L.t9;have t4:=L.t4;have a4:=L.a4;have z4:=L.z4;have v4:=L.v4;have u4:=run_underlying L.t4;have t164:=L.t164;have a164:=L.a164;have z164:=L.z164;have v164:=L.v164;have atm:=run_underlying L.t164;show Calls prog (Tryz.Di.f 240) _ _ _
 go_enter L.f240,Body.n240_ntmps Tryz.Di
 go_wp2
 rw[Lib.run_to_unsafe w ⟨b,0,none⟩ L.t70 L.t164 hj (by rw[C];decide) U (Nat.zero_lt_succ 1)];simp[Result.andThen];rw[Oper.upon_value]
 go_wp2
 rw[run_callFunc_extern L.f276 kr kr kr (e:=Extern.AbiNoEscape.same) kr];rw[Lib.run_noEscape];simp[Result.andThen];rw[Oper.upon_value]
 go_wp2
 rw[Lib.run_from_unsafe w ⟨b,0,none⟩ L.t164 L.t70 hj U hl];simp[Result.andThen];rw[Oper.upon_value]
 go_wp2
 go_end0
 exact⟨rfl,rfl⟩
def aic{m:Mem}{i:Nat}{r:Row}(h:m i=some r):up m i (some r)=m:=by
 funext j;by_cases hj:j=i
 .subst hj;rw[ap,h]
 .rw[aW _ _ hj]
def aoy{m:Mem}{nx j:Nat}{u:Bool}{x:D}{T:TypeId}(hj:m j=some (.bs u x T))(hl:liesAt prog prog.depth T (2 / prog.cellsOf T) 0 158 1=true):
 iZ prog 249 [.rp j 0] m nx λd m' aw=>d=.bu []/\m'=up m j (some (.bs true x T))/\aw=nx:=by
 refine⟨by kernel_rfl,λF β w vs hm O hR=>?_⟩;have hs:vs.size=1:=hR.1;have h0:=hR.2 0 _ vs[0] rfl (by simp[hs]);let⟨b,v,U,hv,hb,hT,hx,h1⟩:=Pg hm h0 hj
 have X:vs= #[.pointer (some ⟨b,0,none⟩)]:=by
  apply Array.ext
  .exact hs
  .intro i hi _;have:i=0:=by omega
   subst this;exact hv
 subst X;have J:w.cell? ⟨b,0,none⟩=some (.pointer (if u then some ⟨b,0,none⟩ else none)):=by rw[Lib.cell_of_heap hb];rfl
 cases u with
 |true=>
  refine(Any.Builder_copyCheck_used WN x72 b w J).mono λe w' h=>?_;obtain⟨rfl,rfl⟩:=h;exact⟨_,_,_,_,β,rfl,⟨rfl,(aic hj).symm▸rfl,rfl⟩,hm,O,.bu [] [] rfl oS,Step.refl _ _,bK _,λ_ _ h=>h⟩
 |false=>
  refine(adC hl b w J (by simp[World.shape?,hb]) (by simp[World.frozen?,hb])).mono λe w' h=>?_;obtain⟨rfl,rfl⟩:=h;have hh:(w.setCell ⟨b,0,none⟩ (.pointer (some ⟨b,0,none⟩))).heap[b]? =some (.cells #[.pointer (some ⟨b,0,none⟩),v] T (0,0)):=by simp[World.setCell,Array.getElem?_modify,hb]
  have ho:∀ k,k≠b->(w.setCell ⟨b,0,none⟩ (.pointer (some ⟨b,0,none⟩))).heap[k]? =w.heap[k]? :=λk hk=>Below.heap_setCell _ _ _ _ hk;have bZ:(w.setCell ⟨b,0,none⟩ (.pointer (some ⟨b,0,none⟩))).heap.size=w.heap.size:=by simp[World.setCell]
  have C:=Dk hm U rfl oG ho;have ke:=hm.write U rfl bZ ho (.bs true x T) (.bs true x T b v hh hT (hx.step C) h1);exact⟨_,_,_,_,β,rfl,⟨rfl,rfl,rfl⟩,ke,O,.bu [] [] rfl oS,C,bK _,λ_ _ h=>h⟩
def aid:liesAt prog prog.depth 158 (2 / prog.cellsOf 158) 0 158 1=true:=kr
def aie:liesAt prog prog.depth 160 (2 / prog.cellsOf 160) 0 158 1=true:=kr
end Go.Abs
end
