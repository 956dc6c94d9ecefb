/- Part 10. -/
import Derived.Test.YtnagfmlifobdiaaGreatDoorShareShapes8
import Derived.Test.YtnagfmlifobdiaaGreatDoorShareShapes9
set_option linter.all false
set_option maxHeartbeats 1000000
section
open Go Go.Abs Go.Proofs Go.Argus
open Go.Shelf Go.RowKit
namespace Go.Proofs.Tryz.K
theorem UJ:Go.Proofs.Lays.n240 prog Tryz.Ba:={ Tryz.My with }
theorem Y8:Builder.X72 prog Tryz.Ba:={ Tryz.KL with }
set_option maxRecDepth 100000 in
theorem abl{T:TypeId}(hl:liesAt prog prog.depth T (2 / prog.cellsOf T) 0 183 1=true)(b:Nat)(w:World)(h0:w.cell? ⟨b,0,none⟩=some (.pointer none))(O:w.shape? b=some (T,2))(hfz:w.frozen? ⟨b,0,none⟩=false):
 Calls prog 160 #[.pointer (some ⟨b,0,none⟩)] w fun e w'=>e=.returned (.tuple #[])/\w'=w.setCell ⟨b,0,none⟩ (.pointer (some ⟨b,0,none⟩)):=by
 have L:=UJ;have X:=Y8;obtain⟨j,hj,C⟩:=dI.1 X.sizeBuilder;have mixed:=L.mixed;have t72:=L.t72;have a72:=L.a72;have z72:=L.z72;have M:=L.v72;have Y9:=run_underlying L.t72;have t70:=L.t70;have a70:=L.a70;have z70:=L.z70;have J:=L.v70;have Y':=run_underlying L.t70;have t9:=L.t9;have a9:=L.a9;have z9:=L.z9;have v9:=L.v9;have u9:=run_underlying L.t9;have t4:=L.t4;have a4:=L.a4;have z4:=L.z4;have v4:=L.v4;have u4:=run_underlying L.t4;have t164:=L.t164;have a164:=L.a164;have z164:=L.z164;have v164:=L.v164;have U:=run_underlying L.t164;show Calls prog (Tryz.Ba.f 240) _ _ _
 go_enter L.f240,Body.n240_ntmps Tryz.Ba
 go_wp2
 rw[Lib.run_to_unsafe w ⟨b,0,none⟩ L.t70 L.t164 hj (by rw[C];decide) O (Nat.zero_lt_succ 1)];simp only[Result.andThen];rw[Oper.upon_value]
 go_wp2
 rw[run_callFunc_extern L.f276 kr kr kr (e:=Extern.AbiNoEscape.same) kr];rw[Lib.run_noEscape];simp only[Result.andThen];rw[Oper.upon_value]
 go_wp2
 rw[Lib.run_from_unsafe w ⟨b,0,none⟩ L.t164 L.t70 hj O hl];simp only[Result.andThen];rw[Oper.upon_value]
 go_wp2
 go_end0
 exact⟨rfl,rfl⟩
theorem agk{m:Mem}{i:Nat}{r:Row}(h:m i=some r):up m i (some r)=m:=by
 funext j;by_cases hj:j=i
 .subst hj;rw[an,h]
 .rw[aZ _ _ hj]
theorem X6{m:Mem}{nx j:Nat}{u:Bool}{x:D}{T:TypeId}(hj:m j=some (.bs u x T))(hl:liesAt prog prog.depth T (2 / prog.cellsOf T) 0 183 1=true):
 gW prog 160 [.rp j 0] m nx fun d m' aD=>d=.bd []/\m'=up m j (some (.bs true x T))/\aD=nx:=by
 refine⟨by kernel_rfl,fun F β w vs hm M hR=>?_⟩;have hs:vs.size=1:=hR.1;have h0:=hR.2 0 _ vs[0] rfl (by simp[hs]);obtain⟨b,v,O,hv,hb,X,hx,h1⟩:=MV hm h0 hj
 have U:vs= #[.pointer (some ⟨b,0,none⟩)]:=by
  apply Array.ext
  .exact hs
  .intro i hi _;have:i=0:=by omega
   subst this;exact hv
 subst U;have J:w.cell? ⟨b,0,none⟩=some (.pointer (if u then some ⟨b,0,none⟩ else none)):=by rw[Lib.cell_of_heap hb];rfl
 cases u with
 |true=>
  refine(Any.Builder_copyCheck_used UJ Y8 b w J).mono fun e w' h=>?_;obtain⟨rfl,rfl⟩:=h;exact⟨_,_,_,_,β,rfl,⟨rfl,(agk hj).symm▸rfl,rfl⟩,hm,M,.bd [] [] rfl oS,Step.refl _ _,bM _,fun _ _ h=>h⟩
 |false=>
  refine(abl hl b w J (by simp[World.shape?,hb]) (by simp[World.frozen?,hb])).mono fun e w' h=>?_;obtain⟨rfl,rfl⟩:=h;have hh:(w.setCell ⟨b,0,none⟩ (.pointer (some ⟨b,0,none⟩))).heap[b]? =some (.cells #[.pointer (some ⟨b,0,none⟩),v] T (0,0)):=by simp[World.setCell,Array.getElem?_modify,hb]
  have ho:∀ k,k≠b->(w.setCell ⟨b,0,none⟩ (.pointer (some ⟨b,0,none⟩))).heap[k]? =w.heap[k]? :=fun k hk=>Below.heap_setCell _ _ _ _ hk;have bS:(w.setCell ⟨b,0,none⟩ (.pointer (some ⟨b,0,none⟩))).heap.size=w.heap.size:=by simp[World.setCell]
  have C:=DI hm O rfl oG ho;have iB:=hm.write O rfl bS ho (.bs true x T) (.bs true x T b v hh X (hx.step C) h1);exact⟨_,_,_,_,β,rfl,⟨rfl,rfl,rfl⟩,iB,M,.bd [] [] rfl oS,C,bM _,fun _ _ h=>h⟩
theorem agl:liesAt prog prog.depth 183 (2 / prog.cellsOf 183) 0 183 1=true:=kr
theorem UK:liesAt prog prog.depth 213 (2 / prog.cellsOf 213) 0 183 1=true:=kr
end Go.Proofs.Tryz.K
end
