/- Part 9. -/
import Derived.Test.YtkogeiacmmckkaaGreatDoorFlowMemory6
import Derived.Test.YtkogeiacmmckkaaGreatDoorFlowMemory8
set_option linter.all false
set_option maxHeartbeats 1000000
section
open Go Go.Abs Go.Proofs Go.Argus
open Go.Shelf Go.RowKit
namespace Go.Proofs.Tryz.K
theorem Rn:Go.Proofs.Lays.n240 prog Tryz.zg:={ Tryz.JG with }
theorem Wc:Builder.X72 prog Tryz.zg:={ Tryz.H4 with }
set_option maxRecDepth 100000 in
theorem Yp{T:TypeId}(hl:liesAt prog prog.depth T (2 / prog.cellsOf T) 0 158 1=true)(b:Nat)(w:World)(h0:w.cell? ⟨b,0,none⟩=some (.pointer none))(U:w.shape? b=some (T,2))(hfz:w.frozen? ⟨b,0,none⟩=false):
 Calls prog 249 #[.pointer (some ⟨b,0,none⟩)] w fun e w'=>e=.returned (.tuple #[])/\w'=w.setCell ⟨b,0,none⟩ (.pointer (some ⟨b,0,none⟩)):=by
 have L:=Rn;have X:=Wc;obtain⟨j,hj,C⟩:=cN.1 X.sizeBuilder;have mixed:=L.mixed;have t72:=L.t72;have a72:=L.a72;have z72:=L.z72;have O:=L.v72;have u72:=run_underlying L.t72;have t70:=L.t70;have a70:=L.a70;have z70:=L.z70;have J:=L.v70;have u70:=run_underlying L.t70;have t9:=L.t9;have a9:=L.a9;have z9:=L.z9;have v9:=L.v9;have u9:=run_underlying L.t9;have t4:=L.t4;have a4:=L.a4;have z4:=L.z4;have v4:=L.v4;have u4:=run_underlying L.t4;have t164:=L.t164;have a164:=L.a164;have z164:=L.z164;have v164:=L.v164;have amt:=run_underlying L.t164;show Calls prog (Tryz.zg.f 240) _ _ _
 go_enter L.f240,Body.n240_ntmps Tryz.zg
 go_wp2
 rw[Lib.run_to_unsafe w ⟨b,0,none⟩ L.t70 L.t164 hj (by rw[C];decide) U (Nat.zero_lt_succ 1)];simp only[Result.andThen];rw[Oper.upon_value]
 go_wp2
 rw[run_callFunc_extern L.f276 kr kr kr (e:=Extern.AbiNoEscape.same) kr];rw[Lib.run_noEscape];simp only[Result.andThen];rw[Oper.upon_value]
 go_wp2
 rw[Lib.run_from_unsafe w ⟨b,0,none⟩ L.t164 L.t70 hj U hl];simp only[Result.andThen];rw[Oper.upon_value]
 go_wp2
 go_end0
 exact⟨rfl,rfl⟩
theorem acC{m:Mem}{i:Nat}{r:Row}(h:m i=some r):up m i (some r)=m:=by
 funext j;by_cases hj:j=i
 .subst hj;rw[ai,h]
 .rw[aA _ _ hj]
theorem UR{m:Mem}{nx j:Nat}{u:Bool}{x:D}{T:TypeId}(hj:m j=some (.bs u x T))(hl:liesAt prog prog.depth T (2 / prog.cellsOf T) 0 158 1=true):
 dB prog 249 [.rp j 0] m nx fun d m' an=>d=.aT []/\m'=up m j (some (.bs true x T))/\an=nx:=by
 refine⟨by kernel_rfl,fun F β w vs hm O hR=>?_⟩;have hs:vs.size=1:=hR.1;have h0:=hR.2 0 _ vs[0] rfl (by simp[hs]);obtain⟨b,v,U,hv,hb,hT,hx,h1⟩:=J5 hm h0 hj
 have X:vs= #[.pointer (some ⟨b,0,none⟩)]:=by
  apply Array.ext
  .exact hs
  .intro i hi _;have:i=0:=by omega
   subst this;exact hv
 subst X;have J:w.cell? ⟨b,0,none⟩=some (.pointer (if u then some ⟨b,0,none⟩ else none)):=by rw[Lib.cell_of_heap hb];rfl
 cases u with
 |true=>
  refine(Any.Builder_copyCheck_used Rn Wc b w J).mono fun e w' h=>?_;obtain⟨rfl,rfl⟩:=h;exact⟨_,_,_,_,β,rfl,⟨rfl,(acC hj).symm▸rfl,rfl⟩,hm,O,.aT [] [] rfl oS,Step.refl _ _,a6 _,fun _ _ h=>h⟩
 |false=>
  refine(Yp hl b w J (by simp[World.shape?,hb]) (by simp[World.frozen?,hb])).mono fun e w' h=>?_;obtain⟨rfl,rfl⟩:=h;have hh:(w.setCell ⟨b,0,none⟩ (.pointer (some ⟨b,0,none⟩))).heap[b]? =some (.cells #[.pointer (some ⟨b,0,none⟩),v] T (0,0)):=by simp[World.setCell,Array.getElem?_modify,hb]
  have ho:∀ k,k≠b->(w.setCell ⟨b,0,none⟩ (.pointer (some ⟨b,0,none⟩))).heap[k]? =w.heap[k]? :=fun k hk=>Below.heap_setCell _ _ _ _ hk;have br:(w.setCell ⟨b,0,none⟩ (.pointer (some ⟨b,0,none⟩))).heap.size=w.heap.size:=by simp[World.setCell]
  have C:=Bv hm U rfl oG ho;have gn:=hm.write U rfl br ho (.bs true x T) (.bs true x T b v hh hT (hx.step C) h1);exact⟨_,_,_,_,β,rfl,⟨rfl,rfl,rfl⟩,gn,O,.aT [] [] rfl oS,C,a6 _,fun _ _ h=>h⟩
theorem acD:liesAt prog prog.depth 158 (2 / prog.cellsOf 158) 0 158 1=true:=kr
theorem Rp:liesAt prog prog.depth 160 (2 / prog.cellsOf 160) 0 158 1=true:=kr
end Go.Proofs.Tryz.K
end
