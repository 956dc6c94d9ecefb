/- Part 14 of the proof; the last part says what is proved. -/
import Derived.Test.YtkogeiacmmckkaaGreatDoorFlowReads11
import Derived.Test.YtkogeiacmmckkaaGreatDoorFlowReads13
set_option linter.all false
section
open Go Go.Abs Go.Proofs Go.Argus
open Go.Shelf Go.RowKit
namespace Go.Proofs.Tryz.K
theorem lays240:Go.Proofs.Lays.n240 Tryz.prog Tryz.lays156_ren:={ Tryz.lays156 with }
theorem x72:Builder.X72 Tryz.prog Tryz.lays156_ren:={ Tryz.Builder_Extra_156 with }
set_option maxHeartbeats 1000000 in
set_option maxRecDepth 100000 in
theorem copy_fresh {T:TypeId} (hl:liesAt Tryz.prog Tryz.prog.depth T (2 / Tryz.prog.cellsOf T) 0 158 1=true) (b:Nat) (w:World) (h0:w.cell? ⟨b,0,none⟩=some (.pointer none)) (hsh:w.shape? b=some (T,2)) (hfz:w.frozen? ⟨b,0,none⟩=false):
    Calls Tryz.prog 249 #[.pointer (some ⟨b,0,none⟩)] w fun e w'=>e=.returned (.tuple #[])∧w'=w.setCell ⟨b,0,none⟩ (.pointer (some ⟨b,0,none⟩)):=by
  have L:=lays240
  have X:=x72
  obtain ⟨j,hj,hjs⟩:=Option.map_eq_some_iff.1 X.sizeBuilder
  have mixed:=L.mixed
  have t72:=L.t72;have a72:=L.a72;have z72:=L.z72;have v72:=L.v72;have u72:=run_underlying L.t72
  have t70:=L.t70;have a70:=L.a70;have z70:=L.z70;have v70:=L.v70;have u70:=run_underlying L.t70
  have t9:=L.t9;have a9:=L.a9;have z9:=L.z9;have v9:=L.v9;have u9:=run_underlying L.t9
  have t4:=L.t4;have a4:=L.a4;have z4:=L.z4;have v4:=L.v4;have u4:=run_underlying L.t4
  have t164:=L.t164;have a164:=L.a164;have z164:=L.z164;have v164:=L.v164;have u164:=run_underlying L.t164
  show Calls Tryz.prog (Tryz.lays156_ren.f 240) _ _ _
  go_enter L.f240,Body.n240_ntmps Tryz.lays156_ren
  go_wp2
  rw [Lib.run_to_unsafe w ⟨b,0,none⟩ L.t70 L.t164 hj (by rw [hjs];decide) hsh (Nat.zero_lt_succ 1)]
  simp only [Result.andThen]
  rw [Oper.upon_value]
  go_wp2
  rw [run_callFunc_extern L.f276 (by kernel_rfl) (by kernel_rfl) (by kernel_rfl) (e:=Extern.AbiNoEscape.same) (by kernel_rfl)]
  rw [Lib.run_noEscape]
  simp only [Result.andThen]
  rw [Oper.upon_value]
  go_wp2
  rw [Lib.run_from_unsafe w ⟨b,0,none⟩ L.t164 L.t70 hj hsh hl]
  simp only [Result.andThen]
  rw [Oper.upon_value]
  go_wp2
  go_end0
  exact ⟨rfl,rfl⟩
theorem up_self {m:Mem} {i:Nat} {r:Row} (h:m i=some r):up m i (some r)=m:=by
  funext j
  by_cases hj:j=i
  · subst hj;rw [up_same,h]
  · rw [up_ne _ _ hj]
theorem k249 {m:Mem} {nx j:Nat} {u:Bool} {x:D} {T:TypeId} (hj:m j=some (.bs u x T)) (hl:liesAt Tryz.prog Tryz.prog.depth T (2 / Tryz.prog.cellsOf T) 0 158 1=true):
    ACalls Tryz.prog 249 [.rp j 0] m nx fun d m' nx'=>d=.tup []∧m'=up m j (some (.bs true x T))∧nx'=nx:=by
  refine ⟨by kernel_rfl,fun F β w vs hm hnx hR=>?_⟩
  have hs:vs.size=1:=hR.1
  have h0:=hR.2 0 _ vs[0] rfl (by simp [hs])
  obtain ⟨b,v,hβ,hv,hb,hT,hx,h1⟩:=bs_inv hm h0 hj
  have hvs:vs= #[.pointer (some ⟨b,0,none⟩)]:=by
    apply Array.ext
    · exact hs
    · intro i hi _
      have:i=0:=by omega
      subst this
      exact hv
  subst hvs
  have c0:w.cell? ⟨b,0,none⟩=some (.pointer (if u then some ⟨b,0,none⟩ else none)):=by rw [Lib.cell_of_heap hb];rfl
  cases u with
  | true=>
    refine (Any.Builder_copyCheck_used lays240 x72 b w c0).mono fun e w' h=>?_
    obtain ⟨rfl,rfl⟩:=h
    exact ⟨_,_,_,_,β,rfl,⟨rfl,(up_self hj).symm▸rfl,rfl⟩,hm,hnx,.tup [] [] rfl (by simp),Step.refl _ _,Nat.le_refl _,fun _ _ h=>h⟩
  | false=>
    refine (copy_fresh hl b w c0 (by simp [World.shape?,hb]) (by simp [World.frozen?,hb])).mono fun e w' h=>?_
    obtain ⟨rfl,rfl⟩:=h
    have hh:(w.setCell ⟨b,0,none⟩ (.pointer (some ⟨b,0,none⟩))).heap[b]? =some (.cells #[.pointer (some ⟨b,0,none⟩),v] T (0,0)):=by simp [World.setCell,Array.getElem?_modify,hb]
    have ho:∀ k,k≠b→(w.setCell ⟨b,0,none⟩ (.pointer (some ⟨b,0,none⟩))).heap[k]? =w.heap[k]? :=fun k hk=>Below.heap_setCell _ _ _ _ hk
    have hsz:(w.setCell ⟨b,0,none⟩ (.pointer (some ⟨b,0,none⟩))).heap.size=w.heap.size:=by simp [World.setCell]
    have hst:=step_write hm hβ rfl (by omega) ho
    have hm':=hm.write hβ rfl hsz ho (.bs true x T) (.bs true x T b v hh hT (hx.step hst) h1)
    exact ⟨_,_,_,_,β,rfl,⟨rfl,rfl,rfl⟩,hm',hnx,.tup [] [] rfl (by simp),hst,Nat.le_refl _,fun _ _ h=>h⟩
theorem lies158:liesAt Tryz.prog Tryz.prog.depth 158 (2 / Tryz.prog.cellsOf 158) 0 158 1=true:=by kernel_rfl
theorem lies160:liesAt Tryz.prog Tryz.prog.depth 160 (2 / Tryz.prog.cellsOf 160) 0 158 1=true:=by kernel_rfl
end Go.Proofs.Tryz.K
end
