/- Part 24 of the proof; the last part says what is proved. -/
import Derived.Test.YtkogeiacmmckkaaGreatDoorFlowReads4
import Derived.Test.YtkogeiacmmckkaaGreatDoorFlowReads8
import Derived.Test.YtkogeiacmmckkaaGreatDoorFlowReads23
import Derived.Handed
import Derived.KernelRfl
import Derived.LaidLaws
import Derived.Stop.Joined
import Derived.Test.YtkogeiacmmckkaaGreatDoorRows
set_option linter.all false
namespace Go.Argus
open Go.Abs
def stSh:List Sh→Sh
  | []=>.unit
  | s::l=>.pair s (stSh l)
abbrev i64Sh:Sh:=.int .i64
abbrev u8Sh:Sh:=.int .u8
abbrev insSh:Sh:=.pair u8Sh (.pair i64Sh (.pair i64Sh (.pair i64Sh (.pair i64Sh (.pair (.sl i64Sh) .unit)))))
abbrev whenSh:Sh:=.pair .str (.pair i64Sh .unit)
abbrev endSh:Sh:=.pair u8Sh (.pair i64Sh (.pair i64Sh (.pair i64Sh (.pair i64Sh (.pair .str (.pair insSh (.pair (.sl i64Sh) (.pair (.sl whenSh) (.pair i64Sh .unit)))))))))
abbrev blockSh:Sh:=.pair (.sl insSh) (.pair endSh .unit)
abbrev flowSh:Sh:=.pair .str (.pair .bool (.pair i64Sh (.pair u8Sh (.pair (.sl u8Sh) (.pair (.sl u8Sh) (.pair (.sl .str) (.pair (.sl blockSh) .unit)))))))
def insOf (x:insSh.val):Ins:=⟨x.1,x.2.1,x.2.2.1,x.2.2.2.1,x.2.2.2.2.1,x.2.2.2.2.2.1⟩
def whenOf (x:whenSh.val):When:=⟨x.1,x.2.1⟩
def endOf (x:endSh.val):End:=⟨x.1,x.2.1,x.2.2.1,x.2.2.2.1,x.2.2.2.2.1,x.2.2.2.2.2.1,insOf x.2.2.2.2.2.2.1,x.2.2.2.2.2.2.2.1,List.map whenOf x.2.2.2.2.2.2.2.2.1,x.2.2.2.2.2.2.2.2.2.1⟩
def blockOf (x:blockSh.val):Block:=⟨List.map insOf x.1,endOf x.2.1⟩
def flowOf (x:flowSh.val):Flow:=⟨x.1,x.2.1,x.2.2.1,x.2.2.2.1,x.2.2.2.2.1,x.2.2.2.2.2.1,x.2.2.2.2.2.2.1,List.map blockOf x.2.2.2.2.2.2.2.1⟩
theorem sl_int {k:IntKind} (l:List Int):D.sl (List.flatMap (Sh.enc (.int k)) l) l.length=.sl (l.map fun n=>.s (.int k n)) l.length:=congrArg (D.sl · l.length) (flat_one (fun n=>D.s (.int k n)) l)
theorem sl_str (l:List ByteArray):D.sl (List.flatMap (Sh.enc .str) l) l.length=encStrs l:=congrArg (D.sl · l.length) (flat_one S l)
theorem sl_of {s:Sh} {β:Type} {g:β→List D} {h:s.val→β} (he:∀ x,s.enc x=g (h x)) (l:List s.val):D.sl (List.flatMap s.enc l) l.length=.sl ((l.map h).flatMap g) (l.map h).length:=by
  rw [flat_congr he l,List.length_map]
theorem c1' {α β:Type} (f:α→β) {a a':α} (h:a=a'):f a=f a':=by rw [h]
theorem c2' {α β γ:Type} (f:α→β→γ) {a a':α} {b b':β} (h:a=a') (h2:b=b'):f a b=f a' b':=by rw [h,h2]
theorem c3' {α β γ δ:Type} (f:α→β→γ→δ) {a a':α} {b b':β} {c c':γ} (h:a=a') (h2:b=b') (h3:c=c'):f a b c=f a' b' c':=by rw [h,h2,h3]
theorem c4' {α β γ δ ε:Type} (f:α→β→γ→δ→ε) {a a':α} {b b':β} {c c':γ} {d d':δ} (h:a=a') (h2:b=b') (h3:c=c') (h4:d=d'):f a b c d=f a' b' c' d':=by rw [h,h2,h3,h4]
theorem enc_ints (l:List Int):(Sh.sl i64Sh).arg l=encInts l:=sl_int l
theorem enc_ins (x:insSh.val):insSh.enc x=encIns (insOf x):=
  c1' (fun q=>[U8 x.1,I x.2.1,I x.2.2.1,I x.2.2.2.1,I x.2.2.2.2.1,q]) (sl_int (k:=.i64) x.2.2.2.2.2.1)
theorem enc_when (x:whenSh.val):whenSh.enc x=encWhen (whenOf x):=rfl
theorem enc_end (x:endSh.val):endSh.enc x=encEnd (endOf x):=
  c3' (fun a b c=>[U8 x.1,I x.2.1,I x.2.2.1,I x.2.2.2.1,I x.2.2.2.2.1,S x.2.2.2.2.2.1]++(a++[b,c,I x.2.2.2.2.2.2.2.2.2.1])) (enc_ins x.2.2.2.2.2.2.1) (sl_int (k:=.i64) x.2.2.2.2.2.2.2.1) (sl_of enc_when x.2.2.2.2.2.2.2.2.1)
theorem enc_block (x:blockSh.val):blockSh.enc x=encBlock (blockOf x):=by
  have:=c2' (fun a b=>a::(b++[])) (sl_of enc_ins x.1) (enc_end x.2.1)
  refine Eq.trans this ?_
  rw [List.append_nil]
  rfl
theorem enc_flowE (x:flowSh.val):flowSh.enc x=encFlow (flowOf x):=
  c4' (fun a b c d=>[S x.1,B x.2.1,I x.2.2.1,U8 x.2.2.2.1,a,b,c,d]) (sl_int (k:=.u8) x.2.2.2.2.1) (sl_int (k:=.u8) x.2.2.2.2.2.1) (sl_str x.2.2.2.2.2.2.1) (sl_of enc_block x.2.2.2.2.2.2.2.1)
theorem enc_flow (x:flowSh.val):flowSh.arg x=.agg (encFlow (flowOf x)):=
  c4' (fun a b c d=>D.agg [S x.1,B x.2.1,I x.2.2.1,U8 x.2.2.2.1,a,b,c,d]) (sl_int (k:=.u8) x.2.2.2.2.1) (sl_int (k:=.u8) x.2.2.2.2.2.1) (sl_str x.2.2.2.2.2.2.1) (sl_of enc_block x.2.2.2.2.2.2.2.1)
theorem arg_ins (x:insSh.val):insSh.arg x=.agg (encIns (insOf x)):=congrArg D.agg (enc_ins x)
theorem arg_end (x:endSh.val):endSh.arg x=.agg (encEnd (endOf x)):=congrArg D.agg (enc_end x)
end Go.Argus
namespace Go.Proofs.YtkogeiacmmckkaaGreatDoor
open Go.Abs Go.Argus
set_option maxRecDepth 100000
theorem ownK:ownKnob Tryz.prog.godebug=none:=by kernel_rfl
theorem laidOut:laidOutB Tryz.prog=true:=by kernel_rfl
theorem boolT: Tryz.prog.underlying 4=some .bool:=by kernel_rfl
noncomputable abbrev laidL:List (String×DataW Unit):=Rows.flowReadsRow.laid
def pow10L:List Int:=[1,10,100,1000,10000,100000,1000000,10000000,100000000,1000000000,10000000000,100000000000,1000000000000,10000000000000,100000000000000,1000000000000000,10000000000000000,100000000000000000,1000000000000000000,10000000000000000000]
theorem pow10_laid:∃ nm,(nm,DataW.agg (pow10L.map fun n=>DataW.lit (.int .u64 n)))∈laidL∧ Tryz.prog.globalNamed nm=some 0:=⟨_,.tail _ (.tail _ (.head _)),by kernel_rfl⟩
theorem plain_laid (w:World):laidMetH Tryz.prog laidL w=laidMet Tryz.prog laidL w:=MakeChecks.laidMetH_plain _ _ _ (by kernel_rfl)
theorem fb_laid {W:World} (h:laidMetH Tryz.prog laidL W):FB (fun b=>b=0) W∧OnlyU (fun b=>b=0) W:=by
  rw [plain_laid] at h
  obtain ⟨nm,hm,hg⟩:=pow10_laid
  obtain ⟨ty,ht⟩:=laid_table (t:=200) (e:=199) h hm hg (by kernel_rfl) (by kernel_rfl) (by kernel_rfl) (by kernel_rfl) (by kernel_rfl) (by decide)
  refine ⟨⟨fun b hb=>?_,fun t hT=>?_⟩,fun b o u hb hu=>?_⟩
  · subst hb
    exact (Array.getElem?_eq_some_iff.1 ht).1
  · simp only [tabs,List.mem_singleton] at hT
    subst hT
    exact ⟨rfl,ty,_,ht⟩
  · subst hb
    unfold World.cell? at hu
    rw [ht] at hu
    simp only at hu
    have hu:((pow10L.map (Value.int .u64 ·)).toArray)[o]? =some u:=hu
    rw [List.getElem?_toArray,List.getElem?_map] at hu
    obtain ⟨n,_,rfl⟩:=Option.map_eq_some_iff.1 hu
    exact ⟨n,rfl⟩
def litV:DataW Unit→Value
  | .lit (.int k n)=>.int k n
  | _=>undef
def datV:DataW Unit→Array Value
  | .agg ps=>(ps.map litV).toArray
  | _=> #[]
noncomputable def laidWorld (os:Os):World:=
  let w0:=World.holding Tryz.prog os ⟨#[], #[],[]⟩
  let f (d:DataW Unit):Obj→Obj:=fun
      | .cells _ t frozen=>.cells (datV d) t frozen
      | o=>o
  { w0 with heap:=((w0.heap.modify 0 (f Rows.laid_internal_strconv_uint64pow10)).modify 6 (f Rows.laid_math_bits_deBruijn32tab)).modify 7 (f Rows.laid_math_bits_deBruijn64tab) }
theorem laidWorld_met (os:Os) (args:Array Value):laidMetH Tryz.prog laidL ((laidWorld os).forCall (fun _ _=>0) ⟨#[],args,[]⟩).memory:=by
  rw [plain_laid]
  exact laidMet_of_run' 8 (by kernel_rfl) (by kernel_rfl)
end Go.Proofs.YtkogeiacmmckkaaGreatDoor
