/- Part 29 of the proof; the last part says what is proved. -/
import Derived.Test.YtkogeiacmmckkaaGreatDoorFlowReads28
set_option linter.all false
section
open Go Go.Abs Go.Proofs Go.Argus
namespace Go.Argus
theorem in_yes {l:List Int} {n c:Int} (h:(n==c)=true) (hm:c∈l):B (n==c)=B (isIn l n):=by
  have:isIn l n=true:=List.any_eq_true.2 ⟨c,hm,h⟩
  rw [h,this]
def eqE (a b:List Int):Bool:=decide (a.length=b.length)&&(List.range a.length).all fun i=>a.getD i 0==b.getD i 0
theorem eqE_eq (a b:List Int):eqE a b=decide (a=b):=by
  unfold eqE
  by_cases h:a=b
  · subst h;simp
  · rw [decide_eq_false h,Bool.and_eq_false_iff]
    by_cases hl:a.length=b.length
    · right
      rw [List.all_eq_false]
      apply Classical.byContradiction
      intro hn
      refine h (List.ext_getElem hl fun i h1 h2=>?_)
      apply Classical.byContradiction
      intro hne
      exact hn ⟨i,by simpa using h1,by simpa [h1,h2] using hne⟩
    · left;simp [hl]
theorem eq_at {l:List Int} {i:Nat} {x:Int} (h:l[i]? =some x):l.getD i 0=x:=by simp [h]
theorem all_no {n i:Nat} {p:Nat→Bool} (hi:i<n) (h:p i=false):(List.range n).all p=false:=by
  rw [List.all_eq_false];exact ⟨i,by simpa using hi,by simp [h]⟩
theorem all_yes {i:Nat} {p:Nat→Bool} (h:(List.range i).all p=true) (hp:p i=true):(List.range (i+1)).all p=true:=by
  rw [List.range_succ,List.all_append,h];simp [hp]
end Go.Argus
namespace Go.Proofs.Tryz.K
set_option maxRecDepth 10000
theorem k28 {x:Ins}:PCall Tryz.prog 28 [.agg (encIns x)] (I (writesR x)):=by
  refine pcall_of mixed ok28 (by rw [nt28];rfl) (.cons (.agg (trs_ins x)) .nil) (Tr.s _) ?_
  rw [rs28,sk28]
  refine w_seq_region_g ?_
  refine ao_a (e_boxA (cs:=encIns _) rfl) (by repeat' (first | exact trivial | exact rfl | refine And.intro ?_ ?_)) (by first | rfl | exact one_code hp1 hq1 | exact oneW _ | exact one_S hd1) ?_
  refine ao_p (e_assign (v:=.s (.int _ _)) rfl) (by repeat' (first | exact trivial | exact rfl | refine And.intro ?_ ?_)) trivial ?_
  refine ao_end (w_ghost (ghost_fr [(0,encIns x,45)] ⟨rfl,trivial⟩ (l:=[(1,.pt (encIns x))]) ⟨rfl,trivial⟩) (w_assoc (w_seq_region ?_)))
  (first | refine ao_p (e_faddr rfl f45_0) (by repeat' (first | exact trivial | exact rfl | refine And.intro ?_ ?_)) (p_pos c5) ?_ | refine ao_p (e_faddrR rfl rfl f45_0) (by repeat' (first | exact trivial | exact rfl | refine And.intro ?_ ?_)) (p_pos c5) ?_)
  (first | refine ao_p (e_load rfl a5) (by repeat' (first | exact trivial | exact rfl | refine And.intro ?_ ?_)) (p_load t5 c5) ?_ | refine ao_p (e_loadR rfl rfl kd a5) (by repeat' (first | exact trivial | exact rfl | refine And.intro ?_ ?_)) (p_loadR t5 c5 kd) ?_ | refine ao_p (e_loadR rfl rfl kd' a5) (by repeat' (first | exact trivial | exact rfl | refine And.intro ?_ ?_)) (p_loadR t5 c5 kd') ?_ | refine ao_p (e_loadR rfl rfl rfl a5) (by repeat' (first | exact trivial | exact rfl | refine And.intro ?_ ?_)) (p_loadR t5 c5 rfl) ?_)
  refine ao_end (w_seq_blk ?_)
  have hw:writesR x=if isIn (writesL1++writesL2) x.op=true then x.to else -1:=by
    unfold writesR
    have:isIn (writesL1++writesL2) x.op=(isIn writesL1 x.op||isIn writesL2 x.op):=List.any_append
    rw [this]
    cases isIn writesL1 x.op<;>cases isIn writesL2 x.op<;>rfl
  refine w_cut_g (fun s=>Ghost Tryz.prog s ⟨envL [(1,.pt (encIns x)),(4,U8 x.op),(5,B (isIn (writesL1++writesL2) x.op))],fun _=>none,1⟩) (w_seq_region ?_) fun s hg=>⟨_,hg,?_⟩
  · (first | refine ao_p (e_eqlK rfl rfl keql) (by repeat' (first | exact trivial | exact rfl | refine And.intro ?_ ?_)) rfl ?_ | refine ao_p (e_eqlK rfl rfl keql') (by repeat' (first | exact trivial | exact rfl | refine And.intro ?_ ?_)) rfl ?_ | refine ao_p (e_eql rfl rfl) (by repeat' (first | exact trivial | exact rfl | refine And.intro ?_ ?_)) rfl ?_)
    refine ao_p (e_assign (v:=.s (.bool _)) rfl) (by repeat' (first | exact trivial | exact rfl | refine And.intro ?_ ?_)) trivial ?_
    refine ao_end (w_if rfl (fun h=>w_skipJ (ghost_of ⟨rfl,rfl,in_yes h (by decide),trivial⟩)) fun e1=>w_seq_region ?_)
    (first | refine ao_p (e_eqlK rfl rfl keql) (by repeat' (first | exact trivial | exact rfl | refine And.intro ?_ ?_)) rfl ?_ | refine ao_p (e_eqlK rfl rfl keql') (by repeat' (first | exact trivial | exact rfl | refine And.intro ?_ ?_)) rfl ?_ | refine ao_p (e_eql rfl rfl) (by repeat' (first | exact trivial | exact rfl | refine And.intro ?_ ?_)) rfl ?_)
    refine ao_p (e_assign (v:=.s (.bool _)) rfl) (by repeat' (first | exact trivial | exact rfl | refine And.intro ?_ ?_)) trivial ?_
    refine ao_end (w_if rfl (fun h=>w_skipJ (ghost_of ⟨rfl,rfl,in_yes h (by decide),trivial⟩)) fun e2=>w_seq_region ?_)
    (first | refine ao_p (e_eqlK rfl rfl keql) (by repeat' (first | exact trivial | exact rfl | refine And.intro ?_ ?_)) rfl ?_ | refine ao_p (e_eqlK rfl rfl keql') (by repeat' (first | exact trivial | exact rfl | refine And.intro ?_ ?_)) rfl ?_ | refine ao_p (e_eql rfl rfl) (by repeat' (first | exact trivial | exact rfl | refine And.intro ?_ ?_)) rfl ?_)
    refine ao_p (e_assign (v:=.s (.bool _)) rfl) (by repeat' (first | exact trivial | exact rfl | refine And.intro ?_ ?_)) trivial ?_
    refine ao_end (w_if rfl (fun h=>w_skipJ (ghost_of ⟨rfl,rfl,in_yes h (by decide),trivial⟩)) fun e3=>w_seq_region ?_)
    (first | refine ao_p (e_eqlK rfl rfl keql) (by repeat' (first | exact trivial | exact rfl | refine And.intro ?_ ?_)) rfl ?_ | refine ao_p (e_eqlK rfl rfl keql') (by repeat' (first | exact trivial | exact rfl | refine And.intro ?_ ?_)) rfl ?_ | refine ao_p (e_eql rfl rfl) (by repeat' (first | exact trivial | exact rfl | refine And.intro ?_ ?_)) rfl ?_)
    refine ao_p (e_assign (v:=.s (.bool _)) rfl) (by repeat' (first | exact trivial | exact rfl | refine And.intro ?_ ?_)) trivial ?_
    refine ao_end (w_if rfl (fun h=>w_skipJ (ghost_of ⟨rfl,rfl,in_yes h (by decide),trivial⟩)) fun e4=>w_seq_region ?_)
    (first | refine ao_p (e_eqlK rfl rfl keql) (by repeat' (first | exact trivial | exact rfl | refine And.intro ?_ ?_)) rfl ?_ | refine ao_p (e_eqlK rfl rfl keql') (by repeat' (first | exact trivial | exact rfl | refine And.intro ?_ ?_)) rfl ?_ | refine ao_p (e_eql rfl rfl) (by repeat' (first | exact trivial | exact rfl | refine And.intro ?_ ?_)) rfl ?_)
    refine ao_p (e_assign (v:=.s (.bool _)) rfl) (by repeat' (first | exact trivial | exact rfl | refine And.intro ?_ ?_)) trivial ?_
    refine ao_end (w_if rfl (fun h=>w_skipJ (ghost_of ⟨rfl,rfl,in_yes h (by decide),trivial⟩)) fun e5=>w_seq_region ?_)
    (first | refine ao_p (e_eqlK rfl rfl keql) (by repeat' (first | exact trivial | exact rfl | refine And.intro ?_ ?_)) rfl ?_ | refine ao_p (e_eqlK rfl rfl keql') (by repeat' (first | exact trivial | exact rfl | refine And.intro ?_ ?_)) rfl ?_ | refine ao_p (e_eql rfl rfl) (by repeat' (first | exact trivial | exact rfl | refine And.intro ?_ ?_)) rfl ?_)
    refine ao_p (e_assign (v:=.s (.bool _)) rfl) (by repeat' (first | exact trivial | exact rfl | refine And.intro ?_ ?_)) trivial ?_
    refine ao_end (w_if rfl (fun h=>w_skipJ (ghost_of ⟨rfl,rfl,in_yes h (by decide),trivial⟩)) fun e6=>w_seq_region ?_)
    (first | refine ao_p (e_eqlK rfl rfl keql) (by repeat' (first | exact trivial | exact rfl | refine And.intro ?_ ?_)) rfl ?_ | refine ao_p (e_eqlK rfl rfl keql') (by repeat' (first | exact trivial | exact rfl | refine And.intro ?_ ?_)) rfl ?_ | refine ao_p (e_eql rfl rfl) (by repeat' (first | exact trivial | exact rfl | refine And.intro ?_ ?_)) rfl ?_)
    refine ao_p (e_assign (v:=.s (.bool _)) rfl) (by repeat' (first | exact trivial | exact rfl | refine And.intro ?_ ?_)) trivial ?_
    refine ao_end (w_if rfl (fun h=>w_skipJ (ghost_of ⟨rfl,rfl,in_yes h (by decide),trivial⟩)) fun e7=>w_seq_region ?_)
    (first | refine ao_p (e_eqlK rfl rfl keql) (by repeat' (first | exact trivial | exact rfl | refine And.intro ?_ ?_)) rfl ?_ | refine ao_p (e_eqlK rfl rfl keql') (by repeat' (first | exact trivial | exact rfl | refine And.intro ?_ ?_)) rfl ?_ | refine ao_p (e_eql rfl rfl) (by repeat' (first | exact trivial | exact rfl | refine And.intro ?_ ?_)) rfl ?_)
    refine ao_p (e_assign (v:=.s (.bool _)) rfl) (by repeat' (first | exact trivial | exact rfl | refine And.intro ?_ ?_)) trivial ?_
    refine ao_end (w_if rfl (fun h=>w_skipJ (ghost_of ⟨rfl,rfl,in_yes h (by decide),trivial⟩)) fun e8=>w_seq_region ?_)
    (first | refine ao_p (e_eqlK rfl rfl keql) (by repeat' (first | exact trivial | exact rfl | refine And.intro ?_ ?_)) rfl ?_ | refine ao_p (e_eqlK rfl rfl keql') (by repeat' (first | exact trivial | exact rfl | refine And.intro ?_ ?_)) rfl ?_ | refine ao_p (e_eql rfl rfl) (by repeat' (first | exact trivial | exact rfl | refine And.intro ?_ ?_)) rfl ?_)
    refine ao_p (e_assign (v:=.s (.bool _)) rfl) (by repeat' (first | exact trivial | exact rfl | refine And.intro ?_ ?_)) trivial ?_
    refine ao_end (w_if rfl (fun h=>w_skipJ (ghost_of ⟨rfl,rfl,in_yes h (by decide),trivial⟩)) fun e9=>w_seq_region ?_)
    (first | refine ao_p (e_eqlK rfl rfl keql) (by repeat' (first | exact trivial | exact rfl | refine And.intro ?_ ?_)) rfl ?_ | refine ao_p (e_eqlK rfl rfl keql') (by repeat' (first | exact trivial | exact rfl | refine And.intro ?_ ?_)) rfl ?_ | refine ao_p (e_eql rfl rfl) (by repeat' (first | exact trivial | exact rfl | refine And.intro ?_ ?_)) rfl ?_)
    refine ao_p (e_assign (v:=.s (.bool _)) rfl) (by repeat' (first | exact trivial | exact rfl | refine And.intro ?_ ?_)) trivial ?_
    refine ao_end (w_if rfl (fun h=>w_skipJ (ghost_of ⟨rfl,rfl,in_yes h (by decide),trivial⟩)) fun e10=>w_seq_region ?_)
    (first | refine ao_p (e_eqlK rfl rfl keql) (by repeat' (first | exact trivial | exact rfl | refine And.intro ?_ ?_)) rfl ?_ | refine ao_p (e_eqlK rfl rfl keql') (by repeat' (first | exact trivial | exact rfl | refine And.intro ?_ ?_)) rfl ?_ | refine ao_p (e_eql rfl rfl) (by repeat' (first | exact trivial | exact rfl | refine And.intro ?_ ?_)) rfl ?_)
    refine ao_p (e_assign (v:=.s (.bool _)) rfl) (by repeat' (first | exact trivial | exact rfl | refine And.intro ?_ ?_)) trivial ?_
    refine ao_end (w_if rfl (fun h=>w_skipJ (ghost_of ⟨rfl,rfl,in_yes h (by decide),trivial⟩)) fun e11=>w_seq_region ?_)
    (first | refine ao_p (e_eqlK rfl rfl keql) (by repeat' (first | exact trivial | exact rfl | refine And.intro ?_ ?_)) rfl ?_ | refine ao_p (e_eqlK rfl rfl keql') (by repeat' (first | exact trivial | exact rfl | refine And.intro ?_ ?_)) rfl ?_ | refine ao_p (e_eql rfl rfl) (by repeat' (first | exact trivial | exact rfl | refine And.intro ?_ ?_)) rfl ?_)
    refine ao_p (e_assign (v:=.s (.bool _)) rfl) (by repeat' (first | exact trivial | exact rfl | refine And.intro ?_ ?_)) trivial ?_
    refine ao_end (w_if rfl (fun h=>w_skipJ (ghost_of ⟨rfl,rfl,in_yes h (by decide),trivial⟩)) fun e13=>w_seq_region ?_)
    (first | refine ao_p (e_eqlK rfl rfl keql) (by repeat' (first | exact trivial | exact rfl | refine And.intro ?_ ?_)) rfl ?_ | refine ao_p (e_eqlK rfl rfl keql') (by repeat' (first | exact trivial | exact rfl | refine And.intro ?_ ?_)) rfl ?_ | refine ao_p (e_eql rfl rfl) (by repeat' (first | exact trivial | exact rfl | refine And.intro ?_ ?_)) rfl ?_)
    refine ao_p (e_assign (v:=.s (.bool _)) rfl) (by repeat' (first | exact trivial | exact rfl | refine And.intro ?_ ?_)) trivial ?_
    refine ao_end (w_if rfl (fun h=>w_skipJ (ghost_of ⟨rfl,rfl,in_yes h (by decide),trivial⟩)) fun e14=>w_seq_region ?_)
    (first | refine ao_p (e_eqlK rfl rfl keql) (by repeat' (first | exact trivial | exact rfl | refine And.intro ?_ ?_)) rfl ?_ | refine ao_p (e_eqlK rfl rfl keql') (by repeat' (first | exact trivial | exact rfl | refine And.intro ?_ ?_)) rfl ?_ | refine ao_p (e_eql rfl rfl) (by repeat' (first | exact trivial | exact rfl | refine And.intro ?_ ?_)) rfl ?_)
    refine ao_p (e_assign (v:=.s (.bool _)) rfl) (by repeat' (first | exact trivial | exact rfl | refine And.intro ?_ ?_)) trivial ?_
    refine ao_end (w_if rfl (fun h=>w_skipJ (ghost_of ⟨rfl,rfl,in_yes h (by decide),trivial⟩)) fun e17=>w_seq_region ?_)
    (first | refine ao_p (e_eqlK rfl rfl keql) (by repeat' (first | exact trivial | exact rfl | refine And.intro ?_ ?_)) rfl ?_ | refine ao_p (e_eqlK rfl rfl keql') (by repeat' (first | exact trivial | exact rfl | refine And.intro ?_ ?_)) rfl ?_ | refine ao_p (e_eql rfl rfl) (by repeat' (first | exact trivial | exact rfl | refine And.intro ?_ ?_)) rfl ?_)
    refine ao_p (e_assign (v:=.s (.bool _)) rfl) (by repeat' (first | exact trivial | exact rfl | refine And.intro ?_ ?_)) trivial ?_
    refine ao_end (w_if rfl (fun h=>w_skipJ (ghost_of ⟨rfl,rfl,in_yes h (by decide),trivial⟩)) fun e19=>w_seq_region ?_)
    (first | refine ao_p (e_eqlK rfl rfl keql) (by repeat' (first | exact trivial | exact rfl | refine And.intro ?_ ?_)) rfl ?_ | refine ao_p (e_eqlK rfl rfl keql') (by repeat' (first | exact trivial | exact rfl | refine And.intro ?_ ?_)) rfl ?_ | refine ao_p (e_eql rfl rfl) (by repeat' (first | exact trivial | exact rfl | refine And.intro ?_ ?_)) rfl ?_)
    refine ao_p (e_assign (v:=.s (.bool _)) rfl) (by repeat' (first | exact trivial | exact rfl | refine And.intro ?_ ?_)) trivial ?_
    refine ao_end (w_if rfl (fun h=>w_skipJ (ghost_of ⟨rfl,rfl,in_yes h (by decide),trivial⟩)) fun e30=>w_seq_region ?_)
    (first | refine ao_p (e_eqlK rfl rfl keql) (by repeat' (first | exact trivial | exact rfl | refine And.intro ?_ ?_)) rfl ?_ | refine ao_p (e_eqlK rfl rfl keql') (by repeat' (first | exact trivial | exact rfl | refine And.intro ?_ ?_)) rfl ?_ | refine ao_p (e_eql rfl rfl) (by repeat' (first | exact trivial | exact rfl | refine And.intro ?_ ?_)) rfl ?_)
    refine ao_p (e_assign (v:=.s (.bool _)) rfl) (by repeat' (first | exact trivial | exact rfl | refine And.intro ?_ ?_)) trivial ?_
    refine ao_end (w_if rfl (fun h=>w_skipJ (ghost_of ⟨rfl,rfl,in_yes h (by decide),trivial⟩)) fun e31=>w_seq_region ?_)
    (first | refine ao_p (e_eqlK rfl rfl keql) (by repeat' (first | exact trivial | exact rfl | refine And.intro ?_ ?_)) rfl ?_ | refine ao_p (e_eqlK rfl rfl keql') (by repeat' (first | exact trivial | exact rfl | refine And.intro ?_ ?_)) rfl ?_ | refine ao_p (e_eql rfl rfl) (by repeat' (first | exact trivial | exact rfl | refine And.intro ?_ ?_)) rfl ?_)
    refine ao_p (e_assign (v:=.s (.bool _)) rfl) (by repeat' (first | exact trivial | exact rfl | refine And.intro ?_ ?_)) trivial ?_
    refine ao_end (w_if rfl (fun h=>w_skipJ (ghost_of ⟨rfl,rfl,in_yes h (by decide),trivial⟩)) fun e32=>w_seq_region ?_)
    (first | refine ao_p (e_eqlK rfl rfl keql) (by repeat' (first | exact trivial | exact rfl | refine And.intro ?_ ?_)) rfl ?_ | refine ao_p (e_eqlK rfl rfl keql') (by repeat' (first | exact trivial | exact rfl | refine And.intro ?_ ?_)) rfl ?_ | refine ao_p (e_eql rfl rfl) (by repeat' (first | exact trivial | exact rfl | refine And.intro ?_ ?_)) rfl ?_)
    refine ao_p (e_assign (v:=.s (.bool _)) rfl) (by repeat' (first | exact trivial | exact rfl | refine And.intro ?_ ?_)) trivial ?_
    refine ao_end (w_if rfl (fun h=>w_skipJ (ghost_of ⟨rfl,rfl,in_yes h (by decide),trivial⟩)) fun e33=>w_seq_region ?_)
    (first | refine ao_p (e_eqlK rfl rfl keql) (by repeat' (first | exact trivial | exact rfl | refine And.intro ?_ ?_)) rfl ?_ | refine ao_p (e_eqlK rfl rfl keql') (by repeat' (first | exact trivial | exact rfl | refine And.intro ?_ ?_)) rfl ?_ | refine ao_p (e_eql rfl rfl) (by repeat' (first | exact trivial | exact rfl | refine And.intro ?_ ?_)) rfl ?_)
    refine ao_p (e_assign (v:=.s (.bool _)) rfl) (by repeat' (first | exact trivial | exact rfl | refine And.intro ?_ ?_)) trivial ?_
    refine ao_end (w_if rfl (fun h=>w_skipJ (ghost_of ⟨rfl,rfl,in_yes h (by decide),trivial⟩)) fun e23=>w_seq_region ?_)
    (first | refine ao_p (e_eqlK rfl rfl keql) (by repeat' (first | exact trivial | exact rfl | refine And.intro ?_ ?_)) rfl ?_ | refine ao_p (e_eqlK rfl rfl keql') (by repeat' (first | exact trivial | exact rfl | refine And.intro ?_ ?_)) rfl ?_ | refine ao_p (e_eql rfl rfl) (by repeat' (first | exact trivial | exact rfl | refine And.intro ?_ ?_)) rfl ?_)
    refine ao_p (e_assign (v:=.s (.bool _)) rfl) (by repeat' (first | exact trivial | exact rfl | refine And.intro ?_ ?_)) trivial ?_
    refine ao_end (w_if rfl (fun h=>w_skipJ (ghost_of ⟨rfl,rfl,in_yes h (by decide),trivial⟩)) fun e36=>w_regJ ?_)
    (first | refine ao_p (e_eqlK rfl rfl keql) (by repeat' (first | exact trivial | exact rfl | refine And.intro ?_ ?_)) rfl ?_ | refine ao_p (e_eqlK rfl rfl keql') (by repeat' (first | exact trivial | exact rfl | refine And.intro ?_ ?_)) rfl ?_ | refine ao_p (e_eql rfl rfl) (by repeat' (first | exact trivial | exact rfl | refine And.intro ?_ ?_)) rfl ?_)
    refine ao_p (e_assign (v:=.s (.bool _)) rfl) (by repeat' (first | exact trivial | exact rfl | refine And.intro ?_ ?_)) trivial ?_
    refine ao_end (ghost_of ⟨rfl,rfl,?_,trivial⟩)
    show D.s (.bool (x.op==37))=_
    simp only [isIn,writesL1,writesL2,List.cons_append,List.nil_append,List.any_cons,List.any_nil,e1,e2,e3,e4,e5,e6,e7,e8,e9,e10,e11,e13,e14,e17,e19,e30,e31,e32,e33,e23,e36,Bool.false_or,Bool.or_false]
  refine w_if rfl (fun h1=>w_seq_region ?_) fun h1=>w_endB (w_seq_region ?_)
  · (first | refine ao_p (e_faddr rfl f45_1) (by repeat' (first | exact trivial | exact rfl | refine And.intro ?_ ?_)) (p_pos c3) ?_ | refine ao_p (e_faddrR rfl rfl f45_1) (by repeat' (first | exact trivial | exact rfl | refine And.intro ?_ ?_)) (p_pos c3) ?_)
    (first | refine ao_p (e_load rfl a3) (by repeat' (first | exact trivial | exact rfl | refine And.intro ?_ ?_)) (p_load t3 c3) ?_ | refine ao_p (e_loadR rfl rfl kd a3) (by repeat' (first | exact trivial | exact rfl | refine And.intro ?_ ?_)) (p_loadR t3 c3 kd) ?_ | refine ao_p (e_loadR rfl rfl kd' a3) (by repeat' (first | exact trivial | exact rfl | refine And.intro ?_ ?_)) (p_loadR t3 c3 kd') ?_ | refine ao_p (e_loadR rfl rfl rfl a3) (by repeat' (first | exact trivial | exact rfl | refine And.intro ?_ ?_)) (p_loadR t3 c3 rfl) ?_)
    refine ao_p (e_assign (v:=.s (.int _ _)) rfl) (by repeat' (first | exact trivial | exact rfl | refine And.intro ?_ ?_)) trivial ?_
    refine ao_end (w_ret (j_block (j_seq (q_ret1 rfl ?_))))
    rw [hw,if_pos h1];rfl
  · refine ao_p (e_assign (v:=.s (.int _ _)) rfl) (by repeat' (first | exact trivial | exact rfl | refine And.intro ?_ ?_)) trivial ?_
    refine ao_end (q_ret1 rfl ?_)
    rw [hw,if_neg (by simp [h1])];rfl
theorem k32 {x:Argus.End}:PCall Tryz.prog 32 [.agg (encEnd x)] (I (writesEnd x)):=by
  have htr:∀ a∈[D.agg (encEnd x)],Tr a:=.cons (.agg (trs_end x)) .nil
  have k28:=k28 (x:=x.ins)
  refine pcall_of mixed ok32 (by rw [nt32];rfl) htr (Tr.s _) ?_
  rw [rs32,sk32]
  refine w_seq_region_g ?_
  refine ao_a (e_boxA (cs:=encEnd _) rfl) (by repeat' (first | exact trivial | exact rfl | refine And.intro ?_ ?_)) (by first | rfl | exact one_code hp1 hq1 | exact oneW _ | exact one_S hd1) ?_
  refine ao_p (e_assign (v:=.s (.int _ _)) rfl) (by repeat' (first | exact trivial | exact rfl | refine And.intro ?_ ?_)) trivial ?_
  refine ao_end (w_ghost (ghost_fr [(0,encEnd x,48)] ⟨rfl,trivial⟩ (l:=[(1,.pt (encEnd x))]) ⟨rfl,trivial⟩) (w_assoc (w_seq_region ?_)))
  (first | refine ao_p (e_faddr rfl f48_0) (by repeat' (first | exact trivial | exact rfl | refine And.intro ?_ ?_)) (p_pos c5) ?_ | refine ao_p (e_faddrR rfl rfl f48_0) (by repeat' (first | exact trivial | exact rfl | refine And.intro ?_ ?_)) (p_pos c5) ?_)
  (first | refine ao_p (e_load rfl a5) (by repeat' (first | exact trivial | exact rfl | refine And.intro ?_ ?_)) (p_load t5 c5) ?_ | refine ao_p (e_loadR rfl rfl kd a5) (by repeat' (first | exact trivial | exact rfl | refine And.intro ?_ ?_)) (p_loadR t5 c5 kd) ?_ | refine ao_p (e_loadR rfl rfl kd' a5) (by repeat' (first | exact trivial | exact rfl | refine And.intro ?_ ?_)) (p_loadR t5 c5 kd') ?_ | refine ao_p (e_loadR rfl rfl rfl a5) (by repeat' (first | exact trivial | exact rfl | refine And.intro ?_ ?_)) (p_loadR t5 c5 rfl) ?_)
  refine ao_end (w_seq_blk (w_seq_region ?_))
  (first | refine ao_p (e_eqlK rfl rfl keql) (by repeat' (first | exact trivial | exact rfl | refine And.intro ?_ ?_)) rfl ?_ | refine ao_p (e_eqlK rfl rfl keql') (by repeat' (first | exact trivial | exact rfl | refine And.intro ?_ ?_)) rfl ?_ | refine ao_p (e_eql rfl rfl) (by repeat' (first | exact trivial | exact rfl | refine And.intro ?_ ?_)) rfl ?_)
  refine ao_p (e_assign (v:=.s (.bool _)) rfl) (by repeat' (first | exact trivial | exact rfl | refine And.intro ?_ ?_)) trivial ?_
  refine ao_end (w_if rfl (fun h1=>?_) fun h1=>?_)
  · have h1:x.kind=5:=by simpa using h1
    refine w_seq_region ?_
    (first | refine ao_p (e_faddr rfl f48_6) (by repeat' (first | exact trivial | exact rfl | refine And.intro ?_ ?_)) (p_pos c45) ?_ | refine ao_p (e_faddrR rfl rfl f48_6) (by repeat' (first | exact trivial | exact rfl | refine And.intro ?_ ?_)) (p_pos c45) ?_)
    (first | refine ao_p (e_loadA (vs:=encIns _) rfl a45 c45 rfl) (by repeat' (first | exact trivial | exact rfl | refine And.intro ?_ ?_)) (p_loadA t45 c45 (by simp)) ?_ | refine ao_p (e_loadRA (vs:=encIns _) rfl rfl a45 c45 rfl) (by repeat' (first | exact trivial | exact rfl | refine And.intro ?_ ?_)) (p_loadRA t45 c45 (by first | (simp;done) | omega | exact Nat.le_of_ble_eq_true rfl)) ?_ | refine ao_p (e_loadRA rfl rfl a45 c45 rfl) (by repeat' (first | exact trivial | exact rfl | refine And.intro ?_ ?_)) (p_loadRA t45 c45 (by first | (simp;done) | omega | exact Nat.le_of_ble_eq_true rfl)) ?_)
    (first | refine ao_pc k28 rfl (by repeat' (first | exact trivial | exact rfl | refine And.intro ?_ ?_)) ?_ | refine ao_sc k28 rfl (ks28 rfl) rfl (by repeat' (first | exact trivial | exact rfl | refine And.intro ?_ ?_)) ?_)
    refine ao_p (e_assign (v:=.s (.int _ _)) rfl) (by repeat' (first | exact trivial | exact rfl | refine And.intro ?_ ?_)) trivial ?_
    refine ao_end (w_ret (j_block (j_seq (q_ret1 (d:=I (writesR x.ins)) rfl ?_))))
    simp [writesEnd,h1]
  have h1:¬ x.kind=5:=by simpa using h1
  refine w_cut_g (fun s=>Ghost Tryz.prog s ⟨envL [(1,.pt (encEnd x)),(4,U8 x.kind),(10,B (isIn [6,7] x.kind))],fun _=>none,1⟩) (w_seq_region ?_) fun s hg=>⟨_,hg,?_⟩
  · (first | refine ao_p (e_eqlK rfl rfl keql) (by repeat' (first | exact trivial | exact rfl | refine And.intro ?_ ?_)) rfl ?_ | refine ao_p (e_eqlK rfl rfl keql') (by repeat' (first | exact trivial | exact rfl | refine And.intro ?_ ?_)) rfl ?_ | refine ao_p (e_eql rfl rfl) (by repeat' (first | exact trivial | exact rfl | refine And.intro ?_ ?_)) rfl ?_)
    refine ao_p (e_assign (v:=.s (.bool _)) rfl) (by repeat' (first | exact trivial | exact rfl | refine And.intro ?_ ?_)) trivial ?_
    refine ao_end (w_if rfl (fun h=>w_skipJ (ghost_of ⟨rfl,rfl,in_yes h (by decide),trivial⟩)) fun e6=>w_regJ ?_)
    (first | refine ao_p (e_eqlK rfl rfl keql) (by repeat' (first | exact trivial | exact rfl | refine And.intro ?_ ?_)) rfl ?_ | refine ao_p (e_eqlK rfl rfl keql') (by repeat' (first | exact trivial | exact rfl | refine And.intro ?_ ?_)) rfl ?_ | refine ao_p (e_eql rfl rfl) (by repeat' (first | exact trivial | exact rfl | refine And.intro ?_ ?_)) rfl ?_)
    refine ao_p (e_assign (v:=.s (.bool _)) rfl) (by repeat' (first | exact trivial | exact rfl | refine And.intro ?_ ?_)) trivial ?_
    refine ao_end ?_
    refine ghost_of ⟨rfl,rfl,?_,trivial⟩
    show D.s (.bool (x.kind==7))=_
    simp [isIn,e6]
  refine w_if rfl (fun h2=>?_) fun h2=>?_
  · refine w_seq_region ?_
    (first | refine ao_p (e_faddr rfl f48_1) (by repeat' (first | exact trivial | exact rfl | refine And.intro ?_ ?_)) (p_pos c3) ?_ | refine ao_p (e_faddrR rfl rfl f48_1) (by repeat' (first | exact trivial | exact rfl | refine And.intro ?_ ?_)) (p_pos c3) ?_)
    (first | refine ao_p (e_load rfl a3) (by repeat' (first | exact trivial | exact rfl | refine And.intro ?_ ?_)) (p_load t3 c3) ?_ | refine ao_p (e_loadR rfl rfl kd a3) (by repeat' (first | exact trivial | exact rfl | refine And.intro ?_ ?_)) (p_loadR t3 c3 kd) ?_ | refine ao_p (e_loadR rfl rfl kd' a3) (by repeat' (first | exact trivial | exact rfl | refine And.intro ?_ ?_)) (p_loadR t3 c3 kd') ?_ | refine ao_p (e_loadR rfl rfl rfl a3) (by repeat' (first | exact trivial | exact rfl | refine And.intro ?_ ?_)) (p_loadR t3 c3 rfl) ?_)
    refine ao_p (e_assign (v:=.s (.int _ _)) rfl) (by repeat' (first | exact trivial | exact rfl | refine And.intro ?_ ?_)) trivial ?_
    refine ao_end (w_ret (j_block (j_seq (q_ret1 (d:=I x.a) rfl ?_))))
    simp [writesEnd,h1,h2]
  refine w_seq_region ?_
  (first | refine ao_p (e_eqlK rfl rfl keql) (by repeat' (first | exact trivial | exact rfl | refine And.intro ?_ ?_)) rfl ?_ | refine ao_p (e_eqlK rfl rfl keql') (by repeat' (first | exact trivial | exact rfl | refine And.intro ?_ ?_)) rfl ?_ | refine ao_p (e_eql rfl rfl) (by repeat' (first | exact trivial | exact rfl | refine And.intro ?_ ?_)) rfl ?_)
  refine ao_p (e_assign (v:=.s (.bool _)) rfl) (by repeat' (first | exact trivial | exact rfl | refine And.intro ?_ ?_)) trivial ?_
  refine ao_end (w_if rfl (fun h3=>?_) fun h3=>?_)
  · have h3:x.kind=8:=by simpa using h3
    refine w_seq_region ?_
    (first | refine ao_p (e_faddr rfl f48_2) (by repeat' (first | exact trivial | exact rfl | refine And.intro ?_ ?_)) (p_pos c3) ?_ | refine ao_p (e_faddrR rfl rfl f48_2) (by repeat' (first | exact trivial | exact rfl | refine And.intro ?_ ?_)) (p_pos c3) ?_)
    (first | refine ao_p (e_load rfl a3) (by repeat' (first | exact trivial | exact rfl | refine And.intro ?_ ?_)) (p_load t3 c3) ?_ | refine ao_p (e_loadR rfl rfl kd a3) (by repeat' (first | exact trivial | exact rfl | refine And.intro ?_ ?_)) (p_loadR t3 c3 kd) ?_ | refine ao_p (e_loadR rfl rfl kd' a3) (by repeat' (first | exact trivial | exact rfl | refine And.intro ?_ ?_)) (p_loadR t3 c3 kd') ?_ | refine ao_p (e_loadR rfl rfl rfl a3) (by repeat' (first | exact trivial | exact rfl | refine And.intro ?_ ?_)) (p_loadR t3 c3 rfl) ?_)
    refine ao_p (e_assign (v:=.s (.int _ _)) rfl) (by repeat' (first | exact trivial | exact rfl | refine And.intro ?_ ?_)) trivial ?_
    refine ao_end (w_ret (j_block (j_seq (q_ret1 (d:=I x.b) rfl ?_))))
    simp [writesEnd,h2,h3]
    simp [isIn]
  have h3:¬ x.kind=8:=by simpa using h3
  refine w_endB (w_seq_region ?_)
  refine ao_p (e_assign (v:=.s (.int _ _)) rfl) (by repeat' (first | exact trivial | exact rfl | refine And.intro ?_ ?_)) trivial ?_
  refine ao_end (q_ret1 (d:=I (-1)) rfl ?_)
  simp [writesEnd,h1,h2,h3]
theorem k26 {x:Ins} (hx:x.op=10∨x.op=38→x.args.length≤1000):PCall Tryz.prog 26 [.agg (encIns x)] (encInts (readsR x)):=by
  have htr:∀ a∈[D.agg (encIns x)],Tr a:=.cons (.agg (trs_ins x)) .nil
  refine pcall_of mixed ok26 (by rw [nt26];rfl) htr (tr_ints _) ?_
  rw [rs26,sk26]
  refine w_seq_region_g ?_
  refine ao_a (e_boxA (cs:=encIns _) rfl) (by repeat' (first | exact trivial | exact rfl | refine And.intro ?_ ?_)) (by first | rfl | exact one_code hp1 hq1 | exact oneW _ | exact one_S hd1) ?_
  (first | refine ao_p (e_assign (v:=.sl _ _) rfl) (by repeat' (first | exact trivial | exact rfl | refine And.intro ?_ ?_)) trivial ?_ | refine ao_p (e_assign (v:=.rs _ _ _) rfl) (by repeat' (first | exact trivial | exact rfl | refine And.intro ?_ ?_)) trivial ?_ | refine ao_p (e_assign (v:=.z) rfl) (by repeat' (first | exact trivial | exact rfl | refine And.intro ?_ ?_)) trivial ?_)
  refine ao_end (w_ghost (ghost_fr [(0,encIns x,45)] ⟨rfl,trivial⟩ (l:=[(1,.pt (encIns x))]) ⟨rfl,trivial⟩) (w_assoc (w_seq_region ?_)))
  (first | refine ao_p (e_faddr rfl f45_0) (by repeat' (first | exact trivial | exact rfl | refine And.intro ?_ ?_)) (p_pos c5) ?_ | refine ao_p (e_faddrR rfl rfl f45_0) (by repeat' (first | exact trivial | exact rfl | refine And.intro ?_ ?_)) (p_pos c5) ?_)
  (first | refine ao_p (e_load rfl a5) (by repeat' (first | exact trivial | exact rfl | refine And.intro ?_ ?_)) (p_load t5 c5) ?_ | refine ao_p (e_loadR rfl rfl kd a5) (by repeat' (first | exact trivial | exact rfl | refine And.intro ?_ ?_)) (p_loadR t5 c5 kd) ?_ | refine ao_p (e_loadR rfl rfl kd' a5) (by repeat' (first | exact trivial | exact rfl | refine And.intro ?_ ?_)) (p_loadR t5 c5 kd') ?_ | refine ao_p (e_loadR rfl rfl rfl a5) (by repeat' (first | exact trivial | exact rfl | refine And.intro ?_ ?_)) (p_loadR t5 c5 rfl) ?_)
  refine ao_end (w_seq_blk ?_)
  refine w_cut_g (fun s=>Ghost Tryz.prog s ⟨envL [(1,.pt (encIns x)),(4,U8 x.op),(5,B (isIn readsL1 x.op))],fun _=>none,1⟩) (w_seq_region ?_) fun s hg=>⟨_,hg,?_⟩
  · (first | refine ao_p (e_eqlK rfl rfl keql) (by repeat' (first | exact trivial | exact rfl | refine And.intro ?_ ?_)) rfl ?_ | refine ao_p (e_eqlK rfl rfl keql') (by repeat' (first | exact trivial | exact rfl | refine And.intro ?_ ?_)) rfl ?_ | refine ao_p (e_eql rfl rfl) (by repeat' (first | exact trivial | exact rfl | refine And.intro ?_ ?_)) rfl ?_)
    refine ao_p (e_assign (v:=.s (.bool _)) rfl) (by repeat' (first | exact trivial | exact rfl | refine And.intro ?_ ?_)) trivial ?_
    refine ao_end (w_if rfl (fun h=>w_skipJ (ghost_of ⟨rfl,rfl,in_yes h (by decide),trivial⟩)) fun e2=>w_seq_region ?_)
    (first | refine ao_p (e_eqlK rfl rfl keql) (by repeat' (first | exact trivial | exact rfl | refine And.intro ?_ ?_)) rfl ?_ | refine ao_p (e_eqlK rfl rfl keql') (by repeat' (first | exact trivial | exact rfl | refine And.intro ?_ ?_)) rfl ?_ | refine ao_p (e_eql rfl rfl) (by repeat' (first | exact trivial | exact rfl | refine And.intro ?_ ?_)) rfl ?_)
    refine ao_p (e_assign (v:=.s (.bool _)) rfl) (by repeat' (first | exact trivial | exact rfl | refine And.intro ?_ ?_)) trivial ?_
    refine ao_end (w_if rfl (fun h=>w_skipJ (ghost_of ⟨rfl,rfl,in_yes h (by decide),trivial⟩)) fun e8=>w_seq_region ?_)
    (first | refine ao_p (e_eqlK rfl rfl keql) (by repeat' (first | exact trivial | exact rfl | refine And.intro ?_ ?_)) rfl ?_ | refine ao_p (e_eqlK rfl rfl keql') (by repeat' (first | exact trivial | exact rfl | refine And.intro ?_ ?_)) rfl ?_ | refine ao_p (e_eql rfl rfl) (by repeat' (first | exact trivial | exact rfl | refine And.intro ?_ ?_)) rfl ?_)
    refine ao_p (e_assign (v:=.s (.bool _)) rfl) (by repeat' (first | exact trivial | exact rfl | refine And.intro ?_ ?_)) trivial ?_
    refine ao_end (w_if rfl (fun h=>w_skipJ (ghost_of ⟨rfl,rfl,in_yes h (by decide),trivial⟩)) fun e11=>w_seq_region ?_)
    (first | refine ao_p (e_eqlK rfl rfl keql) (by repeat' (first | exact trivial | exact rfl | refine And.intro ?_ ?_)) rfl ?_ | refine ao_p (e_eqlK rfl rfl keql') (by repeat' (first | exact trivial | exact rfl | refine And.intro ?_ ?_)) rfl ?_ | refine ao_p (e_eql rfl rfl) (by repeat' (first | exact trivial | exact rfl | refine And.intro ?_ ?_)) rfl ?_)
    refine ao_p (e_assign (v:=.s (.bool _)) rfl) (by repeat' (first | exact trivial | exact rfl | refine And.intro ?_ ?_)) trivial ?_
    refine ao_end (w_if rfl (fun h=>w_skipJ (ghost_of ⟨rfl,rfl,in_yes h (by decide),trivial⟩)) fun e13=>w_seq_region ?_)
    (first | refine ao_p (e_eqlK rfl rfl keql) (by repeat' (first | exact trivial | exact rfl | refine And.intro ?_ ?_)) rfl ?_ | refine ao_p (e_eqlK rfl rfl keql') (by repeat' (first | exact trivial | exact rfl | refine And.intro ?_ ?_)) rfl ?_ | refine ao_p (e_eql rfl rfl) (by repeat' (first | exact trivial | exact rfl | refine And.intro ?_ ?_)) rfl ?_)
    refine ao_p (e_assign (v:=.s (.bool _)) rfl) (by repeat' (first | exact trivial | exact rfl | refine And.intro ?_ ?_)) trivial ?_
    refine ao_end (w_if rfl (fun h=>w_skipJ (ghost_of ⟨rfl,rfl,in_yes h (by decide),trivial⟩)) fun e14=>w_seq_region ?_)
    (first | refine ao_p (e_eqlK rfl rfl keql) (by repeat' (first | exact trivial | exact rfl | refine And.intro ?_ ?_)) rfl ?_ | refine ao_p (e_eqlK rfl rfl keql') (by repeat' (first | exact trivial | exact rfl | refine And.intro ?_ ?_)) rfl ?_ | refine ao_p (e_eql rfl rfl) (by repeat' (first | exact trivial | exact rfl | refine And.intro ?_ ?_)) rfl ?_)
    refine ao_p (e_assign (v:=.s (.bool _)) rfl) (by repeat' (first | exact trivial | exact rfl | refine And.intro ?_ ?_)) trivial ?_
    refine ao_end (w_if rfl (fun h=>w_skipJ (ghost_of ⟨rfl,rfl,in_yes h (by decide),trivial⟩)) fun e15=>w_seq_region ?_)
    (first | refine ao_p (e_eqlK rfl rfl keql) (by repeat' (first | exact trivial | exact rfl | refine And.intro ?_ ?_)) rfl ?_ | refine ao_p (e_eqlK rfl rfl keql') (by repeat' (first | exact trivial | exact rfl | refine And.intro ?_ ?_)) rfl ?_ | refine ao_p (e_eql rfl rfl) (by repeat' (first | exact trivial | exact rfl | refine And.intro ?_ ?_)) rfl ?_)
    refine ao_p (e_assign (v:=.s (.bool _)) rfl) (by repeat' (first | exact trivial | exact rfl | refine And.intro ?_ ?_)) trivial ?_
    refine ao_end (w_if rfl (fun h=>w_skipJ (ghost_of ⟨rfl,rfl,in_yes h (by decide),trivial⟩)) fun e16=>w_seq_region ?_)
    (first | refine ao_p (e_eqlK rfl rfl keql) (by repeat' (first | exact trivial | exact rfl | refine And.intro ?_ ?_)) rfl ?_ | refine ao_p (e_eqlK rfl rfl keql') (by repeat' (first | exact trivial | exact rfl | refine And.intro ?_ ?_)) rfl ?_ | refine ao_p (e_eql rfl rfl) (by repeat' (first | exact trivial | exact rfl | refine And.intro ?_ ?_)) rfl ?_)
    refine ao_p (e_assign (v:=.s (.bool _)) rfl) (by repeat' (first | exact trivial | exact rfl | refine And.intro ?_ ?_)) trivial ?_
    refine ao_end (w_if rfl (fun h=>w_skipJ (ghost_of ⟨rfl,rfl,in_yes h (by decide),trivial⟩)) fun e18=>w_regJ ?_)
    (first | refine ao_p (e_eqlK rfl rfl keql) (by repeat' (first | exact trivial | exact rfl | refine And.intro ?_ ?_)) rfl ?_ | refine ao_p (e_eqlK rfl rfl keql') (by repeat' (first | exact trivial | exact rfl | refine And.intro ?_ ?_)) rfl ?_ | refine ao_p (e_eql rfl rfl) (by repeat' (first | exact trivial | exact rfl | refine And.intro ?_ ?_)) rfl ?_)
    refine ao_p (e_assign (v:=.s (.bool _)) rfl) (by repeat' (first | exact trivial | exact rfl | refine And.intro ?_ ?_)) trivial ?_
    refine ao_end ?_
    refine ghost_of ⟨rfl,rfl,?_,trivial⟩
    show D.s (.bool (x.op==36))=_
    simp [isIn,readsL1,e2,e8,e11,e13,e14,e15,e16,e18]
  refine w_if rfl (fun h1=>?_) fun h1=>?_
  · refine w_seq_region_g ?_
    (first | refine ao_p (e_faddr rfl f45_2) (by repeat' (first | exact trivial | exact rfl | refine And.intro ?_ ?_)) (p_pos c3) ?_ | refine ao_p (e_faddrR rfl rfl f45_2) (by repeat' (first | exact trivial | exact rfl | refine And.intro ?_ ?_)) (p_pos c3) ?_)
    (first | refine ao_p (e_load rfl a3) (by repeat' (first | exact trivial | exact rfl | refine And.intro ?_ ?_)) (p_load t3 c3) ?_ | refine ao_p (e_loadR rfl rfl kd a3) (by repeat' (first | exact trivial | exact rfl | refine And.intro ?_ ?_)) (p_loadR t3 c3 kd) ?_ | refine ao_p (e_loadR rfl rfl kd' a3) (by repeat' (first | exact trivial | exact rfl | refine And.intro ?_ ?_)) (p_loadR t3 c3 kd') ?_ | refine ao_p (e_loadR rfl rfl rfl a3) (by repeat' (first | exact trivial | exact rfl | refine And.intro ?_ ?_)) (p_loadR t3 c3 rfl) ?_)
    (first | refine ao_a (e_buildSl (cs:=[_]) e35 c3 z3 rfl rfl) (by repeat' (first | exact trivial | exact rfl | refine And.intro ?_ ?_)) ⟨rfl,by decide,sl35,by decide⟩ ?_ | refine ao_a (e_buildSl e35 c3 z3 rfl rfl) (by repeat' (first | exact trivial | exact rfl | refine And.intro ?_ ?_)) ⟨rfl,by decide,sl35,by decide⟩ ?_)
    (first | refine ao_p (e_assign (v:=.sl _ _) rfl) (by repeat' (first | exact trivial | exact rfl | refine And.intro ?_ ?_)) trivial ?_ | refine ao_p (e_assign (v:=.rs _ _ _) rfl) (by repeat' (first | exact trivial | exact rfl | refine And.intro ?_ ?_)) trivial ?_ | refine ao_p (e_assign (v:=.z) rfl) (by repeat' (first | exact trivial | exact rfl | refine And.intro ?_ ?_)) trivial ?_)
    refine ao_end (w_ghost (ghost_fr [(1,([x.a]).map I,3)] ⟨rfl,trivial⟩ (l:=[(2,encInts ([x.a]))]) ⟨fr_rs c3 rfl,trivial⟩) (w_ret (j_block (j_seq (q_ret1 (d:=encInts ([x.a])) rfl ?_)))))
    exact congrArg encInts (by unfold readsR;rw [if_pos h1])
  refine w_cut_g (fun s=>Ghost Tryz.prog s ⟨envL [(1,.pt (encIns x)),(4,U8 x.op),(18,B (isIn readsL2 x.op))],fun _=>none,1⟩) (w_seq_region ?_) fun s hg=>⟨_,hg,?_⟩
  · (first | refine ao_p (e_eqlK rfl rfl keql) (by repeat' (first | exact trivial | exact rfl | refine And.intro ?_ ?_)) rfl ?_ | refine ao_p (e_eqlK rfl rfl keql') (by repeat' (first | exact trivial | exact rfl | refine And.intro ?_ ?_)) rfl ?_ | refine ao_p (e_eql rfl rfl) (by repeat' (first | exact trivial | exact rfl | refine And.intro ?_ ?_)) rfl ?_)
    refine ao_p (e_assign (v:=.s (.bool _)) rfl) (by repeat' (first | exact trivial | exact rfl | refine And.intro ?_ ?_)) trivial ?_
    refine ao_end (w_if rfl (fun h=>w_skipJ (ghost_of ⟨rfl,rfl,in_yes h (by decide),trivial⟩)) fun e3=>w_seq_region ?_)
    (first | refine ao_p (e_eqlK rfl rfl keql) (by repeat' (first | exact trivial | exact rfl | refine And.intro ?_ ?_)) rfl ?_ | refine ao_p (e_eqlK rfl rfl keql') (by repeat' (first | exact trivial | exact rfl | refine And.intro ?_ ?_)) rfl ?_ | refine ao_p (e_eql rfl rfl) (by repeat' (first | exact trivial | exact rfl | refine And.intro ?_ ?_)) rfl ?_)
    refine ao_p (e_assign (v:=.s (.bool _)) rfl) (by repeat' (first | exact trivial | exact rfl | refine And.intro ?_ ?_)) trivial ?_
    refine ao_end (w_if rfl (fun h=>w_skipJ (ghost_of ⟨rfl,rfl,in_yes h (by decide),trivial⟩)) fun e4=>w_seq_region ?_)
    (first | refine ao_p (e_eqlK rfl rfl keql) (by repeat' (first | exact trivial | exact rfl | refine And.intro ?_ ?_)) rfl ?_ | refine ao_p (e_eqlK rfl rfl keql') (by repeat' (first | exact trivial | exact rfl | refine And.intro ?_ ?_)) rfl ?_ | refine ao_p (e_eql rfl rfl) (by repeat' (first | exact trivial | exact rfl | refine And.intro ?_ ?_)) rfl ?_)
    refine ao_p (e_assign (v:=.s (.bool _)) rfl) (by repeat' (first | exact trivial | exact rfl | refine And.intro ?_ ?_)) trivial ?_
    refine ao_end (w_if rfl (fun h=>w_skipJ (ghost_of ⟨rfl,rfl,in_yes h (by decide),trivial⟩)) fun e5=>w_seq_region ?_)
    (first | refine ao_p (e_eqlK rfl rfl keql) (by repeat' (first | exact trivial | exact rfl | refine And.intro ?_ ?_)) rfl ?_ | refine ao_p (e_eqlK rfl rfl keql') (by repeat' (first | exact trivial | exact rfl | refine And.intro ?_ ?_)) rfl ?_ | refine ao_p (e_eql rfl rfl) (by repeat' (first | exact trivial | exact rfl | refine And.intro ?_ ?_)) rfl ?_)
    refine ao_p (e_assign (v:=.s (.bool _)) rfl) (by repeat' (first | exact trivial | exact rfl | refine And.intro ?_ ?_)) trivial ?_
    refine ao_end (w_if rfl (fun h=>w_skipJ (ghost_of ⟨rfl,rfl,in_yes h (by decide),trivial⟩)) fun e6=>w_seq_region ?_)
    (first | refine ao_p (e_eqlK rfl rfl keql) (by repeat' (first | exact trivial | exact rfl | refine And.intro ?_ ?_)) rfl ?_ | refine ao_p (e_eqlK rfl rfl keql') (by repeat' (first | exact trivial | exact rfl | refine And.intro ?_ ?_)) rfl ?_ | refine ao_p (e_eql rfl rfl) (by repeat' (first | exact trivial | exact rfl | refine And.intro ?_ ?_)) rfl ?_)
    refine ao_p (e_assign (v:=.s (.bool _)) rfl) (by repeat' (first | exact trivial | exact rfl | refine And.intro ?_ ?_)) trivial ?_
    refine ao_end (w_if rfl (fun h=>w_skipJ (ghost_of ⟨rfl,rfl,in_yes h (by decide),trivial⟩)) fun e7=>w_seq_region ?_)
    (first | refine ao_p (e_eqlK rfl rfl keql) (by repeat' (first | exact trivial | exact rfl | refine And.intro ?_ ?_)) rfl ?_ | refine ao_p (e_eqlK rfl rfl keql') (by repeat' (first | exact trivial | exact rfl | refine And.intro ?_ ?_)) rfl ?_ | refine ao_p (e_eql rfl rfl) (by repeat' (first | exact trivial | exact rfl | refine And.intro ?_ ?_)) rfl ?_)
    refine ao_p (e_assign (v:=.s (.bool _)) rfl) (by repeat' (first | exact trivial | exact rfl | refine And.intro ?_ ?_)) trivial ?_
    refine ao_end (w_if rfl (fun h=>w_skipJ (ghost_of ⟨rfl,rfl,in_yes h (by decide),trivial⟩)) fun e12=>w_seq_region ?_)
    (first | refine ao_p (e_eqlK rfl rfl keql) (by repeat' (first | exact trivial | exact rfl | refine And.intro ?_ ?_)) rfl ?_ | refine ao_p (e_eqlK rfl rfl keql') (by repeat' (first | exact trivial | exact rfl | refine And.intro ?_ ?_)) rfl ?_ | refine ao_p (e_eql rfl rfl) (by repeat' (first | exact trivial | exact rfl | refine And.intro ?_ ?_)) rfl ?_)
    refine ao_p (e_assign (v:=.s (.bool _)) rfl) (by repeat' (first | exact trivial | exact rfl | refine And.intro ?_ ?_)) trivial ?_
    refine ao_end (w_if rfl (fun h=>w_skipJ (ghost_of ⟨rfl,rfl,in_yes h (by decide),trivial⟩)) fun e30=>w_seq_region ?_)
    (first | refine ao_p (e_eqlK rfl rfl keql) (by repeat' (first | exact trivial | exact rfl | refine And.intro ?_ ?_)) rfl ?_ | refine ao_p (e_eqlK rfl rfl keql') (by repeat' (first | exact trivial | exact rfl | refine And.intro ?_ ?_)) rfl ?_ | refine ao_p (e_eql rfl rfl) (by repeat' (first | exact trivial | exact rfl | refine And.intro ?_ ?_)) rfl ?_)
    refine ao_p (e_assign (v:=.s (.bool _)) rfl) (by repeat' (first | exact trivial | exact rfl | refine And.intro ?_ ?_)) trivial ?_
    refine ao_end (w_if rfl (fun h=>w_skipJ (ghost_of ⟨rfl,rfl,in_yes h (by decide),trivial⟩)) fun e31=>w_seq_region ?_)
    (first | refine ao_p (e_eqlK rfl rfl keql) (by repeat' (first | exact trivial | exact rfl | refine And.intro ?_ ?_)) rfl ?_ | refine ao_p (e_eqlK rfl rfl keql') (by repeat' (first | exact trivial | exact rfl | refine And.intro ?_ ?_)) rfl ?_ | refine ao_p (e_eql rfl rfl) (by repeat' (first | exact trivial | exact rfl | refine And.intro ?_ ?_)) rfl ?_)
    refine ao_p (e_assign (v:=.s (.bool _)) rfl) (by repeat' (first | exact trivial | exact rfl | refine And.intro ?_ ?_)) trivial ?_
    refine ao_end (w_if rfl (fun h=>w_skipJ (ghost_of ⟨rfl,rfl,in_yes h (by decide),trivial⟩)) fun e32=>w_seq_region ?_)
    (first | refine ao_p (e_eqlK rfl rfl keql) (by repeat' (first | exact trivial | exact rfl | refine And.intro ?_ ?_)) rfl ?_ | refine ao_p (e_eqlK rfl rfl keql') (by repeat' (first | exact trivial | exact rfl | refine And.intro ?_ ?_)) rfl ?_ | refine ao_p (e_eql rfl rfl) (by repeat' (first | exact trivial | exact rfl | refine And.intro ?_ ?_)) rfl ?_)
    refine ao_p (e_assign (v:=.s (.bool _)) rfl) (by repeat' (first | exact trivial | exact rfl | refine And.intro ?_ ?_)) trivial ?_
    refine ao_end (w_if rfl (fun h=>w_skipJ (ghost_of ⟨rfl,rfl,in_yes h (by decide),trivial⟩)) fun e33=>w_seq_region ?_)
    (first | refine ao_p (e_eqlK rfl rfl keql) (by repeat' (first | exact trivial | exact rfl | refine And.intro ?_ ?_)) rfl ?_ | refine ao_p (e_eqlK rfl rfl keql') (by repeat' (first | exact trivial | exact rfl | refine And.intro ?_ ?_)) rfl ?_ | refine ao_p (e_eql rfl rfl) (by repeat' (first | exact trivial | exact rfl | refine And.intro ?_ ?_)) rfl ?_)
    refine ao_p (e_assign (v:=.s (.bool _)) rfl) (by repeat' (first | exact trivial | exact rfl | refine And.intro ?_ ?_)) trivial ?_
    refine ao_end (w_if rfl (fun h=>w_skipJ (ghost_of ⟨rfl,rfl,in_yes h (by decide),trivial⟩)) fun e23=>w_seq_region ?_)
    (first | refine ao_p (e_eqlK rfl rfl keql) (by repeat' (first | exact trivial | exact rfl | refine And.intro ?_ ?_)) rfl ?_ | refine ao_p (e_eqlK rfl rfl keql') (by repeat' (first | exact trivial | exact rfl | refine And.intro ?_ ?_)) rfl ?_ | refine ao_p (e_eql rfl rfl) (by repeat' (first | exact trivial | exact rfl | refine And.intro ?_ ?_)) rfl ?_)
    refine ao_p (e_assign (v:=.s (.bool _)) rfl) (by repeat' (first | exact trivial | exact rfl | refine And.intro ?_ ?_)) trivial ?_
    refine ao_end (w_if rfl (fun h=>w_skipJ (ghost_of ⟨rfl,rfl,in_yes h (by decide),trivial⟩)) fun e35=>w_regJ ?_)
    (first | refine ao_p (e_eqlK rfl rfl keql) (by repeat' (first | exact trivial | exact rfl | refine And.intro ?_ ?_)) rfl ?_ | refine ao_p (e_eqlK rfl rfl keql') (by repeat' (first | exact trivial | exact rfl | refine And.intro ?_ ?_)) rfl ?_ | refine ao_p (e_eql rfl rfl) (by repeat' (first | exact trivial | exact rfl | refine And.intro ?_ ?_)) rfl ?_)
    refine ao_p (e_assign (v:=.s (.bool _)) rfl) (by repeat' (first | exact trivial | exact rfl | refine And.intro ?_ ?_)) trivial ?_
    refine ao_end ?_
    refine ghost_of ⟨rfl,rfl,?_,trivial⟩
    show D.s (.bool (x.op==37))=_
    simp [isIn,readsL2,e3,e4,e5,e6,e7,e12,e30,e31,e32,e33,e23,e35]
  refine w_if rfl (fun h2=>?_) fun h2=>?_
  · refine w_seq_region_g ?_
    (first | refine ao_p (e_faddr rfl f45_2) (by repeat' (first | exact trivial | exact rfl | refine And.intro ?_ ?_)) (p_pos c3) ?_ | refine ao_p (e_faddrR rfl rfl f45_2) (by repeat' (first | exact trivial | exact rfl | refine And.intro ?_ ?_)) (p_pos c3) ?_)
    (first | refine ao_p (e_load rfl a3) (by repeat' (first | exact trivial | exact rfl | refine And.intro ?_ ?_)) (p_load t3 c3) ?_ | refine ao_p (e_loadR rfl rfl kd a3) (by repeat' (first | exact trivial | exact rfl | refine And.intro ?_ ?_)) (p_loadR t3 c3 kd) ?_ | refine ao_p (e_loadR rfl rfl kd' a3) (by repeat' (first | exact trivial | exact rfl | refine And.intro ?_ ?_)) (p_loadR t3 c3 kd') ?_ | refine ao_p (e_loadR rfl rfl rfl a3) (by repeat' (first | exact trivial | exact rfl | refine And.intro ?_ ?_)) (p_loadR t3 c3 rfl) ?_)
    (first | refine ao_p (e_faddr rfl f45_3) (by repeat' (first | exact trivial | exact rfl | refine And.intro ?_ ?_)) (p_pos c3) ?_ | refine ao_p (e_faddrR rfl rfl f45_3) (by repeat' (first | exact trivial | exact rfl | refine And.intro ?_ ?_)) (p_pos c3) ?_)
    (first | refine ao_p (e_load rfl a3) (by repeat' (first | exact trivial | exact rfl | refine And.intro ?_ ?_)) (p_load t3 c3) ?_ | refine ao_p (e_loadR rfl rfl kd a3) (by repeat' (first | exact trivial | exact rfl | refine And.intro ?_ ?_)) (p_loadR t3 c3 kd) ?_ | refine ao_p (e_loadR rfl rfl kd' a3) (by repeat' (first | exact trivial | exact rfl | refine And.intro ?_ ?_)) (p_loadR t3 c3 kd') ?_ | refine ao_p (e_loadR rfl rfl rfl a3) (by repeat' (first | exact trivial | exact rfl | refine And.intro ?_ ?_)) (p_loadR t3 c3 rfl) ?_)
    (first | refine ao_a (e_buildSl (cs:=[_,_]) e35 c3 z3 rfl rfl) (by repeat' (first | exact trivial | exact rfl | refine And.intro ?_ ?_)) ⟨rfl,by decide,sl35,by decide⟩ ?_ | refine ao_a (e_buildSl e35 c3 z3 rfl rfl) (by repeat' (first | exact trivial | exact rfl | refine And.intro ?_ ?_)) ⟨rfl,by decide,sl35,by decide⟩ ?_)
    (first | refine ao_p (e_assign (v:=.sl _ _) rfl) (by repeat' (first | exact trivial | exact rfl | refine And.intro ?_ ?_)) trivial ?_ | refine ao_p (e_assign (v:=.rs _ _ _) rfl) (by repeat' (first | exact trivial | exact rfl | refine And.intro ?_ ?_)) trivial ?_ | refine ao_p (e_assign (v:=.z) rfl) (by repeat' (first | exact trivial | exact rfl | refine And.intro ?_ ?_)) trivial ?_)
    refine ao_end (w_ghost (ghost_fr [(1,([x.a,x.b]).map I,3)] ⟨rfl,trivial⟩ (l:=[(2,encInts ([x.a,x.b]))]) ⟨fr_rs c3 rfl,trivial⟩) (w_ret (j_block (j_seq (q_ret1 (d:=encInts ([x.a,x.b])) rfl ?_)))))
    exact congrArg encInts (by unfold readsR;rw [if_neg (by simp [h1]),if_pos h2])
  refine w_seq_region ?_
  (first | refine ao_p (e_eqlK rfl rfl keql) (by repeat' (first | exact trivial | exact rfl | refine And.intro ?_ ?_)) rfl ?_ | refine ao_p (e_eqlK rfl rfl keql') (by repeat' (first | exact trivial | exact rfl | refine And.intro ?_ ?_)) rfl ?_ | refine ao_p (e_eql rfl rfl) (by repeat' (first | exact trivial | exact rfl | refine And.intro ?_ ?_)) rfl ?_)
  refine ao_p (e_assign (v:=.s (.bool _)) rfl) (by repeat' (first | exact trivial | exact rfl | refine And.intro ?_ ?_)) trivial ?_
  refine ao_end (w_if rfl (fun h3=>?_) fun h3=>?_)
  · have h3:x.op=10:=by simpa using h3
    have hl:=hx (.inl h3)
    have kapp:(x.args.map I).take (x.args.length*1)=x.args.map I:=List.take_of_length_le (by simp)
    refine w_seq_region_g ?_
    (first | refine ao_a (e_buildSl (cs:=[]) e35 c3 z3 rfl rfl) (by repeat' (first | exact trivial | exact rfl | refine And.intro ?_ ?_)) ⟨rfl,by decide,sl35,by decide⟩ ?_ | refine ao_a (e_buildSl e35 c3 z3 rfl rfl) (by repeat' (first | exact trivial | exact rfl | refine And.intro ?_ ?_)) ⟨rfl,by decide,sl35,by decide⟩ ?_)
    (first | refine ao_p (e_faddr rfl f45_5) (by repeat' (first | exact trivial | exact rfl | refine And.intro ?_ ?_)) (p_pos c35) ?_ | refine ao_p (e_faddrR rfl rfl f45_5) (by repeat' (first | exact trivial | exact rfl | refine And.intro ?_ ?_)) (p_pos c35) ?_)
    (first | refine ao_p (e_load rfl a35) (by repeat' (first | exact trivial | exact rfl | refine And.intro ?_ ?_)) (p_load t35 c35) ?_ | refine ao_p (e_loadR rfl rfl kd a35) (by repeat' (first | exact trivial | exact rfl | refine And.intro ?_ ?_)) (p_loadR t35 c35 kd) ?_ | refine ao_p (e_loadR rfl rfl kd' a35) (by repeat' (first | exact trivial | exact rfl | refine And.intro ?_ ?_)) (p_loadR t35 c35 kd') ?_ | refine ao_p (e_loadR rfl rfl rfl a35) (by repeat' (first | exact trivial | exact rfl | refine And.intro ?_ ?_)) (p_loadR t35 c35 rfl) ?_)
    (first | refine ao_m (e_appR rfl rfl rfl e35 c3 (cells_sl kapp) rfl) (by repeat' (first | exact trivial | exact rfl | refine And.intro ?_ ?_)) ⟨sl35,rfl,(by first | omega | exact Nat.le_of_ble_eq_true rfl | (simp;done) | (simp;omega)),(by decide),(by first | rfl | (simp;done) | (simp;omega)),(by unfold maxLen;first | omega | (simp;omega)),(by rw [b3];first | omega | (simp;omega)),(by first | (simp;done) | (simp;omega))⟩ ?_ | refine ao_m (e_appR rfl rfl rfl e35 c3 (cells_rs rfl rfl) rfl) (by repeat' (first | exact trivial | exact rfl | refine And.intro ?_ ?_)) ⟨sl35,rfl,(by first | omega | exact Nat.le_of_ble_eq_true rfl | (simp;done) | (simp;omega)),(by decide),(by first | rfl | (simp;done) | (simp;omega)),(by unfold maxLen;first | omega | (simp;omega)),(by rw [b3];first | omega | (simp;omega)),(by first | (simp;done) | (simp;omega))⟩ ?_ | refine ao_a (e_appZ rfl rfl e35 c3 (cells_sl kapp)) (by repeat' (first | exact trivial | exact rfl | refine And.intro ?_ ?_)) ⟨sl35,(by first | omega | exact Nat.le_of_ble_eq_true rfl | (simp;done) | (simp;omega)),(by decide),(by unfold maxLen;first | omega | (simp;omega)),(by rw [b3];first | omega | (simp;omega))⟩ ?_ | refine ao_a (e_appZ rfl rfl e35 c3 (cells_rs rfl rfl)) (by repeat' (first | exact trivial | exact rfl | refine And.intro ?_ ?_)) ⟨sl35,(by first | omega | exact Nat.le_of_ble_eq_true rfl | (simp;done) | (simp;omega)),(by decide),(by unfold maxLen;first | omega | (simp;omega)),(by rw [b3];first | omega | (simp;omega))⟩ ?_)
    (first | refine ao_p (e_assign (v:=.sl _ _) rfl) (by repeat' (first | exact trivial | exact rfl | refine And.intro ?_ ?_)) trivial ?_ | refine ao_p (e_assign (v:=.rs _ _ _) rfl) (by repeat' (first | exact trivial | exact rfl | refine And.intro ?_ ?_)) trivial ?_ | refine ao_p (e_assign (v:=.z) rfl) (by repeat' (first | exact trivial | exact rfl | refine And.intro ?_ ?_)) trivial ?_)
    refine ao_end (w_ghost (ghost_fr [(2,x.args.map I,3)] ⟨rfl,trivial⟩ (l:=[(2,encInts x.args)]) ⟨?_,trivial⟩) (w_ret (j_block (j_seq (q_ret1 (d:=encInts x.args) rfl ?_)))))
    · show frE _ [(2,_,3)] (.rs 2 0 (0+x.args.length))=_
      refine (fr_rs c3 (es:=x.args.map I) (List.take_of_length_le (by simp))).trans ?_
      rw [Nat.zero_add]
    exact congrArg encInts (by unfold readsR;rw [if_neg (by simp [h1]),if_neg (by simp [h2]),if_pos h3])
  have h3:¬ x.op=10:=by simpa using h3
  refine w_seq_region ?_
  (first | refine ao_p (e_eqlK rfl rfl keql) (by repeat' (first | exact trivial | exact rfl | refine And.intro ?_ ?_)) rfl ?_ | refine ao_p (e_eqlK rfl rfl keql') (by repeat' (first | exact trivial | exact rfl | refine And.intro ?_ ?_)) rfl ?_ | refine ao_p (e_eql rfl rfl) (by repeat' (first | exact trivial | exact rfl | refine And.intro ?_ ?_)) rfl ?_)
  refine ao_p (e_assign (v:=.s (.bool _)) rfl) (by repeat' (first | exact trivial | exact rfl | refine And.intro ?_ ?_)) trivial ?_
  refine ao_end (w_if rfl (fun h4=>?_) fun h4=>?_)
  · have h4:x.op=38:=by simpa using h4
    have hl:=hx (.inr h4)
    have kapp:(x.args.map I).take (x.args.length*1)=x.args.map I:=List.take_of_length_le (by simp)
    refine w_seq_region_g ?_
    (first | refine ao_p (e_faddr rfl f45_2) (by repeat' (first | exact trivial | exact rfl | refine And.intro ?_ ?_)) (p_pos c3) ?_ | refine ao_p (e_faddrR rfl rfl f45_2) (by repeat' (first | exact trivial | exact rfl | refine And.intro ?_ ?_)) (p_pos c3) ?_)
    (first | refine ao_p (e_load rfl a3) (by repeat' (first | exact trivial | exact rfl | refine And.intro ?_ ?_)) (p_load t3 c3) ?_ | refine ao_p (e_loadR rfl rfl kd a3) (by repeat' (first | exact trivial | exact rfl | refine And.intro ?_ ?_)) (p_loadR t3 c3 kd) ?_ | refine ao_p (e_loadR rfl rfl kd' a3) (by repeat' (first | exact trivial | exact rfl | refine And.intro ?_ ?_)) (p_loadR t3 c3 kd') ?_ | refine ao_p (e_loadR rfl rfl rfl a3) (by repeat' (first | exact trivial | exact rfl | refine And.intro ?_ ?_)) (p_loadR t3 c3 rfl) ?_)
    (first | refine ao_p (e_faddr rfl f45_3) (by repeat' (first | exact trivial | exact rfl | refine And.intro ?_ ?_)) (p_pos c3) ?_ | refine ao_p (e_faddrR rfl rfl f45_3) (by repeat' (first | exact trivial | exact rfl | refine And.intro ?_ ?_)) (p_pos c3) ?_)
    (first | refine ao_p (e_load rfl a3) (by repeat' (first | exact trivial | exact rfl | refine And.intro ?_ ?_)) (p_load t3 c3) ?_ | refine ao_p (e_loadR rfl rfl kd a3) (by repeat' (first | exact trivial | exact rfl | refine And.intro ?_ ?_)) (p_loadR t3 c3 kd) ?_ | refine ao_p (e_loadR rfl rfl kd' a3) (by repeat' (first | exact trivial | exact rfl | refine And.intro ?_ ?_)) (p_loadR t3 c3 kd') ?_ | refine ao_p (e_loadR rfl rfl rfl a3) (by repeat' (first | exact trivial | exact rfl | refine And.intro ?_ ?_)) (p_loadR t3 c3 rfl) ?_)
    (first | refine ao_a (e_buildSl (cs:=[_,_]) e35 c3 z3 rfl rfl) (by repeat' (first | exact trivial | exact rfl | refine And.intro ?_ ?_)) ⟨rfl,by decide,sl35,by decide⟩ ?_ | refine ao_a (e_buildSl e35 c3 z3 rfl rfl) (by repeat' (first | exact trivial | exact rfl | refine And.intro ?_ ?_)) ⟨rfl,by decide,sl35,by decide⟩ ?_)
    (first | refine ao_p (e_faddr rfl f45_5) (by repeat' (first | exact trivial | exact rfl | refine And.intro ?_ ?_)) (p_pos c35) ?_ | refine ao_p (e_faddrR rfl rfl f45_5) (by repeat' (first | exact trivial | exact rfl | refine And.intro ?_ ?_)) (p_pos c35) ?_)
    (first | refine ao_p (e_load rfl a35) (by repeat' (first | exact trivial | exact rfl | refine And.intro ?_ ?_)) (p_load t35 c35) ?_ | refine ao_p (e_loadR rfl rfl kd a35) (by repeat' (first | exact trivial | exact rfl | refine And.intro ?_ ?_)) (p_loadR t35 c35 kd) ?_ | refine ao_p (e_loadR rfl rfl kd' a35) (by repeat' (first | exact trivial | exact rfl | refine And.intro ?_ ?_)) (p_loadR t35 c35 kd') ?_ | refine ao_p (e_loadR rfl rfl rfl a35) (by repeat' (first | exact trivial | exact rfl | refine And.intro ?_ ?_)) (p_loadR t35 c35 rfl) ?_)
    (first | refine ao_m (e_appR rfl rfl rfl e35 c3 (cells_sl kapp) rfl) (by repeat' (first | exact trivial | exact rfl | refine And.intro ?_ ?_)) ⟨sl35,rfl,(by first | omega | exact Nat.le_of_ble_eq_true rfl | (simp;done) | (simp;omega)),(by decide),(by first | rfl | (simp;done) | (simp;omega)),(by unfold maxLen;first | omega | (simp;omega)),(by rw [b3];first | omega | (simp;omega)),(by first | (simp;done) | (simp;omega))⟩ ?_ | refine ao_m (e_appR rfl rfl rfl e35 c3 (cells_rs rfl rfl) rfl) (by repeat' (first | exact trivial | exact rfl | refine And.intro ?_ ?_)) ⟨sl35,rfl,(by first | omega | exact Nat.le_of_ble_eq_true rfl | (simp;done) | (simp;omega)),(by decide),(by first | rfl | (simp;done) | (simp;omega)),(by unfold maxLen;first | omega | (simp;omega)),(by rw [b3];first | omega | (simp;omega)),(by first | (simp;done) | (simp;omega))⟩ ?_ | refine ao_a (e_appZ rfl rfl e35 c3 (cells_sl kapp)) (by repeat' (first | exact trivial | exact rfl | refine And.intro ?_ ?_)) ⟨sl35,(by first | omega | exact Nat.le_of_ble_eq_true rfl | (simp;done) | (simp;omega)),(by decide),(by unfold maxLen;first | omega | (simp;omega)),(by rw [b3];first | omega | (simp;omega))⟩ ?_ | refine ao_a (e_appZ rfl rfl e35 c3 (cells_rs rfl rfl)) (by repeat' (first | exact trivial | exact rfl | refine And.intro ?_ ?_)) ⟨sl35,(by first | omega | exact Nat.le_of_ble_eq_true rfl | (simp;done) | (simp;omega)),(by decide),(by unfold maxLen;first | omega | (simp;omega)),(by rw [b3];first | omega | (simp;omega))⟩ ?_)
    (first | refine ao_p (e_assign (v:=.sl _ _) rfl) (by repeat' (first | exact trivial | exact rfl | refine And.intro ?_ ?_)) trivial ?_ | refine ao_p (e_assign (v:=.rs _ _ _) rfl) (by repeat' (first | exact trivial | exact rfl | refine And.intro ?_ ?_)) trivial ?_ | refine ao_p (e_assign (v:=.z) rfl) (by repeat' (first | exact trivial | exact rfl | refine And.intro ?_ ?_)) trivial ?_)
    refine ao_end (w_ghost (ghost_fr [(2,(x.a::x.b::x.args).map I,3)] ⟨rfl,trivial⟩ (l:=[(2,encInts (x.a::x.b::x.args))]) ⟨?_,trivial⟩) (w_ret (j_block (j_seq (q_ret1 (d:=encInts (x.a::x.b::x.args)) rfl ?_)))))
    · show frE _ [(2,_,3)] (.rs 2 0 (2+x.args.length))=_
      refine (fr_rs c3 (es:=(x.a::x.b::x.args).map I) (List.take_of_length_le (by simp;omega))).trans ?_
      rw [Nat.add_comm];rfl
    · exact congrArg encInts (by unfold readsR;rw [if_neg (by simp [h1]),if_neg (by simp [h2]),if_neg h3,if_pos h4])
  have h4:¬ x.op=38:=by simpa using h4
  refine w_endB (w_seq_region_g ?_)
  (first | refine ao_p (e_assign (v:=.sl _ _) rfl) (by repeat' (first | exact trivial | exact rfl | refine And.intro ?_ ?_)) trivial ?_ | refine ao_p (e_assign (v:=.rs _ _ _) rfl) (by repeat' (first | exact trivial | exact rfl | refine And.intro ?_ ?_)) trivial ?_ | refine ao_p (e_assign (v:=.z) rfl) (by repeat' (first | exact trivial | exact rfl | refine And.intro ?_ ?_)) trivial ?_)
  refine ao_end (w_ghost (ghost_nil (n0:=2) rfl) (q_ret1 (d:=encInts []) rfl ?_))
  exact congrArg encInts (by unfold readsR;rw [if_neg (by simp [h1]),if_neg (by simp [h2]),if_neg h3,if_neg h4])
theorem k30 {x:Argus.End} (hx:x.kind=5→x.ins.op=10∨x.ins.op=38→x.ins.args.length≤1000) (hy:x.kind=6∨x.kind=7→x.args.length≤1000):PCall Tryz.prog 30 [.agg (encEnd x)] (encInts (readsEnd x)):=by
  have htr:∀ a∈[D.agg (encEnd x)],Tr a:=.cons (.agg (trs_end x)) .nil
  refine pcall_of mixed ok30 (by rw [nt30];rfl) htr (tr_ints _) ?_
  rw [rs30,sk30]
  refine w_seq_region_g ?_
  refine ao_a (e_boxA (cs:=encEnd _) rfl) (by repeat' (first | exact trivial | exact rfl | refine And.intro ?_ ?_)) (by first | rfl | exact one_code hp1 hq1 | exact oneW _ | exact one_S hd1) ?_
  (first | refine ao_p (e_assign (v:=.sl _ _) rfl) (by repeat' (first | exact trivial | exact rfl | refine And.intro ?_ ?_)) trivial ?_ | refine ao_p (e_assign (v:=.rs _ _ _) rfl) (by repeat' (first | exact trivial | exact rfl | refine And.intro ?_ ?_)) trivial ?_ | refine ao_p (e_assign (v:=.z) rfl) (by repeat' (first | exact trivial | exact rfl | refine And.intro ?_ ?_)) trivial ?_)
  refine ao_end (w_ghost (ghost_fr [(0,encEnd x,48)] ⟨rfl,trivial⟩ (l:=[(1,.pt (encEnd x))]) ⟨rfl,trivial⟩) (w_assoc (w_seq_region ?_)))
  (first | refine ao_p (e_faddr rfl f48_0) (by repeat' (first | exact trivial | exact rfl | refine And.intro ?_ ?_)) (p_pos c5) ?_ | refine ao_p (e_faddrR rfl rfl f48_0) (by repeat' (first | exact trivial | exact rfl | refine And.intro ?_ ?_)) (p_pos c5) ?_)
  (first | refine ao_p (e_load rfl a5) (by repeat' (first | exact trivial | exact rfl | refine And.intro ?_ ?_)) (p_load t5 c5) ?_ | refine ao_p (e_loadR rfl rfl kd a5) (by repeat' (first | exact trivial | exact rfl | refine And.intro ?_ ?_)) (p_loadR t5 c5 kd) ?_ | refine ao_p (e_loadR rfl rfl kd' a5) (by repeat' (first | exact trivial | exact rfl | refine And.intro ?_ ?_)) (p_loadR t5 c5 kd') ?_ | refine ao_p (e_loadR rfl rfl rfl a5) (by repeat' (first | exact trivial | exact rfl | refine And.intro ?_ ?_)) (p_loadR t5 c5 rfl) ?_)
  refine ao_end (w_seq_blk ?_)
  refine w_cut_g (fun s=>Ghost Tryz.prog s ⟨envL [(1,.pt (encEnd x)),(4,U8 x.kind),(5,B (isIn [2,8,9] x.kind))],fun _=>none,1⟩) (w_seq_region ?_) fun s hg=>⟨_,hg,?_⟩
  · (first | refine ao_p (e_eqlK rfl rfl keql) (by repeat' (first | exact trivial | exact rfl | refine And.intro ?_ ?_)) rfl ?_ | refine ao_p (e_eqlK rfl rfl keql') (by repeat' (first | exact trivial | exact rfl | refine And.intro ?_ ?_)) rfl ?_ | refine ao_p (e_eql rfl rfl) (by repeat' (first | exact trivial | exact rfl | refine And.intro ?_ ?_)) rfl ?_)
    refine ao_p (e_assign (v:=.s (.bool _)) rfl) (by repeat' (first | exact trivial | exact rfl | refine And.intro ?_ ?_)) trivial ?_
    refine ao_end (w_if rfl (fun h=>w_skipJ (ghost_of ⟨rfl,rfl,in_yes h (by decide),trivial⟩)) fun e2=>w_seq_region ?_)
    (first | refine ao_p (e_eqlK rfl rfl keql) (by repeat' (first | exact trivial | exact rfl | refine And.intro ?_ ?_)) rfl ?_ | refine ao_p (e_eqlK rfl rfl keql') (by repeat' (first | exact trivial | exact rfl | refine And.intro ?_ ?_)) rfl ?_ | refine ao_p (e_eql rfl rfl) (by repeat' (first | exact trivial | exact rfl | refine And.intro ?_ ?_)) rfl ?_)
    refine ao_p (e_assign (v:=.s (.bool _)) rfl) (by repeat' (first | exact trivial | exact rfl | refine And.intro ?_ ?_)) trivial ?_
    refine ao_end (w_if rfl (fun h=>w_skipJ (ghost_of ⟨rfl,rfl,in_yes h (by decide),trivial⟩)) fun e8=>w_regJ ?_)
    (first | refine ao_p (e_eqlK rfl rfl keql) (by repeat' (first | exact trivial | exact rfl | refine And.intro ?_ ?_)) rfl ?_ | refine ao_p (e_eqlK rfl rfl keql') (by repeat' (first | exact trivial | exact rfl | refine And.intro ?_ ?_)) rfl ?_ | refine ao_p (e_eql rfl rfl) (by repeat' (first | exact trivial | exact rfl | refine And.intro ?_ ?_)) rfl ?_)
    refine ao_p (e_assign (v:=.s (.bool _)) rfl) (by repeat' (first | exact trivial | exact rfl | refine And.intro ?_ ?_)) trivial ?_
    refine ao_end ?_
    refine ghost_of ⟨rfl,rfl,?_,trivial⟩
    show D.s (.bool (x.kind==9))=_
    simp [isIn,e2,e8]
  refine w_if rfl (fun h1=>?_) fun h1=>?_
  · refine w_seq_region_g ?_
    (first | refine ao_p (e_faddr rfl f48_1) (by repeat' (first | exact trivial | exact rfl | refine And.intro ?_ ?_)) (p_pos c3) ?_ | refine ao_p (e_faddrR rfl rfl f48_1) (by repeat' (first | exact trivial | exact rfl | refine And.intro ?_ ?_)) (p_pos c3) ?_)
    (first | refine ao_p (e_load rfl a3) (by repeat' (first | exact trivial | exact rfl | refine And.intro ?_ ?_)) (p_load t3 c3) ?_ | refine ao_p (e_loadR rfl rfl kd a3) (by repeat' (first | exact trivial | exact rfl | refine And.intro ?_ ?_)) (p_loadR t3 c3 kd) ?_ | refine ao_p (e_loadR rfl rfl kd' a3) (by repeat' (first | exact trivial | exact rfl | refine And.intro ?_ ?_)) (p_loadR t3 c3 kd') ?_ | refine ao_p (e_loadR rfl rfl rfl a3) (by repeat' (first | exact trivial | exact rfl | refine And.intro ?_ ?_)) (p_loadR t3 c3 rfl) ?_)
    (first | refine ao_a (e_buildSl (cs:=[_]) e35 c3 z3 rfl rfl) (by repeat' (first | exact trivial | exact rfl | refine And.intro ?_ ?_)) ⟨rfl,by decide,sl35,by decide⟩ ?_ | refine ao_a (e_buildSl e35 c3 z3 rfl rfl) (by repeat' (first | exact trivial | exact rfl | refine And.intro ?_ ?_)) ⟨rfl,by decide,sl35,by decide⟩ ?_)
    (first | refine ao_p (e_assign (v:=.sl _ _) rfl) (by repeat' (first | exact trivial | exact rfl | refine And.intro ?_ ?_)) trivial ?_ | refine ao_p (e_assign (v:=.rs _ _ _) rfl) (by repeat' (first | exact trivial | exact rfl | refine And.intro ?_ ?_)) trivial ?_ | refine ao_p (e_assign (v:=.z) rfl) (by repeat' (first | exact trivial | exact rfl | refine And.intro ?_ ?_)) trivial ?_)
    refine ao_end (w_ghost (ghost_fr [(1,([x.a]).map I,3)] ⟨rfl,trivial⟩ (l:=[(2,encInts ([x.a]))]) ⟨fr_rs c3 rfl,trivial⟩) (w_ret (j_block (j_seq (q_ret1 (d:=encInts ([x.a])) rfl ?_)))))
    exact congrArg encInts (by unfold readsEnd;rw [if_pos h1])
  refine w_seq_region ?_
  (first | refine ao_p (e_eqlK rfl rfl keql) (by repeat' (first | exact trivial | exact rfl | refine And.intro ?_ ?_)) rfl ?_ | refine ao_p (e_eqlK rfl rfl keql') (by repeat' (first | exact trivial | exact rfl | refine And.intro ?_ ?_)) rfl ?_ | refine ao_p (e_eql rfl rfl) (by repeat' (first | exact trivial | exact rfl | refine And.intro ?_ ?_)) rfl ?_)
  refine ao_p (e_assign (v:=.s (.bool _)) rfl) (by repeat' (first | exact trivial | exact rfl | refine And.intro ?_ ?_)) trivial ?_
  refine ao_end (w_if rfl (fun h2=>?_) fun h2=>?_)
  · have h2:x.kind=3:=by simpa using h2
    refine w_assoc (w_seq_region ?_)
    (first | refine ao_p (e_faddr rfl f48_1) (by repeat' (first | exact trivial | exact rfl | refine And.intro ?_ ?_)) (p_pos c3) ?_ | refine ao_p (e_faddrR rfl rfl f48_1) (by repeat' (first | exact trivial | exact rfl | refine And.intro ?_ ?_)) (p_pos c3) ?_)
    (first | refine ao_p (e_load rfl a3) (by repeat' (first | exact trivial | exact rfl | refine And.intro ?_ ?_)) (p_load t3 c3) ?_ | refine ao_p (e_loadR rfl rfl kd a3) (by repeat' (first | exact trivial | exact rfl | refine And.intro ?_ ?_)) (p_loadR t3 c3 kd) ?_ | refine ao_p (e_loadR rfl rfl kd' a3) (by repeat' (first | exact trivial | exact rfl | refine And.intro ?_ ?_)) (p_loadR t3 c3 kd') ?_ | refine ao_p (e_loadR rfl rfl rfl a3) (by repeat' (first | exact trivial | exact rfl | refine And.intro ?_ ?_)) (p_loadR t3 c3 rfl) ?_)
    (first | refine ao_p (e_eqlK rfl rfl keql) (by repeat' (first | exact trivial | exact rfl | refine And.intro ?_ ?_)) rfl ?_ | refine ao_p (e_eqlK rfl rfl keql') (by repeat' (first | exact trivial | exact rfl | refine And.intro ?_ ?_)) rfl ?_ | refine ao_p (e_eql rfl rfl) (by repeat' (first | exact trivial | exact rfl | refine And.intro ?_ ?_)) rfl ?_)
    refine ao_end (w_seq_if rfl (fun h3=>?_) fun h3=>w_seq_skip (w_seq_region_g ?_))
    · have h3:x.a= -1:=by simpa using h3
      refine w_assoc (w_seq_region_g ?_)
      (first | refine ao_p (e_assign (v:=.sl _ _) rfl) (by repeat' (first | exact trivial | exact rfl | refine And.intro ?_ ?_)) trivial ?_ | refine ao_p (e_assign (v:=.rs _ _ _) rfl) (by repeat' (first | exact trivial | exact rfl | refine And.intro ?_ ?_)) trivial ?_ | refine ao_p (e_assign (v:=.z) rfl) (by repeat' (first | exact trivial | exact rfl | refine And.intro ?_ ?_)) trivial ?_)
      refine ao_end (w_ghost (ghost_nil (n0:=2) rfl) (w_seq_ret (j_block (j_seq (q_ret1 (d:=encInts []) rfl ?_)))))
      exact congrArg encInts (by unfold readsEnd;rw [if_neg (by simp [h1]),if_pos h2,if_neg (by simp [h3])])
    · have h3:¬ x.a= -1:=by simpa using h3
      (first | refine ao_p (e_faddr rfl f48_1) (by repeat' (first | exact trivial | exact rfl | refine And.intro ?_ ?_)) (p_pos c3) ?_ | refine ao_p (e_faddrR rfl rfl f48_1) (by repeat' (first | exact trivial | exact rfl | refine And.intro ?_ ?_)) (p_pos c3) ?_)
      (first | refine ao_p (e_load rfl a3) (by repeat' (first | exact trivial | exact rfl | refine And.intro ?_ ?_)) (p_load t3 c3) ?_ | refine ao_p (e_loadR rfl rfl kd a3) (by repeat' (first | exact trivial | exact rfl | refine And.intro ?_ ?_)) (p_loadR t3 c3 kd) ?_ | refine ao_p (e_loadR rfl rfl kd' a3) (by repeat' (first | exact trivial | exact rfl | refine And.intro ?_ ?_)) (p_loadR t3 c3 kd') ?_ | refine ao_p (e_loadR rfl rfl rfl a3) (by repeat' (first | exact trivial | exact rfl | refine And.intro ?_ ?_)) (p_loadR t3 c3 rfl) ?_)
      (first | refine ao_a (e_buildSl (cs:=[_]) e35 c3 z3 rfl rfl) (by repeat' (first | exact trivial | exact rfl | refine And.intro ?_ ?_)) ⟨rfl,by decide,sl35,by decide⟩ ?_ | refine ao_a (e_buildSl e35 c3 z3 rfl rfl) (by repeat' (first | exact trivial | exact rfl | refine And.intro ?_ ?_)) ⟨rfl,by decide,sl35,by decide⟩ ?_)
      (first | refine ao_p (e_assign (v:=.sl _ _) rfl) (by repeat' (first | exact trivial | exact rfl | refine And.intro ?_ ?_)) trivial ?_ | refine ao_p (e_assign (v:=.rs _ _ _) rfl) (by repeat' (first | exact trivial | exact rfl | refine And.intro ?_ ?_)) trivial ?_ | refine ao_p (e_assign (v:=.z) rfl) (by repeat' (first | exact trivial | exact rfl | refine And.intro ?_ ?_)) trivial ?_)
      refine ao_end (w_ghost (ghost_fr [(1,([x.a]).map I,3)] ⟨rfl,trivial⟩ (l:=[(2,encInts ([x.a]))]) ⟨fr_rs c3 rfl,trivial⟩) (w_ret (j_block (j_seq (q_ret1 (d:=encInts ([x.a])) rfl ?_)))))
      exact congrArg encInts (by unfold readsEnd;rw [if_neg (by simp [h1]),if_pos h2,if_pos h3])
  have h2:¬ x.kind=3:=by simpa using h2
  refine w_seq_region ?_
  (first | refine ao_p (e_eqlK rfl rfl keql) (by repeat' (first | exact trivial | exact rfl | refine And.intro ?_ ?_)) rfl ?_ | refine ao_p (e_eqlK rfl rfl keql') (by repeat' (first | exact trivial | exact rfl | refine And.intro ?_ ?_)) rfl ?_ | refine ao_p (e_eql rfl rfl) (by repeat' (first | exact trivial | exact rfl | refine And.intro ?_ ?_)) rfl ?_)
  refine ao_p (e_assign (v:=.s (.bool _)) rfl) (by repeat' (first | exact trivial | exact rfl | refine And.intro ?_ ?_)) trivial ?_
  refine ao_end (w_if rfl (fun h3=>?_) fun h3=>?_)
  · have h3:x.kind=5:=by simpa using h3
    have k26:=k26 (x:=x.ins) (hx h3)
    refine w_seq_region ?_
    (first | refine ao_p (e_faddr rfl f48_6) (by repeat' (first | exact trivial | exact rfl | refine And.intro ?_ ?_)) (p_pos c45) ?_ | refine ao_p (e_faddrR rfl rfl f48_6) (by repeat' (first | exact trivial | exact rfl | refine And.intro ?_ ?_)) (p_pos c45) ?_)
    (first | refine ao_p (e_loadA (vs:=encIns _) rfl a45 c45 rfl) (by repeat' (first | exact trivial | exact rfl | refine And.intro ?_ ?_)) (p_loadA t45 c45 (by simp)) ?_ | refine ao_p (e_loadRA (vs:=encIns _) rfl rfl a45 c45 rfl) (by repeat' (first | exact trivial | exact rfl | refine And.intro ?_ ?_)) (p_loadRA t45 c45 (by first | (simp;done) | omega | exact Nat.le_of_ble_eq_true rfl)) ?_ | refine ao_p (e_loadRA rfl rfl a45 c45 rfl) (by repeat' (first | exact trivial | exact rfl | refine And.intro ?_ ?_)) (p_loadRA t45 c45 (by first | (simp;done) | omega | exact Nat.le_of_ble_eq_true rfl)) ?_)
    (first | refine ao_pc k26 rfl (by repeat' (first | exact trivial | exact rfl | refine And.intro ?_ ?_)) ?_ | refine ao_sc k26 rfl (ks26 rfl) rfl (by repeat' (first | exact trivial | exact rfl | refine And.intro ?_ ?_)) ?_)
    (first | refine ao_p (e_assign (v:=.sl _ _) rfl) (by repeat' (first | exact trivial | exact rfl | refine And.intro ?_ ?_)) trivial ?_ | refine ao_p (e_assign (v:=.rs _ _ _) rfl) (by repeat' (first | exact trivial | exact rfl | refine And.intro ?_ ?_)) trivial ?_ | refine ao_p (e_assign (v:=.z) rfl) (by repeat' (first | exact trivial | exact rfl | refine And.intro ?_ ?_)) trivial ?_)
    refine ao_end (w_ret (j_block (j_seq (q_ret1 (d:=encInts (readsR x.ins)) rfl ?_))))
    exact congrArg encInts (by unfold readsEnd;rw [if_neg (by simp [h1]),if_neg h2,if_pos h3])
  have h3:¬ x.kind=5:=by simpa using h3
  refine w_cut_g (fun s=>Ghost Tryz.prog s ⟨envL [(1,.pt (encEnd x)),(4,U8 x.kind),(25,B (isIn [6,7] x.kind))],fun _=>none,1⟩) (w_seq_region ?_) fun s hg=>⟨_,hg,?_⟩
  · (first | refine ao_p (e_eqlK rfl rfl keql) (by repeat' (first | exact trivial | exact rfl | refine And.intro ?_ ?_)) rfl ?_ | refine ao_p (e_eqlK rfl rfl keql') (by repeat' (first | exact trivial | exact rfl | refine And.intro ?_ ?_)) rfl ?_ | refine ao_p (e_eql rfl rfl) (by repeat' (first | exact trivial | exact rfl | refine And.intro ?_ ?_)) rfl ?_)
    refine ao_p (e_assign (v:=.s (.bool _)) rfl) (by repeat' (first | exact trivial | exact rfl | refine And.intro ?_ ?_)) trivial ?_
    refine ao_end (w_if rfl (fun h=>w_skipJ (ghost_of ⟨rfl,rfl,in_yes h (by decide),trivial⟩)) fun e6=>w_regJ ?_)
    (first | refine ao_p (e_eqlK rfl rfl keql) (by repeat' (first | exact trivial | exact rfl | refine And.intro ?_ ?_)) rfl ?_ | refine ao_p (e_eqlK rfl rfl keql') (by repeat' (first | exact trivial | exact rfl | refine And.intro ?_ ?_)) rfl ?_ | refine ao_p (e_eql rfl rfl) (by repeat' (first | exact trivial | exact rfl | refine And.intro ?_ ?_)) rfl ?_)
    refine ao_p (e_assign (v:=.s (.bool _)) rfl) (by repeat' (first | exact trivial | exact rfl | refine And.intro ?_ ?_)) trivial ?_
    refine ao_end ?_
    refine ghost_of ⟨rfl,rfl,?_,trivial⟩
    show D.s (.bool (x.kind==7))=_
    simp [isIn,e6]
  refine w_if rfl (fun h4=>?_) fun h4=>?_
  · have h5:x.kind=6∨x.kind=7:=by simpa [isIn] using h4
    have hl:=hy h5
    have kapp:(x.args.map I).take (x.args.length*1)=x.args.map I:=List.take_of_length_le (by simp)
    refine w_seq_region_g ?_
    (first | refine ao_a (e_buildSl (cs:=[]) e35 c3 z3 rfl rfl) (by repeat' (first | exact trivial | exact rfl | refine And.intro ?_ ?_)) ⟨rfl,by decide,sl35,by decide⟩ ?_ | refine ao_a (e_buildSl e35 c3 z3 rfl rfl) (by repeat' (first | exact trivial | exact rfl | refine And.intro ?_ ?_)) ⟨rfl,by decide,sl35,by decide⟩ ?_)
    (first | refine ao_p (e_faddr rfl f48_7) (by repeat' (first | exact trivial | exact rfl | refine And.intro ?_ ?_)) (p_pos c35) ?_ | refine ao_p (e_faddrR rfl rfl f48_7) (by repeat' (first | exact trivial | exact rfl | refine And.intro ?_ ?_)) (p_pos c35) ?_)
    (first | refine ao_p (e_load rfl a35) (by repeat' (first | exact trivial | exact rfl | refine And.intro ?_ ?_)) (p_load t35 c35) ?_ | refine ao_p (e_loadR rfl rfl kd a35) (by repeat' (first | exact trivial | exact rfl | refine And.intro ?_ ?_)) (p_loadR t35 c35 kd) ?_ | refine ao_p (e_loadR rfl rfl kd' a35) (by repeat' (first | exact trivial | exact rfl | refine And.intro ?_ ?_)) (p_loadR t35 c35 kd') ?_ | refine ao_p (e_loadR rfl rfl rfl a35) (by repeat' (first | exact trivial | exact rfl | refine And.intro ?_ ?_)) (p_loadR t35 c35 rfl) ?_)
    (first | refine ao_m (e_appR rfl rfl rfl e35 c3 (cells_sl kapp) rfl) (by repeat' (first | exact trivial | exact rfl | refine And.intro ?_ ?_)) ⟨sl35,rfl,(by first | omega | exact Nat.le_of_ble_eq_true rfl | (simp;done) | (simp;omega)),(by decide),(by first | rfl | (simp;done) | (simp;omega)),(by unfold maxLen;first | omega | (simp;omega)),(by rw [b3];first | omega | (simp;omega)),(by first | (simp;done) | (simp;omega))⟩ ?_ | refine ao_m (e_appR rfl rfl rfl e35 c3 (cells_rs rfl rfl) rfl) (by repeat' (first | exact trivial | exact rfl | refine And.intro ?_ ?_)) ⟨sl35,rfl,(by first | omega | exact Nat.le_of_ble_eq_true rfl | (simp;done) | (simp;omega)),(by decide),(by first | rfl | (simp;done) | (simp;omega)),(by unfold maxLen;first | omega | (simp;omega)),(by rw [b3];first | omega | (simp;omega)),(by first | (simp;done) | (simp;omega))⟩ ?_ | refine ao_a (e_appZ rfl rfl e35 c3 (cells_sl kapp)) (by repeat' (first | exact trivial | exact rfl | refine And.intro ?_ ?_)) ⟨sl35,(by first | omega | exact Nat.le_of_ble_eq_true rfl | (simp;done) | (simp;omega)),(by decide),(by unfold maxLen;first | omega | (simp;omega)),(by rw [b3];first | omega | (simp;omega))⟩ ?_ | refine ao_a (e_appZ rfl rfl e35 c3 (cells_rs rfl rfl)) (by repeat' (first | exact trivial | exact rfl | refine And.intro ?_ ?_)) ⟨sl35,(by first | omega | exact Nat.le_of_ble_eq_true rfl | (simp;done) | (simp;omega)),(by decide),(by unfold maxLen;first | omega | (simp;omega)),(by rw [b3];first | omega | (simp;omega))⟩ ?_)
    (first | refine ao_p (e_assign (v:=.sl _ _) rfl) (by repeat' (first | exact trivial | exact rfl | refine And.intro ?_ ?_)) trivial ?_ | refine ao_p (e_assign (v:=.rs _ _ _) rfl) (by repeat' (first | exact trivial | exact rfl | refine And.intro ?_ ?_)) trivial ?_ | refine ao_p (e_assign (v:=.z) rfl) (by repeat' (first | exact trivial | exact rfl | refine And.intro ?_ ?_)) trivial ?_)
    refine ao_end (w_ghost (ghost_fr [(2,x.args.map I,3)] ⟨rfl,trivial⟩ (l:=[(2,encInts x.args)]) ⟨?_,trivial⟩) (w_ret (j_block (j_seq (q_ret1 (d:=encInts x.args) rfl ?_)))))
    · show frE _ [(2,_,3)] (.rs 2 0 (0+x.args.length))=_
      refine (fr_rs c3 (es:=x.args.map I) (List.take_of_length_le (by simp))).trans ?_
      rw [Nat.zero_add]
    exact congrArg encInts (by unfold readsEnd;rw [if_neg (by simp [h1]),if_neg h2,if_neg h3,if_pos h4])
  refine w_endB (w_seq_region_g ?_)
  (first | refine ao_p (e_assign (v:=.sl _ _) rfl) (by repeat' (first | exact trivial | exact rfl | refine And.intro ?_ ?_)) trivial ?_ | refine ao_p (e_assign (v:=.rs _ _ _) rfl) (by repeat' (first | exact trivial | exact rfl | refine And.intro ?_ ?_)) trivial ?_ | refine ao_p (e_assign (v:=.z) rfl) (by repeat' (first | exact trivial | exact rfl | refine And.intro ?_ ?_)) trivial ?_)
  refine ao_end (w_ghost (ghost_nil (n0:=2) rfl) (q_ret1 (d:=encInts []) rfl ?_))
  exact congrArg encInts (by unfold readsEnd;rw [if_neg (by simp [h1]),if_neg h2,if_neg h3,if_neg (by simp [h4])])
end Go.Proofs.Tryz.K
namespace Go.Proofs.Tryz.K
set_option maxHeartbeats 2000000 in
theorem k24 {a b:List Int} (ha:a.length≤100000):PCall Tryz.prog 24 [encInts a,encInts b] (B (eqE a b)):=by
  refine pcall_of mixed ok24 (by rw [nt24];rfl) (.cons (tr_ints a) (.cons (tr_ints b) .nil)) (Tr.s _) ?_
  rw [rs24,sk24]
  refine w_seq_region ?_
  refine ao_p (e_assign (v:=.s (.bool _)) rfl) (by repeat' (first | exact trivial | exact rfl | refine And.intro ?_ ?_)) trivial ?_
  refine ao_end (w_assoc (w_seq_region ?_))
  (first | refine ao_p (e_move (v:=.sl _ _) rfl) (by repeat' (first | exact trivial | exact rfl | refine And.intro ?_ ?_)) trivial ?_ | refine ao_p (e_move (v:=.rs _ _ _) rfl) (by repeat' (first | exact trivial | exact rfl | refine And.intro ?_ ?_)) trivial ?_ | refine ao_p (e_move (v:=.z) rfl) (by repeat' (first | exact trivial | exact rfl | refine And.intro ?_ ?_)) trivial ?_)
  (first | refine ao_p (e_len rfl) (by repeat' (first | exact trivial | exact rfl | refine And.intro ?_ ?_)) sl35 ?_ | refine ao_p (e_lenR rfl rfl) (by repeat' (first | exact trivial | exact rfl | refine And.intro ?_ ?_)) sl35 ?_ | refine ao_p (e_lenZ rfl) (by repeat' (first | exact trivial | exact rfl | refine And.intro ?_ ?_)) sl35 ?_)
  (first | refine ao_p (e_move (v:=.sl _ _) rfl) (by repeat' (first | exact trivial | exact rfl | refine And.intro ?_ ?_)) trivial ?_ | refine ao_p (e_move (v:=.rs _ _ _) rfl) (by repeat' (first | exact trivial | exact rfl | refine And.intro ?_ ?_)) trivial ?_ | refine ao_p (e_move (v:=.z) rfl) (by repeat' (first | exact trivial | exact rfl | refine And.intro ?_ ?_)) trivial ?_)
  (first | refine ao_p (e_len rfl) (by repeat' (first | exact trivial | exact rfl | refine And.intro ?_ ?_)) sl35 ?_ | refine ao_p (e_lenR rfl rfl) (by repeat' (first | exact trivial | exact rfl | refine And.intro ?_ ?_)) sl35 ?_ | refine ao_p (e_lenZ rfl) (by repeat' (first | exact trivial | exact rfl | refine And.intro ?_ ?_)) sl35 ?_)
  (first | refine ao_p (e_neqK rfl rfl kneq) (by repeat' (first | exact trivial | exact rfl | refine And.intro ?_ ?_)) rfl ?_ | refine ao_p (e_neq rfl rfl) (by repeat' (first | exact trivial | exact rfl | refine And.intro ?_ ?_)) rfl ?_)
  refine ao_end (w_seq_if rfl (fun h=>w_assoc (w_seq_region ?_)) fun h=>w_seq_skip (w_assoc (w_seq_region_g ?_)))
  · have h:¬ a.length=b.length:=fun e=>by rw [e] at h;simp at h
    unfold eqE
    rw [decide_eq_false h,Bool.false_and]
    refine ao_p (e_assign (v:=.s (.bool _)) rfl) (by repeat' (first | exact trivial | exact rfl | refine And.intro ?_ ?_)) trivial ?_
    exact ao_end (w_seq_ret (q_ret1 rfl rfl))
  have h:a.length=b.length:=by
    have:(a.length:Int)=b.length:=by simpa using h
    omega
  unfold eqE
  rw [decide_eq_true h,Bool.true_and]
  (first | refine ao_p (e_move (v:=.sl _ _) rfl) (by repeat' (first | exact trivial | exact rfl | refine And.intro ?_ ?_)) trivial ?_ | refine ao_p (e_move (v:=.rs _ _ _) rfl) (by repeat' (first | exact trivial | exact rfl | refine And.intro ?_ ?_)) trivial ?_ | refine ao_p (e_move (v:=.z) rfl) (by repeat' (first | exact trivial | exact rfl | refine And.intro ?_ ?_)) trivial ?_)
  (first | refine ao_p (e_len rfl) (by repeat' (first | exact trivial | exact rfl | refine And.intro ?_ ?_)) sl35 ?_ | refine ao_p (e_lenR rfl rfl) (by repeat' (first | exact trivial | exact rfl | refine And.intro ?_ ?_)) sl35 ?_ | refine ao_p (e_lenZ rfl) (by repeat' (first | exact trivial | exact rfl | refine And.intro ?_ ?_)) sl35 ?_)
  refine ao_p (e_move (v:=.s (.int _ _)) rfl) (by repeat' (first | exact trivial | exact rfl | refine And.intro ?_ ?_)) trivial ?_
  refine ao_end (w_then (fun s=>∃ m nx,Ghost Tryz.prog s ⟨envL [],m,nx⟩∧(List.range a.length).all (fun i=>a.getD i 0==b.getD i 0)=true) (w_range (α:=Nat×Mem×Nat)
    (fun s=>⟨envL [(0,encInts a),(1,encInts b),(12,I a.length),(13,I s.1)],s.2.1,s.2.2⟩)
    (fun s=>s.1≤a.length∧(List.range s.1).all (fun i=>a.getD i 0==b.getD i 0)=true) (fun s=>a.length - s.1) (0,_,_)
    (ghost_of ⟨rfl,rfl,rfl,rfl,trivial⟩) ⟨Nat.zero_le _,rfl⟩ ?_) ?_)
  · rintro ⟨i,m,nx⟩ ⟨hi,hall⟩
    dsimp only at hi hall ⊢
    (first | refine ao_p (e_lssK rfl rfl klss) (by repeat' (first | exact trivial | exact rfl | refine And.intro ?_ ?_)) rfl ?_ | refine ao_p (e_lss rfl rfl) (by repeat' (first | exact trivial | exact rfl | refine And.intro ?_ ?_)) rfl ?_)
    refine ao_end ⟨_,rfl,fun h=>?_,fun h=>?_⟩
    · have hil:i<a.length:=by simpa using h
      obtain ⟨x,hx⟩:∃ x,a[i]? =some x:=⟨_,List.getElem?_eq_getElem hil⟩
      obtain ⟨y,hy⟩:∃ y,b[i]? =some y:=⟨_,List.getElem?_eq_getElem (by omega)⟩
      have hp:(a.getD i 0==b.getD i 0)=(x==y):=by rw [eq_at hx,eq_at hy]
      refine w_seq_region ?_
      refine ao_p (e_move (v:=.s (.int _ _)) rfl) (by repeat' (first | exact trivial | exact rfl | refine And.intro ?_ ?_)) trivial ?_
      refine ao_p (e_assign (v:=.s (.int _ _)) rfl) (by repeat' (first | exact trivial | exact rfl | refine And.intro ?_ ?_)) trivial ?_
      refine ao_end (w_seq_draw di_r24_6 ?_)
      (first | refine ao_p (e_move (v:=.sl _ _) rfl) (by repeat' (first | exact trivial | exact rfl | refine And.intro ?_ ?_)) trivial ?_ | refine ao_p (e_move (v:=.rs _ _ _) rfl) (by repeat' (first | exact trivial | exact rfl | refine And.intro ?_ ?_)) trivial ?_ | refine ao_p (e_move (v:=.z) rfl) (by repeat' (first | exact trivial | exact rfl | refine And.intro ?_ ?_)) trivial ?_)
      refine ao_p (e_move (v:=.s (.int _ _)) rfl) (by repeat' (first | exact trivial | exact rfl | refine And.intro ?_ ?_)) trivial ?_
      (first | refine ao_p (e_idx1 rfl rfl e35 c3 (by assumption)) (by repeat' (first | exact trivial | exact rfl | refine And.intro ?_ ?_)) (p_idx1 sl35 (by assumption)) ?_ | refine ao_p (e_idxRi rfl rfl rfl e35 c3) (by repeat' (first | exact trivial | exact rfl | refine And.intro ?_ ?_)) ⟨sl35,by omega⟩ ?_ | refine ao_p (e_idxRo rfl rfl rfl e35 c3) (by repeat' (first | exact trivial | exact rfl | refine And.intro ?_ ?_)) ⟨sl35,by omega⟩ ?_ | refine ao_p (e_idxR rfl rfl rfl e35 c3) (by repeat' (first | exact trivial | exact rfl | refine And.intro ?_ ?_)) ⟨sl35,by omega,by omega⟩ ?_)
      (first | refine ao_p (e_load rfl a3) (by repeat' (first | exact trivial | exact rfl | refine And.intro ?_ ?_)) (p_load t3 c3) ?_ | refine ao_p (e_loadR rfl rfl kd a3) (by repeat' (first | exact trivial | exact rfl | refine And.intro ?_ ?_)) (p_loadR t3 c3 kd) ?_ | refine ao_p (e_loadR rfl rfl kd' a3) (by repeat' (first | exact trivial | exact rfl | refine And.intro ?_ ?_)) (p_loadR t3 c3 kd') ?_ | refine ao_p (e_loadR rfl rfl rfl a3) (by repeat' (first | exact trivial | exact rfl | refine And.intro ?_ ?_)) (p_loadR t3 c3 rfl) ?_)
      (first | refine ao_p (e_move (v:=.sl _ _) rfl) (by repeat' (first | exact trivial | exact rfl | refine And.intro ?_ ?_)) trivial ?_ | refine ao_p (e_move (v:=.rs _ _ _) rfl) (by repeat' (first | exact trivial | exact rfl | refine And.intro ?_ ?_)) trivial ?_ | refine ao_p (e_move (v:=.z) rfl) (by repeat' (first | exact trivial | exact rfl | refine And.intro ?_ ?_)) trivial ?_)
      refine ao_p (e_move (v:=.s (.int _ _)) rfl) (by repeat' (first | exact trivial | exact rfl | refine And.intro ?_ ?_)) trivial ?_
      (first | refine ao_p (e_idx1 rfl rfl e35 c3 (by assumption)) (by repeat' (first | exact trivial | exact rfl | refine And.intro ?_ ?_)) (p_idx1 sl35 (by assumption)) ?_ | refine ao_p (e_idxRi rfl rfl rfl e35 c3) (by repeat' (first | exact trivial | exact rfl | refine And.intro ?_ ?_)) ⟨sl35,by omega⟩ ?_ | refine ao_p (e_idxRo rfl rfl rfl e35 c3) (by repeat' (first | exact trivial | exact rfl | refine And.intro ?_ ?_)) ⟨sl35,by omega⟩ ?_ | refine ao_p (e_idxR rfl rfl rfl e35 c3) (by repeat' (first | exact trivial | exact rfl | refine And.intro ?_ ?_)) ⟨sl35,by omega,by omega⟩ ?_)
      (first | refine ao_p (e_load rfl a3) (by repeat' (first | exact trivial | exact rfl | refine And.intro ?_ ?_)) (p_load t3 c3) ?_ | refine ao_p (e_loadR rfl rfl kd a3) (by repeat' (first | exact trivial | exact rfl | refine And.intro ?_ ?_)) (p_loadR t3 c3 kd) ?_ | refine ao_p (e_loadR rfl rfl kd' a3) (by repeat' (first | exact trivial | exact rfl | refine And.intro ?_ ?_)) (p_loadR t3 c3 kd') ?_ | refine ao_p (e_loadR rfl rfl rfl a3) (by repeat' (first | exact trivial | exact rfl | refine And.intro ?_ ?_)) (p_loadR t3 c3 rfl) ?_)
      (first | refine ao_p (e_neqK rfl rfl kneq) (by repeat' (first | exact trivial | exact rfl | refine And.intro ?_ ?_)) rfl ?_ | refine ao_p (e_neq rfl rfl) (by repeat' (first | exact trivial | exact rfl | refine And.intro ?_ ?_)) rfl ?_)
      refine ao_endc (by simp [apartT]) (w_if rfl (fun h=>w_seq_region ?_) fun h=>w_end ?_)
      · have hf:(x==y)=false:=by simpa using h
        rw [all_no hil (hp.trans hf)]
        refine ao_p (e_assign (v:=.s (.bool _)) rfl) (by repeat' (first | exact trivial | exact rfl | refine And.intro ?_ ?_)) trivial ?_
        exact ao_end (w_ret (j_body (j_seq (q_ret1 rfl rfl))))
      · have hf:(x==y)=true:=by simpa using h
        refine ao_p (e_add rfl rfl (by omega)) (by repeat' (first | exact trivial | exact rfl | refine And.intro ?_ ?_)) rfl ?_
        refine ao_p (e_move (v:=.s (.int _ _)) rfl) (by repeat' (first | exact trivial | exact rfl | refine And.intro ?_ ?_)) trivial ?_
        exact ao_end (next_of (i+1,m,nx) (ghost_of ⟨rfl,rfl,rfl,rfl,trivial⟩) ⟨by dsimp only;omega,all_yes hall (hp.trans hf)⟩ (by dsimp only;omega))
    · have hge:¬ i<a.length:=by simpa using h
      have:i=a.length:=by omega
      subst this
      exact ⟨m,nx,ghost_of trivial,hall⟩
  · rintro s ⟨m,nx,hgh,hall⟩
    rw [hall]
    refine ⟨_,hgh,w_seq_region ?_⟩
    refine ao_p (e_assign (v:=.s (.bool _)) rfl) (by repeat' (first | exact trivial | exact rfl | refine And.intro ?_ ?_)) trivial ?_
    exact ao_end (q_ret1 rfl rfl)
end Go.Proofs.Tryz.K
end
